/- Functions and contracts that FnExactShortestInputs reaches (11 of 12). -/
import Derived.Test.YthieppjmjgijfaaQFnExactShortestInputsx9
namespace Go.Proofs.Ythieppjmjgijfaa.PFnExactShortestInputs
open Go.RowKit Go.Proofs.YthieppjmjgijfaaW.PrintWords Go.Proofs.YthieppjmjgijfaaW.PrintLast Go.Proofs.YthieppjmjgijfaaW.PrintMore
attribute [local go_sem] max2_int min2_int max_two min_two max_three min_three max_four min_four   -- for this text's walks alone
set_option linter.unusedVariables false
set_option linter.unusedSimpArgs false
open Go.Proofs.YthieppjmjgijfaaX

/-! ### spec_ShortestInputs: function 35 -/
mutual
def spec_ShortestInputs.j0 : Nat → List Int → Int → Int → Bool → Bool → Bool → Bool → Bool → Bool → Int → Option (List Int × Int)
 | 0, _, _, _, _, _, _, _, _, _, _ => none
 | k + 1, x1, x2, x8, x23, x315000, x315001, x315002, x315003, x315004, x315005 => if x23 = true then (spec_ShortestInputs.j1 k x1 x2 2 x315000 x315001 x315002 x315003 x315004 x315005) else (spec_ShortestInputs.j1 k x1 x2 x8 x315000 x315001 x315002 x315003 x315004 x315005)
def spec_ShortestInputs.j1 : Nat → List Int → Int → Int → Bool → Bool → Bool → Bool → Bool → Int → Option (List Int × Int)
 | 0, _, _, _, _, _, _, _, _, _ => none
 | k + 1, x1, x2, x8, x315000, x315001, x315002, x315003, x315004, x315005 => if x8 = 0 then ((spec_l25Number.f k x315000 x315001 x315002 x315003 x315004 x315005).bind fun t317 => (spec_ShortestInputs.l0 k x1 x2 (([t317] : List Int)) (([(([] : List Int))] : List (List Int))) 0)) else (some (([] : List Int), x8))
def spec_ShortestInputs.l0 : Nat → List Int → Int → List Int → List (List Int) → Int → Option (List Int × Int)
 | 0, _, _, _, _, _ => none
 | k + 1, x1, x2, x9, x10, x11 => if x11 < (x9.length : Int) then (if 0 ≤ x11 then (if (rd x9 x11) = x2 then (if x11 < (x10.length : Int) then (some (rd_L1 x10 x11, 0)) else (none)) else ((spec_l25Next.f k (rd x9 x11) x1).bind fun t330 => (spec_ShortestInputs.l1 k x1 x2 x9 x10 x11 t330 0))) else (none)) else (some (([] : List Int), 4))
def spec_ShortestInputs.l1 : Nat → List Int → Int → List Int → List (List Int) → Int → List Int → Int → Option (List Int × Int)
 | 0, _, _, _, _, _, _, _ => none
 | k + 1, x1, x2, x9, x10, x11, x12, x13 => if x13 < (x12.length : Int) then (if 0 ≤ x13 then (if (rd x12 x13) ≥ 0 then ((spec_l01Has.f k x9 (rd x12 x13)).bind fun t335 => (if t335 = true then (spec_ShortestInputs.l1 k x1 x2 x9 x10 x11 x12 (wrap64 (x13 + 1))) else ((some (([rd x12 x13] : List Int) : List Int)).bind fun y337 => (if x9.length + y337.length < 17592186044416 then (if 0 ≤ x11 then (if x11 < (x10.length : Int) then ((spec_l01Own.f (rd_L1 x10 x11)).bind fun t344 => (if x13 < (x1.length : Int) then ((some (([rd x1 x13] : List Int) : List Int)).bind fun y348 => (if t344.length + y348.length < 17592186044416 then ((some (([(t344 ++ y348)] : List (List Int)) : List (List Int))).bind fun y354 => (if x10.length + y354.length < 5864062014805 then (spec_ShortestInputs.l1 k x1 x2 (x9 ++ y337) (x10 ++ y354) x11 x12 (wrap64 (x13 + 1))) else (none))) else (none))) else (none))) else (none)) else (none)) else (none))))) else (spec_ShortestInputs.l1 k x1 x2 x9 x10 x11 x12 (wrap64 (x13 + 1)))) else (none)) else (spec_ShortestInputs.l0 k x1 x2 x9 x10 (wrap64 (x11 + 1)))
end
def spec_ShortestInputs.f (k : Nat) (a0_0 : Bool) (a0_1 : Bool) (a0_2 : Bool) (a0_3 : Bool) (a0_4 : Bool) (a0_5 : Int) (l1 : List Int) (a2 : Int) : Option (List Int × Int) := (spec_l25Code.f k a0_0 a0_1 a0_2 a0_3 a0_4 a0_5 l1).bind fun t315 => (if t315 = 0 then ((spec_l25Is.f a2).bind fun t316 => (spec_ShortestInputs.j0 k l1 a2 t315 (!t316) a0_0 a0_1 a0_2 a0_3 a0_4 a0_5)) else (spec_ShortestInputs.j0 k l1 a2 t315 false a0_0 a0_1 a0_2 a0_3 a0_4 a0_5))
theorem spec_ShortestInputs.mono_l : ∀ k, (∀ y0 y1 y2 y3 y4 y5 y6 y7 y8 y9, LeO (spec_ShortestInputs.j0 k y0 y1 y2 y3 y4 y5 y6 y7 y8 y9) (spec_ShortestInputs.j0 (k + 1) y0 y1 y2 y3 y4 y5 y6 y7 y8 y9)) ∧ (∀ y0 y1 y2 y3 y4 y5 y6 y7 y8, LeO (spec_ShortestInputs.j1 k y0 y1 y2 y3 y4 y5 y6 y7 y8) (spec_ShortestInputs.j1 (k + 1) y0 y1 y2 y3 y4 y5 y6 y7 y8)) ∧ (∀ y0 y1 y2 y3 y4, LeO (spec_ShortestInputs.l0 k y0 y1 y2 y3 y4) (spec_ShortestInputs.l0 (k + 1) y0 y1 y2 y3 y4)) ∧ (∀ y0 y1 y2 y3 y4 y5 y6, LeO (spec_ShortestInputs.l1 k y0 y1 y2 y3 y4 y5 y6) (spec_ShortestInputs.l1 (k + 1) y0 y1 y2 y3 y4 y5 y6))
 | 0 => ⟨fun _ _ _ _ _ _ _ _ _ _ r h => by simp [spec_ShortestInputs.j0] at h, fun _ _ _ _ _ _ _ _ _ r h => by simp [spec_ShortestInputs.j1] at h, fun _ _ _ _ _ r h => by simp [spec_ShortestInputs.l0] at h, fun _ _ _ _ _ _ _ r h => by simp [spec_ShortestInputs.l1] at h⟩
 | k + 1 => by
  obtain ⟨ih0, ih1, ih2, ih3⟩ := spec_ShortestInputs.mono_l k
  refine ⟨?_, ?_, ?_, ?_⟩
  ·intro y0 y1 y2 y3 y4 y5 y6 y7 y8 y9
   unfold spec_ShortestInputs.j0
   repeat' first
   | (with_reducible exact ih0 _ _ _ _ _ _ _ _ _ _)
   | (with_reducible exact ih1 _ _ _ _ _ _ _ _ _)
   | (with_reducible exact ih2 _ _ _ _ _)
   | (with_reducible exact ih3 _ _ _ _ _ _ _)
   | (with_reducible exact spec_l01Has.mono _ _ _)
   | (with_reducible exact spec_l25Code.mono _ _ _ _ _ _ _ _)
   | (with_reducible exact spec_l25Next.mono _ _ _)
   | (with_reducible exact spec_l25Number.mono _ _ _ _ _ _ _)
   | (with_reducible exact LeO.refl _)
   | (with_reducible exact LeO.none _)
   | (with_reducible refine LeO.ite ?_ ?_)
   | (with_reducible refine LeO.bind ?_ (fun _ => ?_))
   | exact ih0 _ _ _ _ _ _ _ _ _ _
   | exact ih1 _ _ _ _ _ _ _ _ _
   | exact ih2 _ _ _ _ _
   | exact ih3 _ _ _ _ _ _ _
   | exact spec_l01Has.mono _ _ _
   | exact spec_l25Code.mono _ _ _ _ _ _ _ _
   | exact spec_l25Next.mono _ _ _
   | exact spec_l25Number.mono _ _ _ _ _ _ _
   | exact LeO.none _
   | refine LeO.ite ?_ ?_
   | refine LeO.bind ?_ (fun _ => ?_)
  ·intro y0 y1 y2 y3 y4 y5 y6 y7 y8
   unfold spec_ShortestInputs.j1
   repeat' first
   | (with_reducible exact ih0 _ _ _ _ _ _ _ _ _ _)
   | (with_reducible exact ih1 _ _ _ _ _ _ _ _ _)
   | (with_reducible exact ih2 _ _ _ _ _)
   | (with_reducible exact ih3 _ _ _ _ _ _ _)
   | (with_reducible exact spec_l01Has.mono _ _ _)
   | (with_reducible exact spec_l25Code.mono _ _ _ _ _ _ _ _)
   | (with_reducible exact spec_l25Next.mono _ _ _)
   | (with_reducible exact spec_l25Number.mono _ _ _ _ _ _ _)
   | (with_reducible exact LeO.refl _)
   | (with_reducible exact LeO.none _)
   | (with_reducible refine LeO.ite ?_ ?_)
   | (with_reducible refine LeO.bind ?_ (fun _ => ?_))
   | exact ih0 _ _ _ _ _ _ _ _ _ _
   | exact ih1 _ _ _ _ _ _ _ _ _
   | exact ih2 _ _ _ _ _
   | exact ih3 _ _ _ _ _ _ _
   | exact spec_l01Has.mono _ _ _
   | exact spec_l25Code.mono _ _ _ _ _ _ _ _
   | exact spec_l25Next.mono _ _ _
   | exact spec_l25Number.mono _ _ _ _ _ _ _
   | exact LeO.none _
   | refine LeO.ite ?_ ?_
   | refine LeO.bind ?_ (fun _ => ?_)
  ·intro y0 y1 y2 y3 y4
   unfold spec_ShortestInputs.l0
   repeat' first
   | (with_reducible exact ih0 _ _ _ _ _ _ _ _ _ _)
   | (with_reducible exact ih1 _ _ _ _ _ _ _ _ _)
   | (with_reducible exact ih2 _ _ _ _ _)
   | (with_reducible exact ih3 _ _ _ _ _ _ _)
   | (with_reducible exact spec_l01Has.mono _ _ _)
   | (with_reducible exact spec_l25Code.mono _ _ _ _ _ _ _ _)
   | (with_reducible exact spec_l25Next.mono _ _ _)
   | (with_reducible exact spec_l25Number.mono _ _ _ _ _ _ _)
   | (with_reducible exact LeO.refl _)
   | (with_reducible exact LeO.none _)
   | (with_reducible refine LeO.ite ?_ ?_)
   | (with_reducible refine LeO.bind ?_ (fun _ => ?_))
   | exact ih0 _ _ _ _ _ _ _ _ _ _
   | exact ih1 _ _ _ _ _ _ _ _ _
   | exact ih2 _ _ _ _ _
   | exact ih3 _ _ _ _ _ _ _
   | exact spec_l01Has.mono _ _ _
   | exact spec_l25Code.mono _ _ _ _ _ _ _ _
   | exact spec_l25Next.mono _ _ _
   | exact spec_l25Number.mono _ _ _ _ _ _ _
   | exact LeO.none _
   | refine LeO.ite ?_ ?_
   | refine LeO.bind ?_ (fun _ => ?_)
  ·intro y0 y1 y2 y3 y4 y5 y6
   unfold spec_ShortestInputs.l1
   repeat' first
   | (with_reducible exact ih0 _ _ _ _ _ _ _ _ _ _)
   | (with_reducible exact ih1 _ _ _ _ _ _ _ _ _)
   | (with_reducible exact ih2 _ _ _ _ _)
   | (with_reducible exact ih3 _ _ _ _ _ _ _)
   | (with_reducible exact spec_l01Has.mono _ _ _)
   | (with_reducible exact spec_l25Code.mono _ _ _ _ _ _ _ _)
   | (with_reducible exact spec_l25Next.mono _ _ _)
   | (with_reducible exact spec_l25Number.mono _ _ _ _ _ _ _)
   | (with_reducible exact LeO.refl _)
   | (with_reducible exact LeO.none _)
   | (with_reducible refine LeO.ite ?_ ?_)
   | (with_reducible refine LeO.bind ?_ (fun _ => ?_))
   | exact ih0 _ _ _ _ _ _ _ _ _ _
   | exact ih1 _ _ _ _ _ _ _ _ _
   | exact ih2 _ _ _ _ _
   | exact ih3 _ _ _ _ _ _ _
   | exact spec_l01Has.mono _ _ _
   | exact spec_l25Code.mono _ _ _ _ _ _ _ _
   | exact spec_l25Next.mono _ _ _
   | exact spec_l25Number.mono _ _ _ _ _ _ _
   | exact LeO.none _
   | refine LeO.ite ?_ ?_
   | refine LeO.bind ?_ (fun _ => ?_)
theorem spec_ShortestInputs.mono : ∀ a0 a1 a2 a3 a4 a5 a6 a7 k, LeO (spec_ShortestInputs.f k a0 a1 a2 a3 a4 a5 a6 a7) (spec_ShortestInputs.f (k + 1) a0 a1 a2 a3 a4 a5 a6 a7) := by
 intro a0 a1 a2 a3 a4 a5 a6 a7 k
 obtain ⟨ih0, ih1, ih2, ih3⟩ := spec_ShortestInputs.mono_l k
 unfold spec_ShortestInputs.f
 repeat' first
   | (with_reducible exact ih0 _ _ _ _ _ _ _ _ _ _)
   | (with_reducible exact ih1 _ _ _ _ _ _ _ _ _)
   | (with_reducible exact ih2 _ _ _ _ _)
   | (with_reducible exact ih3 _ _ _ _ _ _ _)
   | (with_reducible exact spec_l01Has.mono _ _ _)
   | (with_reducible exact spec_l25Code.mono _ _ _ _ _ _ _ _)
   | (with_reducible exact spec_l25Next.mono _ _ _)
   | (with_reducible exact spec_l25Number.mono _ _ _ _ _ _ _)
   | (with_reducible exact LeO.refl _)
   | (with_reducible exact LeO.none _)
   | (with_reducible refine LeO.ite ?_ ?_)
   | (with_reducible refine LeO.bind ?_ (fun _ => ?_))
   | exact ih0 _ _ _ _ _ _ _ _ _ _
   | exact ih1 _ _ _ _ _ _ _ _ _
   | exact ih2 _ _ _ _ _
   | exact ih3 _ _ _ _ _ _ _
   | exact spec_l01Has.mono _ _ _
   | exact spec_l25Code.mono _ _ _ _ _ _ _ _
   | exact spec_l25Next.mono _ _ _
   | exact spec_l25Number.mono _ _ _ _ _ _ _
   | exact LeO.none _
   | refine LeO.ite ?_ ?_
   | refine LeO.bind ?_ (fun _ => ?_)
def spec_ShortestInputs.T19 : Bool × List (List Nat × List Nat) := (true, [([], []), ([], []), ([], []), ([1, 2], [1, 2]), ([3], [3]), ([4], [4]), ([], []), ([], []), ([6, 7], [6, 7]), ([8], [8]), ([9], [9]), ([5, 10, 5], [5, 10]), ([11], [11]), ([0, 12, 11], [0, 12]), ([13, 13, 0, 1, 2, 3, 4, 5, 6, 7, 8, 9, 10, 11, 12, 13], [0, 1, 13])])
def spec_ShortestInputs.B19 : List Nat := [0, 0, 0, 6, 14, 30, 0, 0, 192, 448, 960, 2046, 4094, 8191, 16383]
theorem spec_ShortestInputs.tab19 : rtab .any (opsOf Try.f35 19) = spec_ShortestInputs.T19 := by kernel_rfl
theorem spec_ShortestInputs.bits19 : waitsOk spec_ShortestInputs.T19.2 spec_ShortestInputs.B19 = true := by kernel_rfl
set_option maxHeartbeats 8000000 in
set_option maxRecDepth 100000 in
theorem spec_ShortestInputs.calls (k : Nat) (a0_0 : Bool) (a0_1 : Bool) (a0_2 : Bool) (a0_3 : Bool) (a0_4 : Bool) (a0_5 : Int) (A1 : Option Addr) (c1 : Nat) (l1 : List Int) (a2 : Int) (r1 : List Int) (r2 : Int) (w : World) (hr1 : Kd.C (Kd.int .i64) w A1 l1.length l1) (hc1 : l1.length ≤ c1) (h : spec_ShortestInputs.f k a0_0 a0_1 a0_2 a0_3 a0_4 a0_5 l1 a2 = some (r1, r2)) :
  Calls Try.prog 35 #[.agg #[.bool a0_0, .bool a0_1, .bool a0_2, .bool a0_3, .bool a0_4, .int .i64 a0_5], .slice A1 l1.length c1, .int .i64 a2] w fun e w' => ∃ v0_ : Value, e = .returned (.tuple #[v0_, .int .i64 r2]) ∧ Kd.V (Kd.int .i64) 2 w' w.heap.size (fun k_ => (w.heap.size ≤ k_)) v0_ r1 ∧ Below w.heap.size w w' := by
 have hu23 := Try.underlying23
 have HR1 := jA hr1
 have HC1 := jA hc1
 clear hr1 hc1
 have HB := jA (Below.refl w.heap.size w)
 have H : ((spec_l25Code.f k a0_0 a0_1 a0_2 a0_3 a0_4 a0_5 l1).bind fun t315 => (if t315 = 0 then ((spec_l25Is.f a2).bind fun t316 => (spec_ShortestInputs.j0 k l1 a2 t315 (!t316) a0_0 a0_1 a0_2 a0_3 a0_4 a0_5)) else (spec_ShortestInputs.j0 k l1 a2 t315 false a0_0 a0_1 a0_2 a0_3 a0_4 a0_5))) = some (r1, r2) := h
 clear h
 replace H := jQ.mp H
 obtain ⟨t315, A40, H⟩ := H
 replace H : (if t315 = 0 then ((spec_l25Is.f a2).bind fun t316 => (spec_ShortestInputs.j0 k l1 a2 t315 (!t316) a0_0 a0_1 a0_2 a0_3 a0_4 a0_5)) else (spec_ShortestInputs.j0 k l1 a2 t315 false a0_0 a0_1 a0_2 a0_3 a0_4 a0_5)) = some (r1, r2) := H
 have A4 := jA A40
 clear A40
 have HC5 := jA H
 clear H
 go_enter Try.func35, Try.ntmps35
 go_upto_region 2 with (first | ((with_reducible refine jO (N := 3) rfl ?_); refine jN ?hg (N := 3) ?hd (cs := #[.bool a0_0, .bool a0_1, .bool a0_2, .bool a0_3, .bool a0_4, .int .i64 a0_5]) (t := 23) ?hr ?_; (case hd => rfl); (case hg => rfl); (case hr => first | (go_simp; done) | (go_simp; rfl)); intro gb314 hg w6 hbox hb; have n0_ := jA (jJ (zb0 HB) hb); have n1_ := jA (hbox); have n2_ := jA ((by rw [hg]; exact (jG (zb0 HB)) : w.heap.size ≤ gb314)); have n3_ := jA ((by rw [hg]; exact (jG (zb0 HB)) : w.heap.size ≤ gb314)); clear HB; have HB := n0_; have BK314 := n1_; have GW314 := n2_; have GE314 := n3_; clear n0_ n1_ n2_ n3_; clear hb hbox hg; have hcz7_0 : w6.cell? ⟨gb314, 0, none⟩ = some (.bool a0_0) := (jC BK314.out 0).trans rfl; have hcz7_1 : w6.cell? ⟨gb314, 1, none⟩ = some (.bool a0_1) := (jC BK314.out 1).trans rfl; have hcz7_2 : w6.cell? ⟨gb314, 2, none⟩ = some (.bool a0_2) := (jC BK314.out 2).trans rfl; have hcz7_3 : w6.cell? ⟨gb314, 3, none⟩ = some (.bool a0_3) := (jC BK314.out 3).trans rfl; have hcz7_4 : w6.cell? ⟨gb314, 4, none⟩ = some (.bool a0_4) := (jC BK314.out 4).trans rfl; have hcz7_5 : w6.cell? ⟨gb314, 5, none⟩ = some (.int .i64 a0_5) := (jC BK314.out 5).trans rfl; have hfz7_0 := jB BK314.out 0; have hfz7_1 := jB BK314.out 1; have hfz7_2 := jB BK314.out 2; have hfz7_3 := jB BK314.out 3; have hfz7_4 := jB BK314.out 4; have hfz7_5 := jB BK314.out 5) | ((with_reducible refine jd (f := 70) rfl ?_); refine goesL_ (some 16) rfl rfl Try.func70 zr rfl #[.agg #[.bool a0_0, .bool a0_1, .bool a0_2, .bool a0_3, .bool a0_4, .int .i64 a0_5], .slice A1 l1.length c1] rfl zm ?_; (with_reducible refine (spec_l25Code.calls k a0_0 a0_1 a0_2 a0_3 a0_4 a0_5 _ _ l1 t315 _ ?side1 ?side2 A4.out).mono ?_); (case side1 => exact zs HR1 HB); (case side2 => exact HC1.out); rintro e w8 ⟨rfl, hb⟩; refine ⟨_, rfl, ?_⟩; have n0_ := jA (jP (g := gb314) (o := .cells #[.bool a0_0, .bool a0_1, .bool a0_2, .bool a0_3, .bool a0_4, .int .i64 a0_5] 23 (0, 0)) (zk BK314) hb); have n1_ := jA (jJ (zb1 HB GE314) hb); clear BK314; clear HB; have BK314 := n0_; have HB := n1_; clear n0_ n1_; (try clear hb); (try clear hb2); (try clear hk); (try clear hi)))
 (try simp only [Act.put, jL, jV, jW])
 go_cut [23] (fun v23 wc => ∃ (kq : Nat) (x23_4 : Bool), v23 = .bool x23_4 ∧ Aside0 (spec_ShortestInputs.j0 kq l1 a2 t315 x23_4 a0_0 a0_1 a0_2 a0_3 a0_4 a0_5 = some (r1, r2)) ∧ Aside0 (kq ≤ k) ∧ Aside0 (wc.heap[gb314]? = some (.cells #[.bool a0_0, .bool a0_1, .bool a0_2, .bool a0_3, .bool a0_4, .int .i64 a0_5] 23 (0, 0))) ∧ Aside0 (Below w.heap.size w wc))
 case first =>
  have H := HC5.out
  clear HC5
  by_cases c9 : t315 = 0
  ·rw [if_pos c9] at H
   have c9b0 : (t315 == 0) = true := beq_iff_eq.mpr c9
   have c9b1 : (t315 != 0) = false := bne_eq_false_iff_eq.mpr c9
   clear c9
   (first | rw [c9b0] | (simp only [i64_w, i32_w]; rw [c9b0]) | skip)
   replace H := jQ.mp H
   obtain ⟨t316, A100, H⟩ := H
   replace H : (spec_ShortestInputs.j0 k l1 a2 t315 (!t316) a0_0 a0_1 a0_2 a0_3 a0_4 a0_5) = some (r1, r2) := H
   have A10 := jA A100
   clear A100
   have H' := jA H
   clear H
   go_wp2_with (first | (go_at_call 47; (with_reducible refine (spec_l25Is.calls a2 t316 _ A10.out).mono ?_); rintro e w11 ⟨rfl, hb⟩; have n0_ := jA (jP (g := gb314) (o := .cells #[.bool a0_0, .bool a0_1, .bool a0_2, .bool a0_3, .bool a0_4, .int .i64 a0_5] 23 (0, 0)) (zk BK314) hb); have n1_ := jA (jJ (zb1 HB GE314) hb); clear BK314; clear HB; have BK314 := n0_; have HB := n1_; clear n0_ n1_; (try clear hb); (try clear hb2); (try clear hk); (try clear hi)))
   go_meet
   case rel => exact ⟨_, (!t316), zz, H', ⟨by first | omega | exact Nat.le_refl _⟩, ⟨by (with_reducible repeat (first | refine jD ?_ _ | refine jF ?_ | refine jE ?_ _)); exact BK314.out⟩, ⟨zb1 HB GE314⟩⟩
  ·rw [if_neg c9] at H
   have c9b0 : (t315 == 0) = false := beq_eq_false_iff_ne.mpr c9
   have c9b1 : (t315 != 0) = true := bne_iff_ne.mpr c9
   (first | rw [c9b0] | (simp only [i64_w, i32_w]; rw [c9b0]) | skip)
   have H' := jA H
   clear H
   go_wp2
   go_meet
   case rel => exact ⟨_, (false), zz, H', ⟨by first | omega | exact Nat.le_refl _⟩, ⟨by (with_reducible repeat (first | refine jD ?_ _ | refine jF ?_ | refine jE ?_ _)); exact BK314.out⟩, ⟨zb1 HB GE314⟩⟩
 case rest =>
  clear HC5
  try clear c1
  try clear p2
  try clear c3
  try clear c7
  try clear c9
  try clear c9b0
  try clear c9b1
  try clear hcz7_0
  try clear hcz7_1
  try clear hcz7_2
  try clear hcz7_3
  try clear hcz7_4
  try clear hcz7_5
  try clear hfz7_0
  try clear hfz7_1
  try clear hfz7_2
  try clear hfz7_3
  try clear hfz7_4
  try clear hfz7_5
  obtain ⟨kq, x23_4, rfl, HA, HJ4, BK314, HB⟩ := hcut
  cases kq with
  | zero => exact absurd HA.out (by simp [spec_ShortestInputs.j0])
  | succ kj4 =>
   have H := HA.out
   clear HA
   simp only [spec_ShortestInputs.j0] at H
   have HC12 := jA H
   clear H
   go_upto_if 23 with (fail)
   go_cut [8] (fun v8 wc => ∃ (kq : Nat) (x8_11 : Int), v8 = .int .i64 x8_11 ∧ Aside0 (spec_ShortestInputs.j1 kq l1 a2 x8_11 a0_0 a0_1 a0_2 a0_3 a0_4 a0_5 = some (r1, r2)) ∧ Aside0 (kq ≤ kj4) ∧ Aside0 (wc.heap[gb314]? = some (.cells #[.bool a0_0, .bool a0_1, .bool a0_2, .bool a0_3, .bool a0_4, .int .i64 a0_5] 23 (0, 0))) ∧ Aside0 (Below w.heap.size w wc))
   case first =>
    have H := HC12.out
    clear HC12
    by_cases c13 : x23_4 = true
    ·subst c13
     have H1 : (spec_ShortestInputs.j1 kj4 l1 a2 2 a0_0 a0_1 a0_2 a0_3 a0_4 a0_5) = some (r1, r2) := by rw [if_pos rfl] at H; exact H
     clear H
     have H := H1
     clear H1
     have H' := jA H
     clear H
     go_wp2
     go_meet
     case rel => exact ⟨_, (2), zz, H', ⟨by have := HJ4.out; first | omega | exact Nat.le_refl _⟩, ⟨by (with_reducible repeat (first | refine jD ?_ _ | refine jF ?_ | refine jE ?_ _)); exact BK314.out⟩, ⟨zb1 HB GE314⟩⟩
    ·replace c13 := Bool.eq_false_iff.mpr c13
     subst c13
     have H1 : (spec_ShortestInputs.j1 kj4 l1 a2 t315 a0_0 a0_1 a0_2 a0_3 a0_4 a0_5) = some (r1, r2) := by rw [if_neg (show ¬ (false = true) by decide)] at H; exact H
     clear H
     have H := H1
     clear H1
     have H' := jA H
     clear H
     go_wp2
     go_meet
     case rel => exact ⟨_, (t315), zz, H', ⟨by have := HJ4.out; first | omega | exact Nat.le_refl _⟩, ⟨by (with_reducible repeat (first | refine jD ?_ _ | refine jF ?_ | refine jE ?_ _)); exact BK314.out⟩, ⟨zb1 HB GE314⟩⟩
   case rest =>
    clear HC12
    try clear c1
    try clear p2
    try clear c3
    try clear c7
    try clear c9
    try clear c9b0
    try clear c9b1
    try clear c13
    try clear hcz7_0
    try clear hcz7_1
    try clear hcz7_2
    try clear hcz7_3
    try clear hcz7_4
    try clear hcz7_5
    try clear hfz7_0
    try clear hfz7_1
    try clear hfz7_2
    try clear hfz7_3
    try clear hfz7_4
    try clear hfz7_5
    try clear p2
    obtain ⟨kq, x8_11, rfl, HA, HJ11, BK314, HB⟩ := hcut
    cases kq with
    | zero => exact absurd HA.out (by simp [spec_ShortestInputs.j1])
    | succ kj11 =>
     have H := HA.out
     clear HA
     simp only [spec_ShortestInputs.j1] at H
     by_cases c14 : x8_11 = 0
     ·rw [if_pos c14] at H
      have c14b0 : (x8_11 == 0) = true := beq_iff_eq.mpr c14
      have c14b1 : (x8_11 != 0) = false := bne_eq_false_iff_eq.mpr c14
      clear c14
      replace H := jQ.mp H
      obtain ⟨t317, A150, H⟩ := H
      replace H : (spec_ShortestInputs.l0 kj11 l1 a2 (([t317] : List Int)) (([(([] : List Int))] : List (List Int))) 0) = some (r1, r2) := H
      have A15 := jA A150
      clear A150
      obtain ⟨y318, hy318⟩ : ∃ y_ : List Int, y_ = (([t317] : List Int)) := ⟨_, rfl⟩
      replace H : (spec_ShortestInputs.l0 kj11 l1 a2 y318 (([(([] : List Int))] : List (List Int))) 0) = some (r1, r2) := by first | (rw [hy318]; with_reducible exact H) | (have H2_ := (Option.bind_some _ _).symm.trans H; rw [hy318]; with_reducible exact H2_) | (have H2_ := (Option.bind_some _ _).symm.trans H; with_reducible exact H2_) | with_reducible exact H | (rw [hy318]; exact H) | exact H
      have Ny318 := jA hy318
      clear hy318
      obtain ⟨y321, hy321⟩ : ∃ y_ : List Int, y_ = (([] : List Int)) := ⟨_, rfl⟩
      replace H : (spec_ShortestInputs.l0 kj11 l1 a2 y318 (([y321] : List (List Int))) 0) = some (r1, r2) := by first | (rw [hy321]; with_reducible exact H) | (have H2_ := (Option.bind_some _ _).symm.trans H; rw [hy321]; with_reducible exact H2_) | (have H2_ := (Option.bind_some _ _).symm.trans H; with_reducible exact H2_) | with_reducible exact H | (rw [hy321]; exact H) | exact H
      have Ny321 := jA hy321
      clear hy321
      obtain ⟨y324, hy324⟩ : ∃ y_ : List (List Int), y_ = (([y321] : List (List Int))) := ⟨_, rfl⟩
      replace H : (spec_ShortestInputs.l0 kj11 l1 a2 y318 y324 0) = some (r1, r2) := by first | (rw [hy324]; with_reducible exact H) | (have H2_ := (Option.bind_some _ _).symm.trans H; rw [hy324]; with_reducible exact H2_) | (have H2_ := (Option.bind_some _ _).symm.trans H; with_reducible exact H2_) | with_reducible exact H | (rw [hy324]; exact H) | exact H
      have Ny324 := jA hy324
      clear hy324
      have H' := jA H
      clear H
      have hcz16_0 : wc.cell? ⟨gb314, 0, none⟩ = some (.bool a0_0) := (jC BK314.out 0).trans rfl
      have hcz16_1 : wc.cell? ⟨gb314, 1, none⟩ = some (.bool a0_1) := (jC BK314.out 1).trans rfl
      have hcz16_2 : wc.cell? ⟨gb314, 2, none⟩ = some (.bool a0_2) := (jC BK314.out 2).trans rfl
      have hcz16_3 : wc.cell? ⟨gb314, 3, none⟩ = some (.bool a0_3) := (jC BK314.out 3).trans rfl
      have hcz16_4 : wc.cell? ⟨gb314, 4, none⟩ = some (.bool a0_4) := (jC BK314.out 4).trans rfl
      have hcz16_5 : wc.cell? ⟨gb314, 5, none⟩ = some (.int .i64 a0_5) := (jC BK314.out 5).trans rfl
      have hfz16_0 := jB BK314.out 0
      have hfz16_1 := jB BK314.out 1
      have hfz16_2 := jB BK314.out 2
      have hfz16_3 := jB BK314.out 3
      have hfz16_4 := jB BK314.out 4
      have hfz16_5 := jB BK314.out 5
      go_wp2_with (first | ((with_reducible refine jd (f := 52) rfl ?_); refine goesL_ (some 28) rfl rfl Try.func52 zr rfl #[.agg #[.bool a0_0, .bool a0_1, .bool a0_2, .bool a0_3, .bool a0_4, .int .i64 a0_5]] rfl zm ?_; (with_reducible refine (spec_l25Number.calls kj11 a0_0 a0_1 a0_2 a0_3 a0_4 a0_5 t317 _ A15.out).mono ?_); rintro e w17 ⟨rfl, hb⟩; refine ⟨_, rfl, ?_⟩; have n0_ := jA (jP (g := gb314) (o := .cells #[.bool a0_0, .bool a0_1, .bool a0_2, .bool a0_3, .bool a0_4, .int .i64 a0_5] 23 (0, 0)) (zk BK314) hb); have n1_ := jA (jJ (zb1 HB GE314) hb); clear BK314; clear HB; have BK314 := n0_; have HB := n1_; clear n0_ n1_; (try clear hb); (try clear hb2); (try clear hk); (try clear hi)) | ((with_reducible refine jO (N := 29) rfl ?_); refine Kd.R_lit (Kd.int .i64) _ 2 ?hg (N := 29) ?hd (xs := ([t317] : List Int)) (inner := [.int .i64 t317]) (ok := fun _ => True) (okp := fun _ => True) ?hr ?hp (fun _ hk => hk) trivial (Below.refl _ _) (Nat.le_refl _) (by simp) ?_; (case hd => rfl); (case hg => rfl); (case hr => first | (go_simp; done) | (go_simp; rfl)); (case hp => exact (Reps.one (show Kd.M (Kd.int .i64) _ _ _ t317 [.int .i64 t317] from rfl) (Reps.none _ _))); intro v319 w18 ho19 hb hg_ hnew_; clear hg_ hnew_; (first | rw [← Ny318.out] at ho19 | (simp only [Int.reduceToNat] at ho19; rw [← Ny318.out] at ho19)); have n0_ := jA (Kd.R_lower (Kd.R_newM (M := fun k_ => (w.heap.size ≤ k_)) ho19 (jG (zb1 HB GE314)) (fun k_ h_ => h_)) (jG (zb1 HB GE314))); have n1_ := jA (jP (g := gb314) (o := .cells #[.bool a0_0, .bool a0_1, .bool a0_2, .bool a0_3, .bool a0_4, .int .i64 a0_5] 23 (0, 0)) (zk BK314) hb); have n2_ := jA (jJ (zb1 HB GE314) hb); clear BK314; clear HB; have HO320 := n0_; have BK314 := n1_; have HB := n2_; clear n0_ n1_ n2_; clear hb ho19) | ((with_reducible refine jO (N := 30) rfl ?_); refine Kd.R_lit (Kd.int .i64) _ 2 ?hg (N := 30) ?hd (xs := ([] : List Int)) (inner := []) (ok := fun _ => True) (okp := fun _ => True) ?hr ?hp (fun _ hk => hk) trivial (Below.refl _ _) (Nat.le_refl _) (by simp) ?_; (case hd => rfl); (case hg => rfl); (case hr => first | (go_simp; done) | (go_simp; rfl)); (case hp => exact (Reps.none _ _)); intro v322 w20 ho21 hb hg_ hnew_; clear hg_ hnew_; (first | rw [← Ny321.out] at ho21 | (simp only [Int.reduceToNat] at ho21; rw [← Ny321.out] at ho21)); have n0_ := jA (Kd.R_elder' (zo HO320) (Kd.R_base ho21) hb); have n1_ := jA (Kd.R_lower (Kd.R_new' (Kd.R_newM (M := fun k_ => (w.heap.size ≤ k_)) ho21 (jG (zb1 HB GE314)) (fun k_ h_ => h_)) (Kd.R_lt (zo HO320))) (jG (zb1 HB GE314))); have n2_ := jA (jP (g := gb314) (o := .cells #[.bool a0_0, .bool a0_1, .bool a0_2, .bool a0_3, .bool a0_4, .int .i64 a0_5] 23 (0, 0)) (zk BK314) hb); have n3_ := jA (jJ (zb1 HB GE314) hb); clear HO320; clear BK314; clear HB; have HO320 := n0_; have HO323 := n1_; have BK314 := n2_; have HB := n3_; clear n0_ n1_ n2_ n3_; clear hb ho21; obtain ⟨Ao22, co22, eo22⟩ := Kd.R_slice HO323.out; subst eo22) | ((with_reducible refine jO (N := 31) rfl ?_); refine Kd.N_lit (Kd.slice 2 (Kd.int .i64)) _ 35 ?hg (N' := 31) ?hd (xs := ([y321] : List (List Int))) (inner := [.slice Ao22 y321.length co22]) (ok := (fun k_ => (w.heap.size ≤ k_) ∧ some k_ ≠ (v319 : Value).ownBlock ∧ k_ ≠ gb314)) (okp := (fun k_ => (w.heap.size ≤ k_) ∧ some k_ ≠ (v319 : Value).ownBlock ∧ k_ ≠ gb314)) ?hr ?hp (fun _ hk => hk) ((show ∀ k_, w20.heap.size ≤ k_ → (fun k_ => (w.heap.size ≤ k_) ∧ some k_ ≠ (v319 : Value).ownBlock ∧ k_ ≠ gb314) k_ from fun k_ hk => ⟨(Nat.le_trans (jG (zb1 HB GE314)) hk), Kd.fresh' (Kd.R_lt (zo HO320)) k_ hk, Kd.freshB (g := gb314) (o := .cells #[.bool a0_0, .bool a0_1, .bool a0_2, .bool a0_3, .bool a0_4, .int .i64 a0_5] 23 (0, 0)) (zk BK314) k_ hk⟩) _ (Nat.le_refl _)) (Below.refl _ _) (Nat.le_refl _) (by simp) ?_; (case hd => rfl); (case hg => rfl); (case hr => first | (go_simp; done) | (go_simp; rfl)); (case hp => exact (Reps.one (show Kd.FK (Kd.slice 2 (Kd.int .i64)) _ _ y321 [.slice Ao22 y321.length co22] from (Kd.FK_slice_mk (Kd.R_reads' (Kd.R_mono (ok' := (fun k_ => (w.heap.size ≤ k_) ∧ some k_ ≠ (v319 : Value).ownBlock ∧ k_ ≠ gb314)) (Kd.R_types (HO323.out) BK314.out (by decide)) (fun k_ hk => ⟨hk.1.1.1, ⟨hk.1.2, hk.2⟩⟩))).2.1 (Kd.R_F (Kd.R_mono (ok' := (fun k_ => (w.heap.size ≤ k_) ∧ some k_ ≠ (v319 : Value).ownBlock ∧ k_ ≠ gb314)) (Kd.R_types (HO323.out) BK314.out (by decide)) (fun k_ hk => ⟨hk.1.1.1, ⟨hk.1.2, hk.2⟩⟩))))) (Reps.none _ _))); intro v325 w23 ho24 hb hg_ hnew_; clear hg_ hnew_; (first | rw [← Ny324.out] at ho24 | (simp only [Int.reduceToNat] at ho24; rw [← Ny324.out] at ho24)); have n0_ := jA (Kd.R_below (zo HO320) hb); have n1_ := jA (Kd.N_lower ho24 (jG (zb1 HB GE314))); have n2_ := jA (jP (g := gb314) (o := .cells #[.bool a0_0, .bool a0_1, .bool a0_2, .bool a0_3, .bool a0_4, .int .i64 a0_5] 23 (0, 0)) (zk BK314) hb); have n3_ := jA (jJ (zb1 HB GE314) hb); clear HO320; clear BK314; clear HB; clear HO323; have HO320 := n0_; have HO326 := n1_; have BK314 := n2_; have HB := n3_; clear n0_ n1_ n2_ n3_; clear hb ho24))
      go_loopg [9, 10, 11] kj11 (fun kq v9 v10 v11 w' => ∃ (x9_3 : List Int) (x10_3 : List (List Int)) (x11_3 : Int), v11 = .int .i64 x11_3 ∧ Aside0 (spec_ShortestInputs.l0 kq l1 a2 x9_3 x10_3 x11_3 = some (r1, r2)) ∧ Aside0 (kq ≤ kj11) ∧ Aside0 (Kd.R (Kd.int .i64) 2 w' w.heap.size (fun k_ => (w.heap.size ≤ k_)) v9 x9_3) ∧ Aside0 (Kd.N (Kd.slice 2 (Kd.int .i64)) 35 w' w.heap.size (fun k_ => (w.heap.size ≤ k_) ∧ some k_ ≠ (v9 : Value).ownBlock ∧ k_ ≠ gb314) v10 x10_3) ∧ Aside0 (w'.heap[gb314]? = some (.cells #[.bool a0_0, .bool a0_1, .bool a0_2, .bool a0_3, .bool a0_4, .int .i64 a0_5] 23 (0, 0))) ∧ Aside0 (Below w.heap.size w w'))
      case atStart => exact ⟨(y318), (y324), (0), zz, H', ⟨Nat.le_refl _⟩, ⟨by (with_reducible repeat (first | apply ja | apply jZ | apply jc)); exact Kd.R_mono HO320.out (fun _ hk => hk.1.1)⟩, ⟨by (with_reducible repeat (first | apply Kd.N_alloc | apply Kd.N_drewN | apply Kd.N_drew)); exact HO326.out⟩, ⟨by (with_reducible repeat (first | refine jD ?_ _ | refine jF ?_ | refine jE ?_ _)); exact BK314.out⟩, ⟨zb1 HB GE314⟩⟩
      case round =>
       clear H'
       try clear c1
       try clear p2
       try clear c3
       try clear c5
       try clear c7
       try clear c9
       try clear c9b0
       try clear c9b1
       try clear c13
       try clear c14
       try clear c14b0
       try clear c14b1
       try clear hcz16_0
       try clear hcz16_1
       try clear hcz16_2
       try clear hcz16_3
       try clear hcz16_4
       try clear hcz16_5
       try clear hcz7_0
       try clear hcz7_1
       try clear hcz7_2
       try clear hcz7_3
       try clear hcz7_4
       try clear hcz7_5
       try clear hfz16_0
       try clear hfz16_1
       try clear hfz16_2
       try clear hfz16_3
       try clear hfz16_4
       try clear hfz16_5
       try clear hfz7_0
       try clear hfz7_1
       try clear hfz7_2
       try clear hfz7_3
       try clear hfz7_4
       try clear hfz7_5
       try clear p2
       obtain ⟨x9_3, x10_3, x11_3, rfl, HA, HK3, HO_9, HO_10, BK314, HB⟩ := hrel
       cases gk with
       | zero => exact absurd HA.out (by simp [spec_ShortestInputs.l0])
       | succ k3 =>
        have H := HA.out
        clear HA
        simp only [spec_ShortestInputs.l0] at H
        by_cases c25 : x11_3 < (x9_3.length : Int)
        ·rw [if_pos c25] at H
         have c25b0 : decide (x11_3 < (x9_3.length : Int)) = true := jR c25
         clear c25
         by_cases c26 : 0 ≤ x11_3
         ·rw [if_pos c26] at H
          have c26b0 : decide (0 ≤ x11_3) = true := jR c26
          clear c26
          by_cases c27 : (rd x9_3 x11_3) = a2
          ·rw [if_pos c27] at H
           have c27b0 : ((rd x9_3 x11_3) == a2) = true := beq_iff_eq.mpr c27
           have c27b1 : ((rd x9_3 x11_3) != a2) = false := bne_eq_false_iff_eq.mpr c27
           clear c27
           by_cases c28 : x11_3 < (x10_3.length : Int)
           ·rw [if_pos c28] at H
            have c28b0 : decide (x11_3 < (x10_3.length : Int)) = true := jR c28
            clear c28
            simp only [jS, jY] at H
            obtain ⟨rfl, rfl⟩ := H
            obtain ⟨Ao29, co29, eo29⟩ := Kd.R_slice HO_9.out
            subst eo29
            have p327 : 0 ≤ (x11_3 : Int) := jH za
            have q327 : x11_3 < (x9_3.length : Int) := jH za
            obtain ⟨ad327, e327, hx327_0⟩ := Kd.at_int (Kd.R_reads' HO_9.out).2.2 x11_3 p327 q327
            cases e327
            replace p327 := eq_true p327
            replace q327 := eq_true q327
            obtain ⟨Ao30, co30, eo30⟩ := Kd.N_slice HO_10.out
            subst eo30
            have p328 : 0 ≤ (x11_3 : Int) := jH za
            have q328 : x11_3 < (x10_3.length : Int) := jH za
            obtain ⟨ad328, A328_0, c328_0, e328, hx328_0, hl328_0, hi328_0⟩ := at_L1 (Kd.N_reads' HO_10.out).2.2 x11_3 p328 q328
            cases e328
            obtain ⟨ce328, hce328, hMe328, hcc328⟩ := Kd.N_get HO_10.out [] x11_3 p328 (by first | exact q328 | exact jH za | (have e_ := (Kd.N_reads' HO_10.out).1; omega))
            obtain ⟨ua328_0, uc328_0, rfl, ul328_0, ge328_0⟩ := Kd.FK_slice_open hMe328
            have hv328_0 := hcc328 0 _ rfl
            rw [Nat.add_zero, show ((Kd.slice 2 (Kd.int .i64))).sz = 1 from rfl, Nat.mul_one] at hv328_0
            replace hv328_0 := jT (hv328_0.symm.trans hx328_0)
            injection hv328_0 with hva_ hvn_ hvc_
            rw [hva_] at ge328_0
            rw [hvc_] at ul328_0
            have HL328_0 := jA (show Kd.V (Kd.int .i64) 2 _ w.heap.size _ _ (rd_L1 x10_3 x11_3) from Kd.V_mk ul328_0 ge328_0)
            clear hva_ hvn_ hvc_ ge328_0 ul328_0
            clear hcc328 hce328
            have HR328_0 := jA hi328_0
            have HC328_0 := jA hl328_0
            clear hi328_0 hl328_0
            replace p328 := eq_true p328
            replace q328 := eq_true q328
            go_wp2
            go_ret2
            exact ⟨_, by first | rfl | (simp [errW_none, errW_some] <;> rfl) | (simp [*, errW_none, errW_some] <;> rfl), by (with_reducible repeat (first | apply Kd.V_alloc | apply Kd.V_drewN | apply Kd.V_drew)); exact Kd.V_mono HL328_0.out (fun _ hk => hk.1.1), zb1 HB GE314⟩
           ·rw [if_neg c28] at H
            exact absurd H (by simp)
          ·rw [if_neg c27] at H
           have c27b0 : ((rd x9_3 x11_3) == a2) = false := beq_eq_false_iff_ne.mpr c27
           have c27b1 : ((rd x9_3 x11_3) != a2) = true := bne_iff_ne.mpr c27
           replace H := jQ.mp H
           obtain ⟨t330, A310, H⟩ := H
           replace H : (spec_ShortestInputs.l1 k3 l1 a2 x9_3 x10_3 x11_3 t330 0) = some (r1, r2) := H
           have A31 := jA A310
           clear A310
           have H' := jA H
           clear H
           obtain ⟨Ao32, co32, eo32⟩ := Kd.R_slice HO_9.out
           subst eo32
           have p327 : 0 ≤ (x11_3 : Int) := jH za
           have q327 : x11_3 < (x9_3.length : Int) := jH za
           obtain ⟨ad327, e327, hx327_0⟩ := Kd.at_int (Kd.R_reads' HO_9.out).2.2 x11_3 p327 q327
           cases e327
           replace p327 := eq_true p327
           replace q327 := eq_true q327
           have p329 : 0 ≤ (x11_3 : Int) := jH za
           have q329 : x11_3 < (x9_3.length : Int) := jH za
           obtain ⟨ad329, e329, hx329_0⟩ := Kd.at_int (Kd.R_reads' HO_9.out).2.2 x11_3 p329 q329
           obtain rfl : ad327 = ad329 := (by injection e329)
           replace p329 := eq_true p329
           replace q329 := eq_true q329
           go_wp2_with (first | ((with_reducible refine jd (f := 71) rfl ?_); refine goesL_ (some 53) rfl rfl Try.func71 zr rfl #[.int .i64 (rd x9_3 x11_3), .slice A1 l1.length c1] rfl zm ?_; (with_reducible refine (spec_l25Next.calls k3 (rd x9_3 x11_3) _ _ l1 t330 _ ?side1 ?side2 A31.out).mono ?_); (case side1 => exact zs HR1 HB); (case side2 => exact HC1.out); rintro e w33 ⟨v331, rfl, ho0, hb⟩; refine ⟨_, rfl, ?_⟩; have n0_ := jA (Kd.R_elder' (zo HO_9) (Kd.R_base ho0) hb); have n1_ := jA (Kd.N_elder' (by (with_reducible repeat (first | apply Kd.N_alloc | apply Kd.N_drewN | apply Kd.N_drew)); exact HO_10.out) (Kd.R_base ho0) hb); have n2_ := jA (Kd.R_lower (Kd.R_new' (Kd.R_newM (M := fun k_ => (w.heap.size ≤ k_)) ho0 (jG (zb1 HB GE314)) (fun k_ h_ => h_)) (Kd.R_lt (zo HO_9))) (jG (zb1 HB GE314))); have n3_ := jA (jP (g := gb314) (o := .cells #[.bool a0_0, .bool a0_1, .bool a0_2, .bool a0_3, .bool a0_4, .int .i64 a0_5] 23 (0, 0)) (zk BK314) hb); have n4_ := jA (jJ (zb1 HB GE314) hb); clear HO_9; clear HO_10; clear BK314; clear HB; have HO_9 := n0_; have HO_10 := n1_; have HO332 := n2_; have BK314 := n3_; have HB := n4_; clear n0_ n1_ n2_ n3_ n4_; (try clear hb); (try clear hb2); (try clear hk); (try clear hi); (try clear ho0)))
           go_loopg [9, 10, 13] k3 (fun kq v9 v10 v13 w' => ∃ (x9_4 : List Int) (x10_4 : List (List Int)) (x13_4 : Int), v13 = .int .i64 x13_4 ∧ Aside0 (spec_ShortestInputs.l1 kq l1 a2 x9_4 x10_4 x11_3 t330 x13_4 = some (r1, r2)) ∧ Aside0 (kq ≤ k3) ∧ Aside0 (Kd.R (Kd.int .i64) 2 w' w.heap.size (fun k_ => (w.heap.size ≤ k_) ∧ some k_ ≠ (v331 : Value).ownBlock) v9 x9_4) ∧ Aside0 (Kd.N (Kd.slice 2 (Kd.int .i64)) 35 w' w.heap.size (fun k_ => (w.heap.size ≤ k_) ∧ some k_ ≠ (v9 : Value).ownBlock ∧ some k_ ≠ (v331 : Value).ownBlock ∧ k_ ≠ gb314) v10 x10_4) ∧ Aside0 (Kd.R (Kd.int .i64) 2 w' w.heap.size (fun k_ => (w.heap.size ≤ k_) ∧ some k_ ≠ (v9 : Value).ownBlock) v331 t330) ∧ Aside0 (w'.heap[gb314]? = some (.cells #[.bool a0_0, .bool a0_1, .bool a0_2, .bool a0_3, .bool a0_4, .int .i64 a0_5] 23 (0, 0))) ∧ Aside0 (Below w.heap.size w w'))
           case atStart => exact ⟨(x9_3), (x10_3), (0), zz, H', ⟨Nat.le_refl _⟩, ⟨by (with_reducible repeat (first | apply ja | apply jZ | apply jc)); exact HO_9.out⟩, ⟨by (with_reducible repeat (first | apply Kd.N_alloc | apply Kd.N_drewN | apply Kd.N_drew)); exact Kd.N_mono HO_10.out (fun _ hk => ⟨hk.1.1, ⟨hk.1.2.1, ⟨hk.2, hk.1.2.2⟩⟩⟩)⟩, ⟨by (with_reducible repeat (first | apply ja | apply jZ | apply jc)); exact Kd.R_mono HO332.out (fun _ hk => ⟨hk.1.1, hk.2⟩)⟩, ⟨by (with_reducible repeat (first | refine jD ?_ _ | refine jF ?_ | refine jE ?_ _)); exact BK314.out⟩, ⟨zb1 HB GE314⟩⟩
           case round =>
            clear H'
            try clear c1
            try clear c2
            try clear p2
            try clear c3
            try clear p3
            try clear q3
            try clear hx3
            try clear c5
            try clear c7
            try clear c9
            try clear c9b0
            try clear c9b1
            try clear c13
            try clear c14
            try clear c14b0
            try clear c14b1
            try clear c25
            try clear c25b0
            try clear c26
            try clear c26b0
            try clear c27
            try clear c27b0
            try clear c27b1
            try clear c28
            try clear c28b0
            try clear c32
            try clear p32
            try clear q32
            try clear hx32
            try clear hcz16_0
            try clear hcz16_1
            try clear hcz16_2
            try clear hcz16_3
            try clear hcz16_4
            try clear hcz16_5
            try clear hcz7_0
            try clear hcz7_1
            try clear hcz7_2
            try clear hcz7_3
            try clear hcz7_4
            try clear hcz7_5
            try clear hfz16_0
            try clear hfz16_1
            try clear hfz16_2
            try clear hfz16_3
            try clear hfz16_4
            try clear hfz16_5
            try clear hfz7_0
            try clear hfz7_1
            try clear hfz7_2
            try clear hfz7_3
            try clear hfz7_4
            try clear hfz7_5
            try clear hx327_0
            try clear hx328_0
            try clear hx329_0
            try clear p2
            try clear p327
            try clear p328
            try clear p329
            try clear q327
            try clear q328
            try clear q329
            obtain ⟨x9_4, x10_4, x13_4, rfl, HA, HK4, HO_9, HO_10, HO_12, BK314, HB⟩ := hrel
            cases gk with
            | zero => exact absurd HA.out (by simp [spec_ShortestInputs.l1])
            | succ k4 =>
             have H := HA.out
             clear HA
             simp only [spec_ShortestInputs.l1] at H
             by_cases c34 : x13_4 < (t330.length : Int)
             ·rw [if_pos c34] at H
              have c34b0 : decide (x13_4 < (t330.length : Int)) = true := jR c34
              clear c34
              by_cases c35 : 0 ≤ x13_4
              ·rw [if_pos c35] at H
               have c35b0 : decide (0 ≤ x13_4) = true := jR c35
               clear c35
               by_cases c36 : (rd t330 x13_4) ≥ 0
               ·rw [if_pos c36] at H
                have c36b0 : decide (0 ≤ (rd t330 x13_4)) = true := jR c36
                clear c36
                replace H := jQ.mp H
                obtain ⟨t335, A370, H⟩ := H
                replace H : (if t335 = true then (spec_ShortestInputs.l1 k4 l1 a2 x9_4 x10_4 x11_3 t330 (wrap64 (x13_4 + 1))) else ((some (([rd t330 x13_4] : List Int) : List Int)).bind fun y337 => (if x9_4.length + y337.length < 17592186044416 then (if 0 ≤ x11_3 then (if x11_3 < (x10_4.length : Int) then ((spec_l01Own.f (rd_L1 x10_4 x11_3)).bind fun t344 => (if x13_4 < (l1.length : Int) then ((some (([rd l1 x13_4] : List Int) : List Int)).bind fun y348 => (if t344.length + y348.length < 17592186044416 then ((some (([(t344 ++ y348)] : List (List Int)) : List (List Int))).bind fun y354 => (if x10_4.length + y354.length < 5864062014805 then (spec_ShortestInputs.l1 k4 l1 a2 (x9_4 ++ y337) (x10_4 ++ y354) x11_3 t330 (wrap64 (x13_4 + 1))) else (none))) else (none))) else (none))) else (none)) else (none)) else (none)))) = some (r1, r2) := H
                have A37 := jA A370
                clear A370
                by_cases c38 : t335 = true
                ·subst c38
                 have H1 : (spec_ShortestInputs.l1 k4 l1 a2 x9_4 x10_4 x11_3 t330 (wrap64 (x13_4 + 1))) = some (r1, r2) := by rw [if_pos rfl] at H; exact H
                 clear H
                 have H := H1
                 clear H1
                 have H' := jA H
                 clear H
                 obtain ⟨Ao39, co39, eo39⟩ := Kd.R_slice HO_12.out
                 subst eo39
                 have p333 : 0 ≤ (x13_4 : Int) := jH za
                 have q333 : x13_4 < (t330.length : Int) := jH za
                 obtain ⟨ad333, e333, hx333_0⟩ := Kd.at_int (Kd.R_reads' HO_12.out).2.2 x13_4 p333 q333
                 cases e333
                 replace p333 := eq_true p333
                 replace q333 := eq_true q333
                 have p334 : 0 ≤ (x13_4 : Int) := jH za
                 have q334 : x13_4 < (t330.length : Int) := jH za
                 obtain ⟨ad334, e334, hx334_0⟩ := Kd.at_int (Kd.R_reads' HO_12.out).2.2 x13_4 p334 q334
                 obtain rfl : ad333 = ad334 := (by injection e334)
                 replace p334 := eq_true p334
                 replace q334 := eq_true q334
                 obtain ⟨Ao40, co40, eo40⟩ := Kd.R_slice HO_9.out
                 subst eo40
                 go_wp2_with (first | (go_at_call 72; (with_reducible refine (spec_l01Has.calls k4 _ _ x9_4 (rd t330 x13_4) true _ ?side1 ?side2 A37.out).mono ?_); (case side1 => repeat (first | exact (Kd.R_reads' HO_9.out).2.2 | (with_reducible refine Kd.C_alloc ?_ _) | (with_reducible refine Kd.C_drewN ?_ _) | (with_reducible refine Kd.C_drew ?_))); (case side2 => exact (Kd.R_reads' HO_9.out).2.1); rintro e w' ⟨rfl, ⟨nd, rfl⟩⟩))
                 go_roundg k4
                 case measure => have := HJ4.out; have := HJ11.out; have := HK3.out; have := HK4.out; omega
                 case rel => exact ⟨(x9_4), (x10_4), (wrap64 (x13_4 + 1)), zz, H', ⟨by have := HJ4.out; have := HJ11.out; have := HK3.out; have := HK4.out; omega⟩, ⟨by (with_reducible repeat (first | apply ja | apply jZ | apply jc)); exact HO_9.out⟩, ⟨by (with_reducible repeat (first | apply Kd.N_alloc | apply Kd.N_drewN | apply Kd.N_drew)); exact HO_10.out⟩, ⟨by (with_reducible repeat (first | apply ja | apply jZ | apply jc)); exact HO_12.out⟩, ⟨by (with_reducible repeat (first | refine jD ?_ _ | refine jF ?_ | refine jE ?_ _)); exact BK314.out⟩, ⟨zb1 HB GE314⟩⟩
                ·replace c38 := Bool.eq_false_iff.mpr c38
                 subst c38
                 have H1 : ((some (([rd t330 x13_4] : List Int) : List Int)).bind fun y337 => (if x9_4.length + y337.length < 17592186044416 then (if 0 ≤ x11_3 then (if x11_3 < (x10_4.length : Int) then ((spec_l01Own.f (rd_L1 x10_4 x11_3)).bind fun t344 => (if x13_4 < (l1.length : Int) then ((some (([rd l1 x13_4] : List Int) : List Int)).bind fun y348 => (if t344.length + y348.length < 17592186044416 then ((some (([(t344 ++ y348)] : List (List Int)) : List (List Int))).bind fun y354 => (if x10_4.length + y354.length < 5864062014805 then (spec_ShortestInputs.l1 k4 l1 a2 (x9_4 ++ y337) (x10_4 ++ y354) x11_3 t330 (wrap64 (x13_4 + 1))) else (none))) else (none))) else (none))) else (none)) else (none)) else (none))) = some (r1, r2) := by rw [if_neg (show ¬ (false = true) by decide)] at H; exact H
                 clear H
                 have H := H1
                 clear H1
                 obtain ⟨y337, hy337⟩ : ∃ y_ : List Int, y_ = (([rd t330 x13_4] : List Int)) := ⟨_, rfl⟩
                 replace H : (if x9_4.length + y337.length < 17592186044416 then (if 0 ≤ x11_3 then (if x11_3 < (x10_4.length : Int) then ((spec_l01Own.f (rd_L1 x10_4 x11_3)).bind fun t344 => (if x13_4 < (l1.length : Int) then ((some (([rd l1 x13_4] : List Int) : List Int)).bind fun y348 => (if t344.length + y348.length < 17592186044416 then ((some (([(t344 ++ y348)] : List (List Int)) : List (List Int))).bind fun y354 => (if x10_4.length + y354.length < 5864062014805 then (spec_ShortestInputs.l1 k4 l1 a2 (x9_4 ++ y337) (x10_4 ++ y354) x11_3 t330 (wrap64 (x13_4 + 1))) else (none))) else (none))) else (none))) else (none)) else (none)) else (none)) = some (r1, r2) := by first | (rw [hy337]; with_reducible exact H) | (have H2_ := (Option.bind_some _ _).symm.trans H; rw [hy337]; with_reducible exact H2_) | (have H2_ := (Option.bind_some _ _).symm.trans H; with_reducible exact H2_) | with_reducible exact H | (rw [hy337]; exact H) | exact H
                 have Ny337 := jA hy337
                 clear hy337
                 by_cases c41 : x9_4.length + y337.length < 17592186044416
                 ·rw [if_pos c41] at H
                  have LMc41 := jA c41
                  clear c41
                  obtain ⟨y340, hy340⟩ : ∃ y_ : List Int, y_ = (x9_4 ++ y337) := ⟨_, rfl⟩
                  replace H : (if 0 ≤ x11_3 then (if x11_3 < (x10_4.length : Int) then ((spec_l01Own.f (rd_L1 x10_4 x11_3)).bind fun t344 => (if x13_4 < (l1.length : Int) then ((some (([rd l1 x13_4] : List Int) : List Int)).bind fun y348 => (if t344.length + y348.length < 17592186044416 then ((some (([(t344 ++ y348)] : List (List Int)) : List (List Int))).bind fun y354 => (if x10_4.length + y354.length < 5864062014805 then (spec_ShortestInputs.l1 k4 l1 a2 y340 (x10_4 ++ y354) x11_3 t330 (wrap64 (x13_4 + 1))) else (none))) else (none))) else (none))) else (none)) else (none)) = some (r1, r2) := by first | (rw [hy340]; with_reducible exact H) | (have H2_ := (Option.bind_some _ _).symm.trans H; rw [hy340]; with_reducible exact H2_) | (have H2_ := (Option.bind_some _ _).symm.trans H; with_reducible exact H2_) | with_reducible exact H | (rw [hy340]; exact H) | exact H
                  have Ny340 := jA hy340
                  clear hy340
                  by_cases c42 : 0 ≤ x11_3
                  ·rw [if_pos c42] at H
                   have c42b0 : decide (0 ≤ x11_3) = true := jR c42
                   clear c42
                   by_cases c43 : x11_3 < (x10_4.length : Int)
                   ·rw [if_pos c43] at H
                    have c43b0 : decide (x11_3 < (x10_4.length : Int)) = true := jR c43
                    clear c43
                    replace H := jQ.mp H
                    obtain ⟨t344, A440, H⟩ := H
                    replace H : (if x13_4 < (l1.length : Int) then ((some (([rd l1 x13_4] : List Int) : List Int)).bind fun y348 => (if t344.length + y348.length < 17592186044416 then ((some (([(t344 ++ y348)] : List (List Int)) : List (List Int))).bind fun y354 => (if x10_4.length + y354.length < 5864062014805 then (spec_ShortestInputs.l1 k4 l1 a2 y340 (x10_4 ++ y354) x11_3 t330 (wrap64 (x13_4 + 1))) else (none))) else (none))) else (none)) = some (r1, r2) := H
                    have A44 := jA A440
                    clear A440
                    by_cases c45 : x13_4 < (l1.length : Int)
                    ·rw [if_pos c45] at H
                     have c45b0 : decide (x13_4 < (l1.length : Int)) = true := jR c45
                     clear c45
                     obtain ⟨y348, hy348⟩ : ∃ y_ : List Int, y_ = (([rd l1 x13_4] : List Int)) := ⟨_, rfl⟩
                     replace H : (if t344.length + y348.length < 17592186044416 then ((some (([(t344 ++ y348)] : List (List Int)) : List (List Int))).bind fun y354 => (if x10_4.length + y354.length < 5864062014805 then (spec_ShortestInputs.l1 k4 l1 a2 y340 (x10_4 ++ y354) x11_3 t330 (wrap64 (x13_4 + 1))) else (none))) else (none)) = some (r1, r2) := by first | (rw [hy348]; with_reducible exact H) | (have H2_ := (Option.bind_some _ _).symm.trans H; rw [hy348]; with_reducible exact H2_) | (have H2_ := (Option.bind_some _ _).symm.trans H; with_reducible exact H2_) | with_reducible exact H | (rw [hy348]; exact H) | exact H
                     have Ny348 := jA hy348
                     clear hy348
                     by_cases c46 : t344.length + y348.length < 17592186044416
                     ·rw [if_pos c46] at H
                      have LMc46 := jA c46
                      clear c46
                      obtain ⟨y351, hy351⟩ : ∃ y_ : List Int, y_ = (t344 ++ y348) := ⟨_, rfl⟩
                      replace H : ((some (([y351] : List (List Int)) : List (List Int))).bind fun y354 => (if x10_4.length + y354.length < 5864062014805 then (spec_ShortestInputs.l1 k4 l1 a2 y340 (x10_4 ++ y354) x11_3 t330 (wrap64 (x13_4 + 1))) else (none))) = some (r1, r2) := by first | (rw [hy351]; with_reducible exact H) | (have H2_ := (Option.bind_some _ _).symm.trans H; rw [hy351]; with_reducible exact H2_) | (have H2_ := (Option.bind_some _ _).symm.trans H; with_reducible exact H2_) | with_reducible exact H | (rw [hy351]; exact H) | exact H
                      have Ny351 := jA hy351
                      clear hy351
                      obtain ⟨y354, hy354⟩ : ∃ y_ : List (List Int), y_ = (([y351] : List (List Int))) := ⟨_, rfl⟩
                      replace H : (if x10_4.length + y354.length < 5864062014805 then (spec_ShortestInputs.l1 k4 l1 a2 y340 (x10_4 ++ y354) x11_3 t330 (wrap64 (x13_4 + 1))) else (none)) = some (r1, r2) := by first | (rw [hy354]; with_reducible exact H) | (have H2_ := (Option.bind_some _ _).symm.trans H; rw [hy354]; with_reducible exact H2_) | (have H2_ := (Option.bind_some _ _).symm.trans H; with_reducible exact H2_) | with_reducible exact H | (rw [hy354]; exact H) | exact H
                      have Ny354 := jA hy354
                      clear hy354
                      by_cases c47 : x10_4.length + y354.length < 5864062014805
                      ·rw [if_pos c47] at H
                       have LMc47 := jA c47
                       clear c47
                       obtain ⟨y357, hy357⟩ : ∃ y_ : List (List Int), y_ = (x10_4 ++ y354) := ⟨_, rfl⟩
                       replace H : (spec_ShortestInputs.l1 k4 l1 a2 y340 y357 x11_3 t330 (wrap64 (x13_4 + 1))) = some (r1, r2) := by first | (rw [hy357]; with_reducible exact H) | (have H2_ := (Option.bind_some _ _).symm.trans H; rw [hy357]; with_reducible exact H2_) | (have H2_ := (Option.bind_some _ _).symm.trans H; with_reducible exact H2_) | with_reducible exact H | (rw [hy357]; exact H) | exact H
                       have Ny357 := jA hy357
                       clear hy357
                       have H' := jA H
                       clear H
                       obtain ⟨Ao48, co48, eo48⟩ := Kd.R_slice HO_12.out
                       subst eo48
                       have p333 : 0 ≤ (x13_4 : Int) := jH za
                       have q333 : x13_4 < (t330.length : Int) := jH za
                       obtain ⟨ad333, e333, hx333_0⟩ := Kd.at_int (Kd.R_reads' HO_12.out).2.2 x13_4 p333 q333
                       cases e333
                       replace p333 := eq_true p333
                       replace q333 := eq_true q333
                       have p334 : 0 ≤ (x13_4 : Int) := jH za
                       have q334 : x13_4 < (t330.length : Int) := jH za
                       obtain ⟨ad334, e334, hx334_0⟩ := Kd.at_int (Kd.R_reads' HO_12.out).2.2 x13_4 p334 q334
                       obtain rfl : ad333 = ad334 := (by injection e334)
                       replace p334 := eq_true p334
                       replace q334 := eq_true q334
                       obtain ⟨Ao49, co49, eo49⟩ := Kd.R_slice HO_9.out
                       subst eo49
                       try go_wp2_with (first | (go_at_call 72; (with_reducible refine (spec_l01Has.calls k4 _ _ x9_4 (rd t330 x13_4) false _ ?side1 ?side2 A37.out).mono ?_); (case side1 => repeat (first | exact (Kd.R_reads' HO_9.out).2.2 | (with_reducible refine Kd.C_alloc ?_ _) | (with_reducible refine Kd.C_drewN ?_ _) | (with_reducible refine Kd.C_drew ?_))); (case side2 => exact (Kd.R_reads' HO_9.out).2.1); rintro e w' ⟨rfl, ⟨nd, rfl⟩⟩; have p336 : 0 ≤ (x13_4 : Int) := jH za; have q336 : x13_4 < (t330.length : Int) := jH za; obtain ⟨ad336, e336, hx336_0⟩ := Kd.at_int (Kd.R_reads' HO_12.out).2.2 x13_4 p336 q336; obtain rfl : ad333 = ad336 := (by injection e336); replace p336 := eq_true p336; replace q336 := eq_true q336) | ((with_reducible refine jO (N := 79) rfl ?_); refine Kd.R_lit (Kd.int .i64) _ 2 ?hg (N := 79) ?hd (xs := ([rd t330 x13_4] : List Int)) (inner := [.int .i64 (rd t330 x13_4)]) (ok := fun _ => True) (okp := fun _ => True) ?hr ?hp (fun _ hk => hk) trivial (Below.refl _ _) (Nat.le_refl _) (by simp) ?_; (case hd => rfl); (case hg => rfl); (case hr => first | (go_simp; done) | (go_simp; rfl)); (case hp => exact (Reps.one (show Kd.M (Kd.int .i64) _ _ _ (rd t330 x13_4) [.int .i64 (rd t330 x13_4)] from rfl) (Reps.none _ _))); intro v338 w50 ho51 hb hg_ hnew_; clear hg_ hnew_; (first | rw [← Ny337.out] at ho51 | (simp only [Int.reduceToNat] at ho51; rw [← Ny337.out] at ho51)); have n0_ := jA (Kd.R_elder' (zo HO_9) (Kd.R_base ho51) hb); have n1_ := jA (Kd.N_elder' (by (with_reducible repeat (first | apply Kd.N_alloc | apply Kd.N_drewN | apply Kd.N_drew)); exact HO_10.out) (Kd.R_base ho51) hb); have n2_ := jA (Kd.R_elder' (zo HO_12) (Kd.R_base ho51) hb); have n3_ := jA (Kd.R_lower (Kd.R_new' (Kd.R_new' (Kd.R_newM (M := fun k_ => (w.heap.size ≤ k_)) ho51 (jG (zb1 HB GE314)) (fun k_ h_ => h_)) (Kd.R_lt (zo HO_9))) (Kd.R_lt (zo HO_12))) (jG (zb1 HB GE314))); have n4_ := jA (jP (g := gb314) (o := .cells #[.bool a0_0, .bool a0_1, .bool a0_2, .bool a0_3, .bool a0_4, .int .i64 a0_5] 23 (0, 0)) (zk BK314) hb); have n5_ := jA (jJ (zb1 HB GE314) hb); clear HO_9; clear HO_10; clear HO_12; clear BK314; clear HB; have HO_9 := n0_; have HO_10 := n1_; have HO_12 := n2_; have HO339 := n3_; have BK314 := n4_; have HB := n5_; clear n0_ n1_ n2_ n3_ n4_ n5_; clear hb ho51; obtain ⟨Ao53, co53, eo53⟩ := Kd.R_slice HO339.out; subst eo53) | ((with_reducible refine gate_builtin (b := .append) (xs := #[.tmp 74, .tmp 79]) rfl ?_); at_builtin; refine Kd.R_append_rows (Kd.int .i64) (w0 := w) w.heap.size rfl (.tmp 74) (.tmp 79) 35 2 (.int .i64 0) 8 rfl Try.underlying35 info2 rfl (by decide) (by omega) (.slice Ao49 x9_4.length co49) x9_4 y337 _ _ _ (fun k_ => (w.heap.size ≤ k_) ∧ some k_ ≠ (.slice (some ad333) t330.length co48 : Value).ownBlock ∧ some k_ ≠ (.slice Ao53 y337.length co53 : Value).ownBlock) (fun _ => False) rfl rfl ?aO ?aR (fun _ _ h => h) (fun _ h => h.elim) ?aF ?aB ?aS ?aL ?_; (case aR => repeat (first | exact (Kd.R_reads' HO339.out).2.2 | (with_reducible refine Kd.C_alloc ?_ _) | (with_reducible refine Kd.C_drewN ?_ _) | (with_reducible refine Kd.C_drew ?_))); (case aB => exact (zb1 HB GE314)); (case aF => exact (fun k_ hk => ⟨(Nat.le_trans (jG (zb1 HB GE314)) hk), Kd.fresh' (Kd.R_lt (zo HO_12)) k_ hk, Kd.fresh' (Kd.R_lt (zo HO339)) k_ hk⟩)); (case aO => exact (by (with_reducible repeat (first | apply ja | apply jZ | apply jc)); exact Kd.R_mono HO_9.out (fun _ hk => ⟨hk.1.1, ⟨hk.1.2, hk.2⟩⟩))); (case aS => exact (jG (zb1 HB GE314))); (case aL => have := LMc41.out; omega); intro v341 w52 ho hb hg hat; rw [← Ny340.out] at ho; have n0_ := jA (Kd.N_afterv (ok := (fun k_ => (w.heap.size ≤ k_) ∧ some k_ ≠ (.slice (some ad333) t330.length co48 : Value).ownBlock ∧ some k_ ≠ (.slice Ao53 y337.length co53 : Value).ownBlock ∧ k_ ≠ gb314)) (by (with_reducible repeat (first | apply Kd.N_alloc | apply Kd.N_drewN | apply Kd.N_drew)); exact Kd.N_mono HO_10.out (fun _ hk => ⟨⟨hk.1.1, ⟨hk.1.2.2.1, ⟨hk.2, hk.1.2.2.2⟩⟩⟩, hk.1.2.1⟩)) hg hat); have n1_ := jA (Kd.R_after (ok := (fun k_ => (w.heap.size ≤ k_) ∧ some k_ ≠ (.slice Ao53 y337.length co53 : Value).ownBlock)) (by (with_reducible repeat (first | apply ja | apply jZ | apply jc)); exact Kd.R_mono HO_12.out (fun _ hk => ⟨⟨hk.1.1, hk.2⟩, hk.1.2⟩)) hg hat); have n2_ := jA (blk_grown (g := gb314) (o := .cells #[.bool a0_0, .bool a0_1, .bool a0_2, .bool a0_3, .bool a0_4, .int .i64 a0_5] 23 (0, 0)) (zk BK314) hg (Kd.R_ne HO_9.out BK314.out (by decide))); have n3_ := jA (Kd.R_after (ok := (fun k_ => (w.heap.size ≤ k_) ∧ some k_ ≠ (.slice (some ad333) t330.length co48 : Value).ownBlock)) (by (with_reducible repeat (first | apply ja | apply jZ | apply jc)); exact Kd.R_mono HO339.out (fun _ hk => ⟨⟨hk.1.1.1, hk.2⟩, hk.1.2⟩)) hg hat); have n4_ := jA (hb); have n5_ := jA (ho); clear HO_10; clear HO_12; clear BK314; clear HO339; clear HB; clear HO_9; have HO_10 := n0_; have HO_12 := n1_; have BK314 := n2_; have HO339 := n3_; have HB := n4_; have HO342 := n5_; clear n0_ n1_ n2_ n3_ n4_ n5_; clear ho hb hg hat; obtain ⟨Ao54, co54, eo54⟩ := Kd.N_slice HO_10.out; subst eo54))
                       have n0_ := jA (Kd.N_drew HO_10.out)
                       have n1_ := jA (jc HO_12.out)
                       have n2_ := jA (jc HO339.out)
                       have n3_ := jA (jc HO342.out)
                       have n4_ := jA (jF BK314.out)
                       have n5_ := jA (below_drew1 HB.out)
                       clear HO_10
                       clear HO_12
                       clear HO339
                       clear HO342
                       clear BK314
                       clear HB
                       have HO_10 := n0_
                       have HO_12 := n1_
                       have HO339 := n2_
                       have HO342 := n3_
                       have BK314 := n4_
                       have HB := n5_
                       clear n0_ n1_ n2_ n3_ n4_ n5_
                       have p343 : 0 ≤ (x11_3 : Int) := jH za
                       have q343 : x11_3 < (x10_4.length : Int) := jH za
                       obtain ⟨ad343, A343_0, c343_0, e343, hx343_0, hl343_0, hi343_0⟩ := at_L1 (Kd.N_reads' HO_10.out).2.2 x11_3 p343 q343
                       cases e343
                       obtain ⟨ce343, hce343, hMe343, hcc343⟩ := Kd.N_get HO_10.out [] x11_3 p343 (by first | exact q343 | exact jH za | (have e_ := (Kd.N_reads' HO_10.out).1; omega))
                       obtain ⟨ua343_0, uc343_0, rfl, ul343_0, ge343_0⟩ := Kd.FK_slice_open hMe343
                       have hv343_0 := hcc343 0 _ rfl
                       rw [Nat.add_zero, show ((Kd.slice 2 (Kd.int .i64))).sz = 1 from rfl, Nat.mul_one] at hv343_0
                       replace hv343_0 := jT (hv343_0.symm.trans hx343_0)
                       injection hv343_0 with hva_ hvn_ hvc_
                       rw [hva_] at ge343_0
                       rw [hvc_] at ul343_0
                       have HL343_0 := jA (show Kd.V (Kd.int .i64) 2 _ w.heap.size _ _ (rd_L1 x10_4 x11_3) from Kd.V_mk ul343_0 ge343_0)
                       clear hva_ hvn_ hvc_ ge343_0 ul343_0
                       clear hcc343 hce343
                       have HR343_0 := jA hi343_0
                       have HC343_0 := jA hl343_0
                       clear hi343_0 hl343_0
                       replace p343 := eq_true p343
                       replace q343 := eq_true q343
                       have p347 : 0 ≤ (x13_4 : Int) := jH za
                       have q347 : x13_4 < (l1.length : Int) := jH za
                       obtain ⟨ad347, e347, hx347_0⟩ := Kd.at_int HR1.out x13_4 p347 q347
                       have hw347_0 := hx347_0
                       cases e347
                       replace hx347_0 := (HB.out.cell (jK w _ hx347_0)).trans hx347_0
                       replace p347 := eq_true p347
                       replace q347 := eq_true q347
                       refine start_ (n := 15) (S := fun w' => w'.cell? (ad343.add (x11_3).toNat) = some (.slice A343_0 (rd_L1 x10_4 x11_3).length c343_0) ∧ w'.cell? (ad347.add (x13_4).toNat) = some (.int .i64 (rd l1 x13_4))) (ds := [11, 12, 13]) #[false, false, false, false, false, false, false, false, false, false, false, false, false, false, false] zr rfl rfl ⟨hx343_0, ((HB.out.cell (jK w _ hw347_0)).trans hw347_0)⟩ (fun hHeld => ?_); refine with_tabW spec_ShortestInputs.tab19 spec_ShortestInputs.bits19 (fun HT_ HW_ => ?_)
                       generalize w52.drew = w55 at HO_10 HO_12 HO339 HO342 BK314 HB HL343_0 HR343_0 hx343_0 hx347_0 hHeld ⊢
                       refine zp HT_ 0 81 #[true, false, false, false, false, false, false, false, false, false, false, false, false, false, false] ?_
                       refine zp HT_ 1 82 #[true, true, false, false, false, false, false, false, false, false, false, false, false, false, false] ?_
                       refine zp HT_ 2 83 #[true, true, true, false, false, false, false, false, false, false, false, false, false, false, false] ?_
                       refine zp HT_ 3 84 #[true, true, true, true, false, false, false, false, false, false, false, false, false, false, false] ?_
                       refine zp HT_ 6 87 #[true, true, true, true, false, false, true, false, false, false, false, false, false, false, false] ?_
                       refine zp HT_ 7 88 #[true, true, true, true, false, false, true, true, false, false, false, false, false, false, false] ?_
                       refine zp HT_ 8 89 #[true, true, true, true, false, false, true, true, true, false, false, false, false, false, false] ?_
                       refine zt2 HT_ HW_ hHeld 4 85 #[true, true, true, true, true, false, true, true, true, false, false, false, false, false, false] ?_
                       refine zt2 HT_ HW_ hHeld 9 90 #[true, true, true, true, true, false, true, true, true, true, false, false, false, false, false] ?_
                       refine join_ (σ := Value × Value) 4 m15_7ff0 (fun s_ => [(86, s_.1), (91, s_.2)]) (fun s_ w' => (w'.cell? (ad343.add (x11_3).toNat) = some (.slice A343_0 (rd_L1 x10_4 x11_3).length c343_0) ∧ w'.cell? (ad347.add (x13_4).toNat) = some (.int .i64 (rd l1 x13_4))) ∧ (Kd.V (Kd.int .i64) 2 w' w.heap.size (fun k_ => (w.heap.size ≤ k_) ∧ some k_ ≠ (.slice Ao53 y337.length co53 : Value).ownBlock ∧ some k_ ≠ (v341 : Value).ownBlock ∧ some k_ ≠ (s_.1 : Value).ownBlock ∧ some k_ ≠ (s_.2 : Value).ownBlock ∧ some k_ ≠ (.slice (some ad343) x10_4.length co54 : Value).ownBlock ∧ some k_ ≠ (.slice (some ad333) t330.length co48 : Value).ownBlock ∧ k_ ≠ gb314) (.slice A343_0 (rd_L1 x10_4 x11_3).length c343_0) (rd_L1 x10_4 x11_3)) ∧ (Kd.R (Kd.int .i64) 2 w' w.heap.size (fun k_ => (w.heap.size ≤ k_) ∧ some k_ ≠ (v341 : Value).ownBlock ∧ some k_ ≠ (s_.1 : Value).ownBlock ∧ some k_ ≠ (s_.2 : Value).ownBlock ∧ some k_ ≠ (.slice (some ad333) t330.length co48 : Value).ownBlock) (.slice Ao53 y337.length co53) y337) ∧ (Kd.R (Kd.int .i64) 2 w' w.heap.size (fun k_ => (w.heap.size ≤ k_) ∧ some k_ ≠ (.slice Ao53 y337.length co53 : Value).ownBlock ∧ some k_ ≠ (s_.1 : Value).ownBlock ∧ some k_ ≠ (s_.2 : Value).ownBlock ∧ some k_ ≠ (.slice (some ad333) t330.length co48 : Value).ownBlock) v341 y340) ∧ (Kd.R (Kd.int .i64) 2 w' w.heap.size (fun k_ => (w.heap.size ≤ k_) ∧ some k_ ≠ (.slice Ao53 y337.length co53 : Value).ownBlock ∧ some k_ ≠ (v341 : Value).ownBlock ∧ some k_ ≠ (s_.2 : Value).ownBlock ∧ some k_ ≠ (.slice (some ad333) t330.length co48 : Value).ownBlock) s_.1 t344) ∧ (Kd.R (Kd.int .i64) 2 w' w.heap.size (fun k_ => (w.heap.size ≤ k_) ∧ some k_ ≠ (.slice Ao53 y337.length co53 : Value).ownBlock ∧ some k_ ≠ (v341 : Value).ownBlock ∧ some k_ ≠ (s_.1 : Value).ownBlock ∧ some k_ ≠ (.slice (some ad333) t330.length co48 : Value).ownBlock) s_.2 y348) ∧ (Kd.N (Kd.slice 2 (Kd.int .i64)) 35 w' w.heap.size (fun k_ => (w.heap.size ≤ k_) ∧ some k_ ≠ (.slice Ao53 y337.length co53 : Value).ownBlock ∧ some k_ ≠ (v341 : Value).ownBlock ∧ some k_ ≠ (s_.1 : Value).ownBlock ∧ some k_ ≠ (s_.2 : Value).ownBlock ∧ some k_ ≠ (.slice (some ad333) t330.length co48 : Value).ownBlock ∧ k_ ≠ gb314) (.slice (some ad343) x10_4.length co54) x10_4) ∧ (Kd.R (Kd.int .i64) 2 w' w.heap.size (fun k_ => (w.heap.size ≤ k_) ∧ some k_ ≠ (.slice Ao53 y337.length co53 : Value).ownBlock ∧ some k_ ≠ (v341 : Value).ownBlock ∧ some k_ ≠ (s_.1 : Value).ownBlock ∧ some k_ ≠ (s_.2 : Value).ownBlock) (.slice (some ad333) t330.length co48) t330) ∧ (w'.heap[gb314]? = some (.cells #[.bool a0_0, .bool a0_1, .bool a0_2, .bool a0_3, .bool a0_4, .int .i64 a0_5] 23 (0, 0))) ∧ (Below w.heap.size w w')) ?_ ?_
                       rotate_left
                       ·intro hCont
                        refine two_ (i := 5) (j := 10) (Ni := some 86) (Nj := some 91) #[true, true, true, true, true, true, true, true, true, true, false, false, false, false, false] #[true, true, true, true, true, false, true, true, true, true, true, false, false, false, false] rfl rfl rfl rfl (two_of HT_.out zr) (by decide) (by decide) (fun K hK => ?_) (fun K hK => ?_)
                        ·skip
                         refine goes_ Try.func73 zr rfl #[.slice A343_0 (rd_L1 x10_4 x11_3).length c343_0] (by rfl) rfl rfl zm ?_
                         with_reducible refine (spec_l01Own.calls _ _ (rd_L1 x10_4 x11_3) t344 _ ?side1 ?side2 A44.out).mono ?_
                         (case side1 => repeat (first | exact (by repeat (first | (with_reducible exact HR343_0.out) | (with_reducible refine Kd.C_alloc ?_ _) | (with_reducible refine Kd.C_drewN ?_ _) | (with_reducible refine Kd.C_drew ?_) | exact HR343_0.out)) | (with_reducible refine Kd.C_alloc ?_ _) | (with_reducible refine Kd.C_drewN ?_ _) | (with_reducible refine Kd.C_drew ?_)))
                         (case side2 => exact HC343_0.out)
                         rintro e w56 ⟨v345, rfl, ho0, hb⟩
                         have HS0_ := (hb.cell (jK _ _ (hHeld.1))).trans (hHeld.1)
                         refine ⟨_, rfl, ?_⟩
                         have n0_ := jA (Kd.N_elder' (by (with_reducible repeat (first | apply Kd.N_alloc | apply Kd.N_drewN | apply Kd.N_drew)); exact HO_10.out) (Kd.R_base ho0) hb)
                         have n1_ := jA (Kd.R_elder' (zo HO_12) (Kd.R_base ho0) hb)
                         have n2_ := jA (Kd.R_elder' (zo HO339) (Kd.R_base ho0) hb)
                         have n3_ := jA (Kd.R_elder' (zo HO342) (Kd.R_base ho0) hb)
                         have n4_ := jA (Kd.V_elder' (by (with_reducible repeat (first | apply Kd.V_alloc | apply Kd.V_drewN | apply Kd.V_drew)); exact HL343_0.out) (Kd.R_base ho0) hb)
                         have n5_ := jA (Kd.R_lower (Kd.R_new' (Kd.R_new' (Kd.R_new' (Kd.R_newM (M := fun k_ => (w.heap.size ≤ k_)) ho0 (jG (zb1 HB GE314)) (fun k_ h_ => h_)) (Kd.R_lt (zo HO_12))) (Kd.R_lt (zo HO339))) (Kd.R_lt (zo HO342))) (jG (zb1 HB GE314)))
                         have n6_ := jA (jP (g := gb314) (o := .cells #[.bool a0_0, .bool a0_1, .bool a0_2, .bool a0_3, .bool a0_4, .int .i64 a0_5] 23 (0, 0)) (zk BK314) hb)
                         have n7_ := jA (Kd.C_below (by repeat (first | (with_reducible exact HR343_0.out) | (with_reducible refine Kd.C_alloc ?_ _) | (with_reducible refine Kd.C_drewN ?_ _) | (with_reducible refine Kd.C_drew ?_) | exact HR343_0.out)) hb)
                         have n8_ := jA (jJ (zb1 HB GE314) hb)
                         clear HO_10
                         clear HO_12
                         clear HO339
                         clear HO342
                         clear HL343_0
                         clear BK314
                         clear HR343_0
                         clear HB
                         have HO_10 := n0_
                         have HO_12 := n1_
                         have HO339 := n2_
                         have HO342 := n3_
                         have HL343_0 := n4_
                         have HO346 := n5_
                         have BK314 := n6_
                         have HR343_0 := n7_
                         have HB := n8_
                         clear n0_ n1_ n2_ n3_ n4_ n5_ n6_ n7_ n8_
                         (try clear hb)
                         (try clear hb2)
                         (try clear hk)
                         (try clear hi)
                         (try clear ho0)
                         refine hK.out _ _ ⟨HS0_, ((HB.out.cell (jK w _ hw347_0)).trans hw347_0)⟩ (fun hHeld => ?_)
                         clear hK K
                         refine norm_ (a' := ?_) ?_ ?_
                         rotate_left
                         ·show Act.put _ (some 86) _ = _
                          simp only [Act.put, jL, jV, jW, i64_w, i32_w]
                          rfl
                         refine one_ (i := 10) (N := some 91) m15_7ff0 rfl rfl (one_of HT_.out zr) (by decide) (fun K hK => ?_)
                         refine Kd.R_lit_step (Kd.int .i64) _ 2 ?hg (N := 91) ?hd (xs := ([rd l1 x13_4] : List Int)) (inner := [.int .i64 (rd l1 x13_4)]) (ok := fun _ => True) (okp := fun _ => True) ?hr ?hp (fun _ hk => hk) trivial (Below.refl _ _) (Nat.le_refl _) (by simp) ?_; (case hd => rfl); (case hg => rfl); (case hr => first | (go_simp; done) | (go_simp; rfl)); (case hp => exact (Reps.one (show Kd.M (Kd.int .i64) _ _ _ (rd l1 x13_4) [.int .i64 (rd l1 x13_4)] from rfl) (Reps.none _ _)))
                         intro v349 w57 ho58 hb hg_ hnew_
                         have HS0_ := (hb.cell (jK _ _ (hHeld.1))).trans (hHeld.1)
                         clear hg_ hnew_
                         (first | rw [← Ny348.out] at ho58 | (simp only [Int.reduceToNat] at ho58; rw [← Ny348.out] at ho58))
                         have n0_ := jA (Kd.N_elder' (by (with_reducible repeat (first | apply Kd.N_alloc | apply Kd.N_drewN | apply Kd.N_drew)); exact HO_10.out) (Kd.R_base ho58) hb)
                         have n1_ := jA (Kd.R_elder' (zo HO_12) (Kd.R_base ho58) hb)
                         have n2_ := jA (Kd.R_elder' (zo HO339) (Kd.R_base ho58) hb)
                         have n3_ := jA (Kd.R_elder' (zo HO342) (Kd.R_base ho58) hb)
                         have n4_ := jA (Kd.V_elder' (by (with_reducible repeat (first | apply Kd.V_alloc | apply Kd.V_drewN | apply Kd.V_drew)); exact HL343_0.out) (Kd.R_base ho58) hb)
                         have n5_ := jA (Kd.R_elder' (zo HO346) (Kd.R_base ho58) hb)
                         have n6_ := jA (Kd.R_lower (Kd.R_new' (Kd.R_new' (Kd.R_new' (Kd.R_new' (Kd.R_newM (M := fun k_ => (w.heap.size ≤ k_)) ho58 (jG (zb1 HB GE314)) (fun k_ h_ => h_)) (Kd.R_lt (zo HO_12))) (Kd.R_lt (zo HO339))) (Kd.R_lt (zo HO342))) (Kd.R_lt (zo HO346))) (jG (zb1 HB GE314)))
                         have n7_ := jA (jP (g := gb314) (o := .cells #[.bool a0_0, .bool a0_1, .bool a0_2, .bool a0_3, .bool a0_4, .int .i64 a0_5] 23 (0, 0)) (zk BK314) hb)
                         have n8_ := jA (Kd.C_below (by repeat (first | (with_reducible exact HR343_0.out) | (with_reducible refine Kd.C_alloc ?_ _) | (with_reducible refine Kd.C_drewN ?_ _) | (with_reducible refine Kd.C_drew ?_) | exact HR343_0.out)) hb)
                         have n9_ := jA (jJ (zb1 HB GE314) hb)
                         clear HO_10
                         clear HO_12
                         clear HO339
                         clear HO342
                         clear HL343_0
                         clear HO346
                         clear BK314
                         clear HR343_0
                         clear HB
                         have HO_10 := n0_
                         have HO_12 := n1_
                         have HO339 := n2_
                         have HO342 := n3_
                         have HL343_0 := n4_
                         have HO346 := n5_
                         have HO350 := n6_
                         have BK314 := n7_
                         have HR343_0 := n8_
                         have HB := n9_
                         clear n0_ n1_ n2_ n3_ n4_ n5_ n6_ n7_ n8_ n9_
                         clear hb ho58
                         refine hK.out _ _ ⟨HS0_, ((HB.out.cell (jK w _ hw347_0)).trans hw347_0)⟩ (fun hHeld => ?_)
                         clear hK K
                         refine norm_ (a' := ?_) ?_ ?_
                         rotate_left
                         ·show Act.put _ (some 91) _ = _
                          simp only [Act.put, jL, jV, jW, i64_w, i32_w]
                          rfl
                         exact norm_ (by simp only [putAll, Act.put, jL, jV, jW]) (hCont (v345, v349) _ ⟨hHeld, (by (with_reducible repeat (first | apply Kd.V_alloc | apply Kd.V_drewN | apply Kd.V_drew)); exact Kd.V_mono HL343_0.out (fun _ hk => ⟨hk.1.1.1.1.1, ⟨hk.1.1.1.1.2.2.1, ⟨hk.1.1.1.2, ⟨hk.1.2, ⟨hk.2, ⟨hk.1.1.2, ⟨hk.1.1.1.1.2.1, hk.1.1.1.1.2.2.2⟩⟩⟩⟩⟩⟩⟩)), (by (with_reducible repeat (first | apply ja | apply jZ | apply jc)); exact Kd.R_mono HO339.out (fun _ hk => ⟨hk.1.1.1.1, ⟨hk.1.1.2, ⟨hk.1.2, ⟨hk.2, hk.1.1.1.2⟩⟩⟩⟩)), (by (with_reducible repeat (first | apply ja | apply jZ | apply jc)); exact Kd.R_mono HO342.out (fun _ hk => ⟨hk.1.1.1, ⟨hk.1.1.2.2, ⟨hk.1.2, ⟨hk.2, hk.1.1.2.1⟩⟩⟩⟩)), (by (with_reducible repeat (first | apply ja | apply jZ | apply jc)); exact Kd.R_mono HO346.out (fun _ hk => ⟨hk.1.1.1.1.1, ⟨hk.1.1.2, ⟨hk.1.2, ⟨hk.2, hk.1.1.1.2⟩⟩⟩⟩)), (by (with_reducible repeat (first | apply ja | apply jZ | apply jc)); exact Kd.R_mono HO350.out (fun _ hk => ⟨hk.1.1.1.1.1, ⟨hk.1.1.2, ⟨hk.1.2, ⟨hk.2, hk.1.1.1.2⟩⟩⟩⟩)), (by (with_reducible repeat (first | apply Kd.N_alloc | apply Kd.N_drewN | apply Kd.N_drew)); exact Kd.N_mono HO_10.out (fun _ hk => ⟨hk.1.1.1.1, ⟨hk.1.1.1.2.2.1, ⟨hk.1.1.2, ⟨hk.1.2, ⟨hk.2, ⟨hk.1.1.1.2.1, hk.1.1.1.2.2.2⟩⟩⟩⟩⟩⟩)), (by (with_reducible repeat (first | apply ja | apply jZ | apply jc)); exact Kd.R_mono HO_12.out (fun _ hk => ⟨hk.1.1.1.1, ⟨hk.1.1.1.2, ⟨hk.1.1.2, ⟨hk.1.2, hk.2⟩⟩⟩⟩)), (zk BK314), (zb1 HB GE314)⟩)
                        ·skip
                         refine Kd.R_lit_step (Kd.int .i64) _ 2 ?hg (N := 91) ?hd (xs := ([rd l1 x13_4] : List Int)) (inner := [.int .i64 (rd l1 x13_4)]) (ok := fun _ => True) (okp := fun _ => True) ?hr ?hp (fun _ hk => hk) trivial (Below.refl _ _) (Nat.le_refl _) (by simp) ?_; (case hd => rfl); (case hg => rfl); (case hr => first | (go_simp; done) | (go_simp; rfl)); (case hp => exact (Reps.one (show Kd.M (Kd.int .i64) _ _ _ (rd l1 x13_4) [.int .i64 (rd l1 x13_4)] from rfl) (Reps.none _ _)))
                         intro v349 w56 ho57 hb hg_ hnew_
                         have HS0_ := (hb.cell (jK _ _ (hHeld.1))).trans (hHeld.1)
                         clear hg_ hnew_
                         (first | rw [← Ny348.out] at ho57 | (simp only [Int.reduceToNat] at ho57; rw [← Ny348.out] at ho57))
                         have n0_ := jA (Kd.N_elder' (by (with_reducible repeat (first | apply Kd.N_alloc | apply Kd.N_drewN | apply Kd.N_drew)); exact HO_10.out) (Kd.R_base ho57) hb)
                         have n1_ := jA (Kd.R_elder' (zo HO_12) (Kd.R_base ho57) hb)
                         have n2_ := jA (Kd.R_elder' (zo HO339) (Kd.R_base ho57) hb)
                         have n3_ := jA (Kd.R_elder' (zo HO342) (Kd.R_base ho57) hb)
                         have n4_ := jA (Kd.V_elder' (by (with_reducible repeat (first | apply Kd.V_alloc | apply Kd.V_drewN | apply Kd.V_drew)); exact HL343_0.out) (Kd.R_base ho57) hb)
                         have n5_ := jA (Kd.R_lower (Kd.R_new' (Kd.R_new' (Kd.R_new' (Kd.R_newM (M := fun k_ => (w.heap.size ≤ k_)) ho57 (jG (zb1 HB GE314)) (fun k_ h_ => h_)) (Kd.R_lt (zo HO_12))) (Kd.R_lt (zo HO339))) (Kd.R_lt (zo HO342))) (jG (zb1 HB GE314)))
                         have n6_ := jA (jP (g := gb314) (o := .cells #[.bool a0_0, .bool a0_1, .bool a0_2, .bool a0_3, .bool a0_4, .int .i64 a0_5] 23 (0, 0)) (zk BK314) hb)
                         have n7_ := jA (Kd.C_below (by repeat (first | (with_reducible exact HR343_0.out) | (with_reducible refine Kd.C_alloc ?_ _) | (with_reducible refine Kd.C_drewN ?_ _) | (with_reducible refine Kd.C_drew ?_) | exact HR343_0.out)) hb)
                         have n8_ := jA (jJ (zb1 HB GE314) hb)
                         clear HO_10
                         clear HO_12
                         clear HO339
                         clear HO342
                         clear HL343_0
                         clear BK314
                         clear HR343_0
                         clear HB
                         have HO_10 := n0_
                         have HO_12 := n1_
                         have HO339 := n2_
                         have HO342 := n3_
                         have HL343_0 := n4_
                         have HO350 := n5_
                         have BK314 := n6_
                         have HR343_0 := n7_
                         have HB := n8_
                         clear n0_ n1_ n2_ n3_ n4_ n5_ n6_ n7_ n8_
                         clear hb ho57
                         refine hK.out _ _ ⟨HS0_, ((HB.out.cell (jK w _ hw347_0)).trans hw347_0)⟩ (fun hHeld => ?_)
                         clear hK K
                         refine norm_ (a' := ?_) ?_ ?_
                         rotate_left
                         ·show Act.put _ (some 91) _ = _
                          simp only [Act.put, jL, jV, jW, i64_w, i32_w]
                          rfl
                         refine one_ (i := 5) (N := some 86) m15_7ff0 rfl rfl (one_of HT_.out zr) (by decide) (fun K hK => ?_)
                         refine goes_ Try.func73 zr rfl #[.slice A343_0 (rd_L1 x10_4 x11_3).length c343_0] (by rfl) rfl rfl zm ?_
                         with_reducible refine (spec_l01Own.calls _ _ (rd_L1 x10_4 x11_3) t344 _ ?side1 ?side2 A44.out).mono ?_
                         (case side1 => repeat (first | exact (by repeat (first | (with_reducible exact HR343_0.out) | (with_reducible refine Kd.C_alloc ?_ _) | (with_reducible refine Kd.C_drewN ?_ _) | (with_reducible refine Kd.C_drew ?_) | exact HR343_0.out)) | (with_reducible refine Kd.C_alloc ?_ _) | (with_reducible refine Kd.C_drewN ?_ _) | (with_reducible refine Kd.C_drew ?_)))
                         (case side2 => exact HC343_0.out)
                         rintro e w58 ⟨v345, rfl, ho0, hb⟩
                         have HS0_ := (hb.cell (jK _ _ (hHeld.1))).trans (hHeld.1)
                         refine ⟨_, rfl, ?_⟩
                         have n0_ := jA (Kd.N_elder' (by (with_reducible repeat (first | apply Kd.N_alloc | apply Kd.N_drewN | apply Kd.N_drew)); exact HO_10.out) (Kd.R_base ho0) hb)
                         have n1_ := jA (Kd.R_elder' (zo HO_12) (Kd.R_base ho0) hb)
                         have n2_ := jA (Kd.R_elder' (zo HO339) (Kd.R_base ho0) hb)
                         have n3_ := jA (Kd.R_elder' (zo HO342) (Kd.R_base ho0) hb)
                         have n4_ := jA (Kd.V_elder' (by (with_reducible repeat (first | apply Kd.V_alloc | apply Kd.V_drewN | apply Kd.V_drew)); exact HL343_0.out) (Kd.R_base ho0) hb)
                         have n5_ := jA (Kd.R_elder' (zo HO350) (Kd.R_base ho0) hb)
                         have n6_ := jA (Kd.R_lower (Kd.R_new' (Kd.R_new' (Kd.R_new' (Kd.R_new' (Kd.R_newM (M := fun k_ => (w.heap.size ≤ k_)) ho0 (jG (zb1 HB GE314)) (fun k_ h_ => h_)) (Kd.R_lt (zo HO_12))) (Kd.R_lt (zo HO339))) (Kd.R_lt (zo HO342))) (Kd.R_lt (zo HO350))) (jG (zb1 HB GE314)))
                         have n7_ := jA (jP (g := gb314) (o := .cells #[.bool a0_0, .bool a0_1, .bool a0_2, .bool a0_3, .bool a0_4, .int .i64 a0_5] 23 (0, 0)) (zk BK314) hb)
                         have n8_ := jA (Kd.C_below (by repeat (first | (with_reducible exact HR343_0.out) | (with_reducible refine Kd.C_alloc ?_ _) | (with_reducible refine Kd.C_drewN ?_ _) | (with_reducible refine Kd.C_drew ?_) | exact HR343_0.out)) hb)
                         have n9_ := jA (jJ (zb1 HB GE314) hb)
                         clear HO_10
                         clear HO_12
                         clear HO339
                         clear HO342
                         clear HL343_0
                         clear HO350
                         clear BK314
                         clear HR343_0
                         clear HB
                         have HO_10 := n0_
                         have HO_12 := n1_
                         have HO339 := n2_
                         have HO342 := n3_
                         have HL343_0 := n4_
                         have HO350 := n5_
                         have HO346 := n6_
                         have BK314 := n7_
                         have HR343_0 := n8_
                         have HB := n9_
                         clear n0_ n1_ n2_ n3_ n4_ n5_ n6_ n7_ n8_ n9_
                         (try clear hb)
                         (try clear hb2)
                         (try clear hk)
                         (try clear hi)
                         (try clear ho0)
                         refine hK.out _ _ ⟨HS0_, ((HB.out.cell (jK w _ hw347_0)).trans hw347_0)⟩ (fun hHeld => ?_)
                         clear hK K
                         refine norm_ (a' := ?_) ?_ ?_
                         rotate_left
                         ·show Act.put _ (some 86) _ = _
                          simp only [Act.put, jL, jV, jW, i64_w, i32_w]
                          rfl
                         exact norm_ (by simp only [putAll, Act.put, jL, jV, jW]) (hCont (v345, v349) _ ⟨hHeld, (by (with_reducible repeat (first | apply Kd.V_alloc | apply Kd.V_drewN | apply Kd.V_drew)); exact Kd.V_mono HL343_0.out (fun _ hk => ⟨hk.1.1.1.1.1, ⟨hk.1.1.1.1.2.2.1, ⟨hk.1.1.1.2, ⟨hk.2, ⟨hk.1.2, ⟨hk.1.1.2, ⟨hk.1.1.1.1.2.1, hk.1.1.1.1.2.2.2⟩⟩⟩⟩⟩⟩⟩)), (by (with_reducible repeat (first | apply ja | apply jZ | apply jc)); exact Kd.R_mono HO339.out (fun _ hk => ⟨hk.1.1.1.1, ⟨hk.1.1.2, ⟨hk.2, ⟨hk.1.2, hk.1.1.1.2⟩⟩⟩⟩)), (by (with_reducible repeat (first | apply ja | apply jZ | apply jc)); exact Kd.R_mono HO342.out (fun _ hk => ⟨hk.1.1.1, ⟨hk.1.1.2.2, ⟨hk.2, ⟨hk.1.2, hk.1.1.2.1⟩⟩⟩⟩)), (by (with_reducible repeat (first | apply ja | apply jZ | apply jc)); exact Kd.R_mono HO346.out (fun _ hk => ⟨hk.1.1.1.1.1, ⟨hk.1.1.2, ⟨hk.1.2, ⟨hk.2, hk.1.1.1.2⟩⟩⟩⟩)), (by (with_reducible repeat (first | apply ja | apply jZ | apply jc)); exact Kd.R_mono HO350.out (fun _ hk => ⟨hk.1.1.1.1.1, ⟨hk.1.1.2, ⟨hk.1.2, ⟨hk.2, hk.1.1.1.2⟩⟩⟩⟩)), (by (with_reducible repeat (first | apply Kd.N_alloc | apply Kd.N_drewN | apply Kd.N_drew)); exact Kd.N_mono HO_10.out (fun _ hk => ⟨hk.1.1.1.1, ⟨hk.1.1.1.2.2.1, ⟨hk.1.1.2, ⟨hk.2, ⟨hk.1.2, ⟨hk.1.1.1.2.1, hk.1.1.1.2.2.2⟩⟩⟩⟩⟩⟩)), (by (with_reducible repeat (first | apply ja | apply jZ | apply jc)); exact Kd.R_mono HO_12.out (fun _ hk => ⟨hk.1.1.1.1, ⟨hk.1.1.1.2, ⟨hk.1.1.2, ⟨hk.2, hk.1.2⟩⟩⟩⟩)), (zk BK314), (zb1 HB GE314)⟩)
                       rintro ⟨v345, v349⟩ w59 ⟨hS_, h0_, h1_, h2_, h3_, h4_, h5_, h6_, h7_, h8_⟩
                       have n0_ : Aside0 (Kd.V (Kd.int .i64) 2 w59 w.heap.size (fun k_ => (w.heap.size ≤ k_) ∧ some k_ ≠ (.slice Ao53 y337.length co53 : Value).ownBlock ∧ some k_ ≠ (v341 : Value).ownBlock ∧ some k_ ≠ (v345 : Value).ownBlock ∧ some k_ ≠ (v349 : Value).ownBlock ∧ some k_ ≠ (.slice (some ad343) x10_4.length co54 : Value).ownBlock ∧ some k_ ≠ (.slice (some ad333) t330.length co48 : Value).ownBlock ∧ k_ ≠ gb314) (.slice A343_0 (rd_L1 x10_4 x11_3).length c343_0) (rd_L1 x10_4 x11_3)) := ⟨h0_⟩
                       have n1_ : Aside0 (Kd.R (Kd.int .i64) 2 w59 w.heap.size (fun k_ => (w.heap.size ≤ k_) ∧ some k_ ≠ (v341 : Value).ownBlock ∧ some k_ ≠ (v345 : Value).ownBlock ∧ some k_ ≠ (v349 : Value).ownBlock ∧ some k_ ≠ (.slice (some ad333) t330.length co48 : Value).ownBlock) (.slice Ao53 y337.length co53) y337) := ⟨h1_⟩
                       have n2_ : Aside0 (Kd.R (Kd.int .i64) 2 w59 w.heap.size (fun k_ => (w.heap.size ≤ k_) ∧ some k_ ≠ (.slice Ao53 y337.length co53 : Value).ownBlock ∧ some k_ ≠ (v345 : Value).ownBlock ∧ some k_ ≠ (v349 : Value).ownBlock ∧ some k_ ≠ (.slice (some ad333) t330.length co48 : Value).ownBlock) v341 y340) := ⟨h2_⟩
                       have n3_ : Aside0 (Kd.R (Kd.int .i64) 2 w59 w.heap.size (fun k_ => (w.heap.size ≤ k_) ∧ some k_ ≠ (.slice Ao53 y337.length co53 : Value).ownBlock ∧ some k_ ≠ (v341 : Value).ownBlock ∧ some k_ ≠ (v349 : Value).ownBlock ∧ some k_ ≠ (.slice (some ad333) t330.length co48 : Value).ownBlock) v345 t344) := ⟨h3_⟩
                       have n4_ : Aside0 (Kd.R (Kd.int .i64) 2 w59 w.heap.size (fun k_ => (w.heap.size ≤ k_) ∧ some k_ ≠ (.slice Ao53 y337.length co53 : Value).ownBlock ∧ some k_ ≠ (v341 : Value).ownBlock ∧ some k_ ≠ (v345 : Value).ownBlock ∧ some k_ ≠ (.slice (some ad333) t330.length co48 : Value).ownBlock) v349 y348) := ⟨h4_⟩
                       have n5_ : Aside0 (Kd.N (Kd.slice 2 (Kd.int .i64)) 35 w59 w.heap.size (fun k_ => (w.heap.size ≤ k_) ∧ some k_ ≠ (.slice Ao53 y337.length co53 : Value).ownBlock ∧ some k_ ≠ (v341 : Value).ownBlock ∧ some k_ ≠ (v345 : Value).ownBlock ∧ some k_ ≠ (v349 : Value).ownBlock ∧ some k_ ≠ (.slice (some ad333) t330.length co48 : Value).ownBlock ∧ k_ ≠ gb314) (.slice (some ad343) x10_4.length co54) x10_4) := ⟨h5_⟩
                       have n6_ : Aside0 (Kd.R (Kd.int .i64) 2 w59 w.heap.size (fun k_ => (w.heap.size ≤ k_) ∧ some k_ ≠ (.slice Ao53 y337.length co53 : Value).ownBlock ∧ some k_ ≠ (v341 : Value).ownBlock ∧ some k_ ≠ (v345 : Value).ownBlock ∧ some k_ ≠ (v349 : Value).ownBlock) (.slice (some ad333) t330.length co48) t330) := ⟨h6_⟩
                       have n7_ : Aside0 (w59.heap[gb314]? = some (.cells #[.bool a0_0, .bool a0_1, .bool a0_2, .bool a0_3, .bool a0_4, .int .i64 a0_5] 23 (0, 0))) := ⟨h7_⟩
                       have n8_ : Aside0 (Below w.heap.size w w59) := ⟨h8_⟩
                       clear HO_10
                       clear HO_12
                       clear HO339
                       clear HO342
                       clear BK314
                       clear HB
                       clear h0_ h1_ h2_ h3_ h4_ h5_ h6_ h7_ h8_
                       have HL343_0 := n0_
                       have HO339 := n1_
                       have HO342 := n2_
                       have HO346 := n3_
                       have HO350 := n4_
                       have HO_10 := n5_
                       have HO_12 := n6_
                       have BK314 := n7_
                       have HB := n8_
                       clear n0_ n1_ n2_ n3_ n4_ n5_ n6_ n7_ n8_
                       have hHeld : w59.cell? (ad343.add (x11_3).toNat) = some (.slice A343_0 (rd_L1 x10_4 x11_3).length c343_0) ∧ w59.cell? (ad347.add (x13_4).toNat) = some (.int .i64 (rd l1 x13_4)) := hS_
                       obtain ⟨Ao61, co61, eo61⟩ := Kd.R_slice HO350.out
                       (first | subst eo61 | (injection eo61 with f1_ f2_ f3_; have f4_ := f1_.symm; have f5_ := f3_.symm; clear f1_ f2_ f3_; subst f4_; subst f5_))
                       refine norm_ (a' := ?_) ?_ ?_
                       rotate_left
                       ·simp only [putAll, Act.put, jL, jV, jW]
                        rfl
                       refine last_ (i := 11) (N := some 92) #[true, true, true, true, true, true, true, true, true, true, true, true, false, false, false] rfl rfl (one_of HT_.out zr) (by decide) (fun K hK => ?_)
                       refine Kd.R_append_rows_step (Kd.int .i64) (w0 := w) w.heap.size (by rfl) (.tmp 86) (.tmp 91) 35 2 (.int .i64 0) 8 rfl Try.underlying35 info2 rfl (by decide) (by omega) v345 t344 y348 _ _ _ (fun k_ => (w.heap.size ≤ k_) ∧ some k_ ≠ (.slice (some ad333) t330.length co48 : Value).ownBlock ∧ some k_ ≠ (.slice Ao53 y337.length co53 : Value).ownBlock ∧ some k_ ≠ (v341 : Value).ownBlock ∧ some k_ ≠ (.slice Ao61 y348.length co61 : Value).ownBlock) (fun _ => False) rfl rfl ?aO ?aR (fun _ _ h => h) (fun _ h => h.elim) ?aF ?aB ?aS ?aL ?_
                       (case aR => repeat (first | exact (Kd.R_reads' HO350.out).2.2 | (with_reducible refine Kd.C_alloc ?_ _) | (with_reducible refine Kd.C_drewN ?_ _) | (with_reducible refine Kd.C_drew ?_)))
                       (case aB => exact (zb1 HB GE314))
                       (case aF => exact (fun k_ hk => ⟨(Nat.le_trans (jG (zb1 HB GE314)) hk), Kd.fresh' (Kd.R_lt (zo HO_12)) k_ hk, Kd.fresh' (Kd.R_lt (zo HO339)) k_ hk, Kd.fresh' (Kd.R_lt (zo HO342)) k_ hk, Kd.fresh' (Kd.R_lt (zo HO350)) k_ hk⟩))
                       (case aO => exact (by (with_reducible repeat (first | apply ja | apply jZ | apply jc)); exact Kd.R_mono HO346.out (fun _ hk => ⟨hk.1, ⟨hk.2.2.2.2, ⟨hk.2.1, ⟨hk.2.2.1, hk.2.2.2.1⟩⟩⟩⟩)))
                       (case aS => exact (jG (zb1 HB GE314)))
                       (case aL => have := LMc46.out; omega)
                       intro v352 w60 ho hb hg hat
                       rw [← Ny351.out] at ho
                       have n0_ := jA (Kd.N_afterv (ok := (fun k_ => (w.heap.size ≤ k_) ∧ some k_ ≠ (.slice (some ad333) t330.length co48 : Value).ownBlock ∧ some k_ ≠ (.slice Ao53 y337.length co53 : Value).ownBlock ∧ some k_ ≠ (v341 : Value).ownBlock ∧ some k_ ≠ (.slice Ao61 y348.length co61 : Value).ownBlock ∧ k_ ≠ gb314)) (by (with_reducible repeat (first | apply Kd.N_alloc | apply Kd.N_drewN | apply Kd.N_drew)); exact Kd.N_mono HO_10.out (fun _ hk => ⟨⟨hk.1, ⟨hk.2.2.2.2.2.1, ⟨hk.2.1, ⟨hk.2.2.1, ⟨hk.2.2.2.2.1, hk.2.2.2.2.2.2⟩⟩⟩⟩⟩, hk.2.2.2.1⟩)) hg hat)
                       have n1_ := jA (Kd.R_after (ok := (fun k_ => (w.heap.size ≤ k_) ∧ some k_ ≠ (.slice Ao53 y337.length co53 : Value).ownBlock ∧ some k_ ≠ (v341 : Value).ownBlock ∧ some k_ ≠ (.slice Ao61 y348.length co61 : Value).ownBlock)) (by (with_reducible repeat (first | apply ja | apply jZ | apply jc)); exact Kd.R_mono HO_12.out (fun _ hk => ⟨⟨hk.1, ⟨hk.2.1, ⟨hk.2.2.1, hk.2.2.2.2⟩⟩⟩, hk.2.2.2.1⟩)) hg hat)
                       have n2_ := jA (blk_grown (g := gb314) (o := .cells #[.bool a0_0, .bool a0_1, .bool a0_2, .bool a0_3, .bool a0_4, .int .i64 a0_5] 23 (0, 0)) (zk BK314) hg (Kd.R_ne HO346.out BK314.out (by decide)))
                       have n3_ := jA (Kd.R_after (ok := (fun k_ => (w.heap.size ≤ k_) ∧ some k_ ≠ (.slice (some ad333) t330.length co48 : Value).ownBlock ∧ some k_ ≠ (v341 : Value).ownBlock ∧ some k_ ≠ (.slice Ao61 y348.length co61 : Value).ownBlock)) (by (with_reducible repeat (first | apply ja | apply jZ | apply jc)); exact Kd.R_mono HO339.out (fun _ hk => ⟨⟨hk.1, ⟨hk.2.2.2.2, ⟨hk.2.1, hk.2.2.2.1⟩⟩⟩, hk.2.2.1⟩)) hg hat)
                       have n4_ := jA (Kd.R_after (ok := (fun k_ => (w.heap.size ≤ k_) ∧ some k_ ≠ (.slice (some ad333) t330.length co48 : Value).ownBlock ∧ some k_ ≠ (.slice Ao53 y337.length co53 : Value).ownBlock ∧ some k_ ≠ (.slice Ao61 y348.length co61 : Value).ownBlock)) (by (with_reducible repeat (first | apply ja | apply jZ | apply jc)); exact Kd.R_mono HO342.out (fun _ hk => ⟨⟨hk.1, ⟨hk.2.2.2.2, ⟨hk.2.1, hk.2.2.2.1⟩⟩⟩, hk.2.2.1⟩)) hg hat)
                       have n5_ := jA (Kd.V_afterv (ok := (fun k_ => (w.heap.size ≤ k_) ∧ some k_ ≠ (.slice (some ad343) x10_4.length co54 : Value).ownBlock ∧ some k_ ≠ (.slice (some ad333) t330.length co48 : Value).ownBlock ∧ some k_ ≠ (.slice Ao53 y337.length co53 : Value).ownBlock ∧ some k_ ≠ (v341 : Value).ownBlock ∧ some k_ ≠ (.slice Ao61 y348.length co61 : Value).ownBlock ∧ k_ ≠ gb314)) (by (with_reducible repeat (first | apply Kd.V_alloc | apply Kd.V_drewN | apply Kd.V_drew)); exact Kd.V_mono HL343_0.out (fun _ hk => ⟨⟨hk.1, ⟨hk.2.2.2.2.2.1, ⟨hk.2.2.2.2.2.2.1, ⟨hk.2.1, ⟨hk.2.2.1, ⟨hk.2.2.2.2.1, hk.2.2.2.2.2.2.2⟩⟩⟩⟩⟩⟩, hk.2.2.2.1⟩)) hg hat)
                       have n6_ := jA (Kd.R_after (ok := (fun k_ => (w.heap.size ≤ k_) ∧ some k_ ≠ (.slice (some ad333) t330.length co48 : Value).ownBlock ∧ some k_ ≠ (.slice Ao53 y337.length co53 : Value).ownBlock ∧ some k_ ≠ (v341 : Value).ownBlock)) (by (with_reducible repeat (first | apply ja | apply jZ | apply jc)); exact Kd.R_mono HO350.out (fun _ hk => ⟨⟨hk.1, ⟨hk.2.2.2.2, ⟨hk.2.1, hk.2.2.1⟩⟩⟩, hk.2.2.2.1⟩)) hg hat)
                       have n7_ := jA (hb)
                       have n8_ := jA (ho)
                       clear HO_10
                       clear HO_12
                       clear BK314
                       clear HO339
                       clear HO342
                       clear HL343_0
                       clear HO350
                       clear HB
                       clear HO346
                       have HO_10 := n0_
                       have HO_12 := n1_
                       have BK314 := n2_
                       have HO339 := n3_
                       have HO342 := n4_
                       have HL343_0 := n5_
                       have HO350 := n6_
                       have HB := n7_
                       have HO353 := n8_
                       clear n0_ n1_ n2_ n3_ n4_ n5_ n6_ n7_ n8_
                       clear ho hb hg hat
                       obtain ⟨Ao62, co62, eo62⟩ := Kd.R_slice HO353.out
                       (first | subst eo62 | (injection eo62 with f1_ f2_ f3_; have f4_ := f1_.symm; have f5_ := f3_.symm; clear f1_ f2_ f3_; subst f4_; subst f5_))
                       refine hK.out _ _ ?_
                       clear hK K
                       refine norm_ (a' := ?_) ?_ ?_
                       rotate_left
                       ·show Act.put _ (some 92) _ = _
                        simp only [Act.put, jL, jV, jW, i64_w, i32_w]
                        rfl
                       refine last_ (i := 12) (N := some 93) #[true, true, true, true, true, true, true, true, true, true, true, true, true, false, false] rfl rfl (one_of HT_.out zr) (by decide) (fun K hK => ?_)
                       refine Kd.N_lit_step (Kd.slice 2 (Kd.int .i64)) _ 35 ?hg (N' := 93) ?hd (xs := ([y351] : List (List Int))) (inner := [.slice Ao62 y351.length co62]) (ok := (fun k_ => (w.heap.size ≤ k_) ∧ some k_ ≠ (.slice (some ad343) x10_4.length co54 : Value).ownBlock ∧ some k_ ≠ (.slice (some ad333) t330.length co48 : Value).ownBlock ∧ some k_ ≠ (.slice Ao53 y337.length co53 : Value).ownBlock ∧ some k_ ≠ (v341 : Value).ownBlock ∧ some k_ ≠ (.slice Ao61 y348.length co61 : Value).ownBlock ∧ k_ ≠ gb314)) (okp := (fun k_ => (w.heap.size ≤ k_) ∧ some k_ ≠ (.slice (some ad343) x10_4.length co54 : Value).ownBlock ∧ some k_ ≠ (.slice (some ad333) t330.length co48 : Value).ownBlock ∧ some k_ ≠ (.slice Ao53 y337.length co53 : Value).ownBlock ∧ some k_ ≠ (v341 : Value).ownBlock ∧ some k_ ≠ (.slice Ao61 y348.length co61 : Value).ownBlock ∧ k_ ≠ gb314)) ?hr ?hp (fun _ hk => hk) ((show ∀ k_, w60.heap.size ≤ k_ → (fun k_ => (w.heap.size ≤ k_) ∧ some k_ ≠ (.slice (some ad343) x10_4.length co54 : Value).ownBlock ∧ some k_ ≠ (.slice (some ad333) t330.length co48 : Value).ownBlock ∧ some k_ ≠ (.slice Ao53 y337.length co53 : Value).ownBlock ∧ some k_ ≠ (v341 : Value).ownBlock ∧ some k_ ≠ (.slice Ao61 y348.length co61 : Value).ownBlock ∧ k_ ≠ gb314) k_ from fun k_ hk => ⟨(Nat.le_trans (jG (zb1 HB GE314)) hk), Kd.fresh' (Kd.N_lt (by (with_reducible repeat (first | apply Kd.N_alloc | apply Kd.N_drewN | apply Kd.N_drew)); exact HO_10.out)) k_ hk, Kd.fresh' (Kd.R_lt (zo HO_12)) k_ hk, Kd.fresh' (Kd.R_lt (zo HO339)) k_ hk, Kd.fresh' (Kd.R_lt (zo HO342)) k_ hk, Kd.fresh' (Kd.R_lt (zo HO350)) k_ hk, Kd.freshB (g := gb314) (o := .cells #[.bool a0_0, .bool a0_1, .bool a0_2, .bool a0_3, .bool a0_4, .int .i64 a0_5] 23 (0, 0)) (zk BK314) k_ hk⟩) _ (Nat.le_refl _)) (Below.refl _ _) (Nat.le_refl _) (by simp) ?_; (case hd => rfl); (case hg => rfl); (case hr => first | (go_simp; done) | (go_simp; rfl)); (case hp => exact (Reps.one (show Kd.FK (Kd.slice 2 (Kd.int .i64)) _ _ y351 [.slice Ao62 y351.length co62] from (Kd.FK_slice_mk (Kd.R_reads' (Kd.R_mono (ok' := (fun k_ => (w.heap.size ≤ k_) ∧ some k_ ≠ (.slice (some ad343) x10_4.length co54 : Value).ownBlock ∧ some k_ ≠ (.slice (some ad333) t330.length co48 : Value).ownBlock ∧ some k_ ≠ (.slice Ao53 y337.length co53 : Value).ownBlock ∧ some k_ ≠ (v341 : Value).ownBlock ∧ some k_ ≠ (.slice Ao61 y348.length co61 : Value).ownBlock ∧ k_ ≠ gb314)) (Kd.R_types (Kd.R_apart' (HO353.out) (Kd.N_typed HO_10.out) (by decide)) BK314.out (by decide)) (fun k_ hk => ⟨hk.1.1.1, ⟨hk.1.2, ⟨hk.1.1.2.1, ⟨hk.1.1.2.2.1, ⟨hk.1.1.2.2.2.1, ⟨hk.1.1.2.2.2.2, hk.2⟩⟩⟩⟩⟩⟩))).2.1 (Kd.R_F (Kd.R_mono (ok' := (fun k_ => (w.heap.size ≤ k_) ∧ some k_ ≠ (.slice (some ad343) x10_4.length co54 : Value).ownBlock ∧ some k_ ≠ (.slice (some ad333) t330.length co48 : Value).ownBlock ∧ some k_ ≠ (.slice Ao53 y337.length co53 : Value).ownBlock ∧ some k_ ≠ (v341 : Value).ownBlock ∧ some k_ ≠ (.slice Ao61 y348.length co61 : Value).ownBlock ∧ k_ ≠ gb314)) (Kd.R_types (Kd.R_apart' (HO353.out) (Kd.N_typed HO_10.out) (by decide)) BK314.out (by decide)) (fun k_ hk => ⟨hk.1.1.1, ⟨hk.1.2, ⟨hk.1.1.2.1, ⟨hk.1.1.2.2.1, ⟨hk.1.1.2.2.2.1, ⟨hk.1.1.2.2.2.2, hk.2⟩⟩⟩⟩⟩⟩))))) (Reps.none _ _)))
                       intro v355 w63 ho64 hb hg_ hnew_
                       clear hg_ hnew_
                       (first | rw [← Ny354.out] at ho64 | (simp only [Int.reduceToNat] at ho64; rw [← Ny354.out] at ho64))
                       have n0_ := jA (Kd.N_elder' (by (with_reducible repeat (first | apply Kd.N_alloc | apply Kd.N_drewN | apply Kd.N_drew)); exact HO_10.out) (Kd.N_base ho64) hb)
                       have n1_ := jA (Kd.R_below (zo HO_12) hb)
                       have n2_ := jA (Kd.R_below (zo HO339) hb)
                       have n3_ := jA (Kd.R_below (zo HO342) hb)
                       have n4_ := jA (Kd.V_elder' (by (with_reducible repeat (first | apply Kd.V_alloc | apply Kd.V_drewN | apply Kd.V_drew)); exact HL343_0.out) (Kd.N_base ho64) hb)
                       have n5_ := jA (Kd.R_below (zo HO350) hb)
                       have n6_ := jA (Kd.N_lower ho64 (jG (zb1 HB GE314)))
                       have n7_ := jA (jP (g := gb314) (o := .cells #[.bool a0_0, .bool a0_1, .bool a0_2, .bool a0_3, .bool a0_4, .int .i64 a0_5] 23 (0, 0)) (zk BK314) hb)
                       have n8_ := jA (jJ (zb1 HB GE314) hb)
                       clear HO_10
                       clear HO_12
                       clear HO339
                       clear HO342
                       clear HL343_0
                       clear HO350
                       clear BK314
                       clear HB
                       clear HO353
                       have HO_10 := n0_
                       have HO_12 := n1_
                       have HO339 := n2_
                       have HO342 := n3_
                       have HL343_0 := n4_
                       have HO350 := n5_
                       have HO356 := n6_
                       have BK314 := n7_
                       have HB := n8_
                       clear n0_ n1_ n2_ n3_ n4_ n5_ n6_ n7_ n8_
                       clear hb ho64
                       obtain ⟨Ao66, co66, eo66⟩ := Kd.N_slice HO356.out
                       (first | subst eo66 | (injection eo66 with f1_ f2_ f3_; have f4_ := f1_.symm; have f5_ := f3_.symm; clear f1_ f2_ f3_; subst f4_; subst f5_))
                       refine hK.out _ _ ?_
                       clear hK K
                       refine norm_ (a' := ?_) ?_ ?_
                       rotate_left
                       ·show Act.put _ (some 93) _ = _
                        simp only [Act.put, jL, jV, jW, i64_w, i32_w]
                        rfl
                       refine last_ (i := 13) (N := some 94) #[true, true, true, true, true, true, true, true, true, true, true, true, true, true, false] rfl rfl (one_of HT_.out zr) (by decide) (fun K hK => ?_)
                       refine Kd.N_append_rows_step (Kd.slice 2 (Kd.int .i64)) (w0 := w) w.heap.size (by rfl) (.tmp 81) (.tmp 93) 81 35 (.slice none 0 0) 24 rfl Try.underlying81 info35 rfl (by decide) (by omega) (.slice (some ad343) x10_4.length co54) x10_4 y354 _ _ _ (fun k_ => (w.heap.size ≤ k_) ∧ some k_ ≠ (.slice (some ad333) t330.length co48 : Value).ownBlock ∧ some k_ ≠ (.slice Ao53 y337.length co53 : Value).ownBlock ∧ some k_ ≠ (v341 : Value).ownBlock ∧ some k_ ≠ (.slice Ao61 y348.length co61 : Value).ownBlock ∧ k_ ≠ gb314) (fun k_ => ((fun k_ => (w.heap.size ≤ k_) ∧ some k_ ≠ (.slice (some ad333) t330.length co48 : Value).ownBlock ∧ some k_ ≠ (.slice Ao53 y337.length co53 : Value).ownBlock ∧ some k_ ≠ (v341 : Value).ownBlock ∧ some k_ ≠ (.slice Ao61 y348.length co61 : Value).ownBlock ∧ k_ ≠ gb314)) k_ ∧ some k_ ≠ (.slice (some ad343) x10_4.length co54 : Value).ownBlock) rfl rfl ?aO ?aR (fun _ hk => hk) ?aF ?aB ?aS ?aL ?_
                       (case aR => exact (by skip; exact Kd.N_F (Kd.N_mono (ok' := (fun k_ => ((fun k_ => (w.heap.size ≤ k_) ∧ some k_ ≠ (.slice (some ad333) t330.length co48 : Value).ownBlock ∧ some k_ ≠ (.slice Ao53 y337.length co53 : Value).ownBlock ∧ some k_ ≠ (v341 : Value).ownBlock ∧ some k_ ≠ (.slice Ao61 y348.length co61 : Value).ownBlock ∧ k_ ≠ gb314)) k_ ∧ some k_ ≠ (.slice (some ad343) x10_4.length co54 : Value).ownBlock)) (HO356.out) (fun k_ hk => ⟨⟨hk.1, ⟨hk.2.2.1, ⟨hk.2.2.2.1, ⟨hk.2.2.2.2.1, ⟨hk.2.2.2.2.2.1, hk.2.2.2.2.2.2⟩⟩⟩⟩⟩, hk.2.1⟩))))
                       (case aB => exact (zb1 HB GE314))
                       (case aF => exact (fun k_ hk => ⟨(Nat.le_trans (jG (zb1 HB GE314)) hk), Kd.fresh' (Kd.R_lt (zo HO_12)) k_ hk, Kd.fresh' (Kd.R_lt (zo HO339)) k_ hk, Kd.fresh' (Kd.R_lt (zo HO342)) k_ hk, Kd.fresh' (Kd.R_lt (zo HO350)) k_ hk, Kd.freshB (g := gb314) (o := .cells #[.bool a0_0, .bool a0_1, .bool a0_2, .bool a0_3, .bool a0_4, .int .i64 a0_5] 23 (0, 0)) (zk BK314) k_ hk⟩))
                       (case aO => exact (by (with_reducible repeat (first | apply Kd.N_alloc | apply Kd.N_drewN | apply Kd.N_drew)); exact Kd.N_mono HO_10.out (fun _ hk => ⟨hk.1.1.1, ⟨hk.1.1.2.1, ⟨hk.1.1.2.2.1, ⟨hk.1.1.2.2.2.1, ⟨hk.1.1.2.2.2.2.1, hk.1.1.2.2.2.2.2⟩⟩⟩⟩⟩)))
                       (case aS => exact (jG (zb1 HB GE314)))
                       (case aL => have := LMc47.out; omega)
                       intro v358 w65 ho hb hg hat
                       rw [← Ny357.out] at ho
                       have n0_ := jA (Kd.R_over' (zo HO_12) (Kd.N_typed (by (with_reducible repeat (first | apply Kd.N_alloc | apply Kd.N_drewN | apply Kd.N_drew)); exact HO_10.out)) (by decide) hg)
                       have n1_ := jA (blk_grown (g := gb314) (o := .cells #[.bool a0_0, .bool a0_1, .bool a0_2, .bool a0_3, .bool a0_4, .int .i64 a0_5] 23 (0, 0)) (zk BK314) hg (Kd.N_ne HO_10.out BK314.out (by decide)))
                       have n2_ := jA (Kd.R_over' (zo HO339) (Kd.N_typed (by (with_reducible repeat (first | apply Kd.N_alloc | apply Kd.N_drewN | apply Kd.N_drew)); exact HO_10.out)) (by decide) hg)
                       have n3_ := jA (Kd.R_over' (zo HO342) (Kd.N_typed (by (with_reducible repeat (first | apply Kd.N_alloc | apply Kd.N_drewN | apply Kd.N_drew)); exact HO_10.out)) (by decide) hg)
                       have n4_ := jA (Kd.V_afterv (ok := (fun k_ => (w.heap.size ≤ k_) ∧ some k_ ≠ (.slice (some ad333) t330.length co48 : Value).ownBlock ∧ some k_ ≠ (.slice Ao53 y337.length co53 : Value).ownBlock ∧ some k_ ≠ (v341 : Value).ownBlock ∧ some k_ ≠ (.slice Ao61 y348.length co61 : Value).ownBlock ∧ some k_ ≠ (.slice Ao66 y354.length co66 : Value).ownBlock ∧ k_ ≠ gb314)) (by (with_reducible repeat (first | apply Kd.V_alloc | apply Kd.V_drewN | apply Kd.V_drew)); exact Kd.V_mono HL343_0.out (fun _ hk => ⟨⟨hk.1.1.1, ⟨hk.1.1.2.2.1, ⟨hk.1.1.2.2.2.1, ⟨hk.1.1.2.2.2.2.1, ⟨hk.1.1.2.2.2.2.2.1, ⟨hk.2, hk.1.1.2.2.2.2.2.2⟩⟩⟩⟩⟩⟩, hk.1.1.2.1⟩)) hg hat)
                       have n5_ := jA (Kd.R_over' (zo HO350) (Kd.N_typed (by (with_reducible repeat (first | apply Kd.N_alloc | apply Kd.N_drewN | apply Kd.N_drew)); exact HO_10.out)) (by decide) hg)
                       have n6_ := jA (Kd.N_afterv (ok := (fun k_ => (w.heap.size ≤ k_) ∧ some k_ ≠ (.slice (some ad333) t330.length co48 : Value).ownBlock ∧ some k_ ≠ (.slice Ao53 y337.length co53 : Value).ownBlock ∧ some k_ ≠ (v341 : Value).ownBlock ∧ some k_ ≠ (.slice Ao61 y348.length co61 : Value).ownBlock ∧ k_ ≠ gb314)) (by (with_reducible repeat (first | apply Kd.N_alloc | apply Kd.N_drewN | apply Kd.N_drew)); exact Kd.N_mono HO356.out (fun _ hk => ⟨⟨hk.1, ⟨hk.2.2.1, ⟨hk.2.2.2.1, ⟨hk.2.2.2.2.1, ⟨hk.2.2.2.2.2.1, hk.2.2.2.2.2.2⟩⟩⟩⟩⟩, hk.2.1⟩)) hg hat)
                       have n7_ := jA (hb)
                       have n8_ := jA (ho)
                       clear HO_12
                       clear BK314
                       clear HO339
                       clear HO342
                       clear HL343_0
                       clear HO350
                       clear HO356
                       clear HB
                       clear HO_10
                       have HO_12 := n0_
                       have BK314 := n1_
                       have HO339 := n2_
                       have HO342 := n3_
                       have HL343_0 := n4_
                       have HO350 := n5_
                       have HO356 := n6_
                       have HB := n7_
                       have HO359 := n8_
                       clear n0_ n1_ n2_ n3_ n4_ n5_ n6_ n7_ n8_
                       clear ho hb hg hat
                       refine hK.out _ _ ?_
                       clear hK K
                       refine norm_ (a' := ?_) ?_ ?_
                       rotate_left
                       ·show Act.put _ (some 94) _ = _
                        simp only [Act.put, jL, jV, jW, i64_w, i32_w]
                        rfl
                       refine zp HT_ 14 10 #[true, true, true, true, true, true, true, true, true, true, true, true, true, true, true] ?_
                       refine done_ (done_of HT_.out zr) ?_
                       try go_wp2
                       go_roundg k4
                       case measure => have := HJ4.out; have := HJ11.out; have := HK3.out; have := HK4.out; omega
                       case rel => exact ⟨(y340), (y357), (wrap64 (x13_4 + 1)), zz, H', ⟨by have := HJ4.out; have := HJ11.out; have := HK3.out; have := HK4.out; omega⟩, ⟨by (with_reducible repeat (first | apply ja | apply jZ | apply jc)); exact Kd.R_mono HO342.out (fun _ hk => ⟨hk.1.1, hk.1.2.1⟩)⟩, ⟨by (with_reducible repeat (first | apply Kd.N_alloc | apply Kd.N_drewN | apply Kd.N_drew)); exact Kd.N_mono HO359.out (fun _ hk => ⟨hk.1, ⟨hk.2.2.2.1, ⟨hk.2.1, hk.2.2.2.2.2⟩⟩⟩)⟩, ⟨by (with_reducible repeat (first | apply ja | apply jZ | apply jc)); exact Kd.R_mono HO_12.out (fun _ hk => ⟨hk.1.1, hk.1.2.2.1⟩)⟩, ⟨by (with_reducible repeat (first | refine jD ?_ _ | refine jF ?_ | refine jE ?_ _)); exact BK314.out⟩, ⟨zb1 HB GE314⟩⟩
                      ·rw [if_neg c47] at H
                       exact absurd H (by simp)
                     ·rw [if_neg c46] at H
                      exact absurd H (by simp)
                    ·rw [if_neg c45] at H
                     exact absurd H (by simp)
                   ·rw [if_neg c43] at H
                    exact absurd H (by simp)
                  ·rw [if_neg c42] at H
                   exact absurd H (by simp)
                 ·rw [if_neg c41] at H
                  exact absurd H (by simp)
               ·rw [if_neg c36] at H
                have c36b0 : decide (0 ≤ (rd t330 x13_4)) = false := decide_eq_false c36
                clear c36
                have H' := jA H
                clear H
                obtain ⟨Ao67, co67, eo67⟩ := Kd.R_slice HO_12.out
                subst eo67
                have p333 : 0 ≤ (x13_4 : Int) := jH za
                have q333 : x13_4 < (t330.length : Int) := jH za
                obtain ⟨ad333, e333, hx333_0⟩ := Kd.at_int (Kd.R_reads' HO_12.out).2.2 x13_4 p333 q333
                cases e333
                replace p333 := eq_true p333
                replace q333 := eq_true q333
                go_wp2
                go_roundg k4
                case measure => have := HJ4.out; have := HJ11.out; have := HK3.out; have := HK4.out; omega
                case rel => exact ⟨(x9_4), (x10_4), (wrap64 (x13_4 + 1)), zz, H', ⟨by have := HJ4.out; have := HJ11.out; have := HK3.out; have := HK4.out; omega⟩, ⟨by (with_reducible repeat (first | apply ja | apply jZ | apply jc)); exact HO_9.out⟩, ⟨by (with_reducible repeat (first | apply Kd.N_alloc | apply Kd.N_drewN | apply Kd.N_drew)); exact HO_10.out⟩, ⟨by (with_reducible repeat (first | apply ja | apply jZ | apply jc)); exact HO_12.out⟩, ⟨by (with_reducible repeat (first | refine jD ?_ _ | refine jF ?_ | refine jE ?_ _)); exact BK314.out⟩, ⟨zb1 HB GE314⟩⟩
              ·rw [if_neg c35] at H
               exact absurd H (by simp)
             ·rw [if_neg c34] at H
              have c34b0 : decide (x13_4 < (t330.length : Int)) = false := decide_eq_false c34
              clear c34
              have H' := jA H
              clear H
              obtain ⟨Ao68, co68, eo68⟩ := Kd.R_slice HO_12.out
              subst eo68
              go_wp2
              go_roundg k4
              case measure => have := HJ4.out; have := HJ11.out; have := HK3.out; have := HK4.out; omega
              case rel => exact ⟨(x9_4), (x10_4), (wrap64 (x11_3 + 1)), zz, H', ⟨by have := HJ4.out; have := HJ11.out; have := HK3.out; have := HK4.out; omega⟩, ⟨by (with_reducible repeat (first | apply ja | apply jZ | apply jc)); exact Kd.R_mono HO_9.out (fun _ hk => hk.1)⟩, ⟨by (with_reducible repeat (first | apply Kd.N_alloc | apply Kd.N_drewN | apply Kd.N_drew)); exact Kd.N_mono HO_10.out (fun _ hk => ⟨hk.1, ⟨hk.2.1, hk.2.2.2⟩⟩)⟩, ⟨by (with_reducible repeat (first | refine jD ?_ _ | refine jF ?_ | refine jE ?_ _)); exact BK314.out⟩, ⟨zb1 HB GE314⟩⟩
         ·rw [if_neg c26] at H
          exact absurd H (by simp)
        ·rw [if_neg c25] at H
         have c25b0 : decide (x11_3 < (x9_3.length : Int)) = false := decide_eq_false c25
         clear c25
         simp only [jS, jY] at H
         obtain ⟨rfl, rfl⟩ := H
         obtain ⟨Ao69, co69, eo69⟩ := Kd.R_slice HO_9.out
         subst eo69
         go_wp2
         go_ret2
         exact ⟨_, by first | rfl | (simp [errW_none, errW_some] <;> rfl) | (simp [*, errW_none, errW_some] <;> rfl), (Kd.R_V (base := 0) (Kd.R_nil _ _ _ _ _)), zb1 HB GE314⟩
     ·rw [if_neg c14] at H
      have c14b0 : (x8_11 == 0) = false := beq_eq_false_iff_ne.mpr c14
      have c14b1 : (x8_11 != 0) = true := bne_iff_ne.mpr c14
      simp only [jS, jY] at H
      obtain ⟨rfl, rfl⟩ := H
      go_wp2
      go_ret2
      exact ⟨_, by first | rfl | (simp [errW_none, errW_some] <;> rfl) | (simp [*, errW_none, errW_some] <;> rfl), (Kd.R_V (base := 0) (Kd.R_nil _ _ _ _ _)), zb1 HB GE314⟩

end Go.Proofs.Ythieppjmjgijfaa.PFnExactShortestInputs
