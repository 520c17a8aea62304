/- Functions and contracts that FnExactShortestInputs reaches (6 of 12). -/
import Derived.Test.YthieppjmjgijfaaQFnExactShortestInputsx4
namespace Go.Proofs.Ythieppjmjgijfaa.PFnExactShortestInputs
open Go.RowKit Go.Proofs.YthieppjmjgijfaaW.PrintWords Go.Proofs.YthieppjmjgijfaaW.PrintLast Go.Proofs.YthieppjmjgijfaaW.PrintMore
attribute [local go_sem] max2_int min2_int max_two min_two max_three min_three max_four min_four   -- for this text's walks alone
set_option linter.unusedVariables false
set_option linter.unusedSimpArgs false
open Go.Proofs.YthieppjmjgijfaaX

/-! ### impl_ShortestInputs: function 34 -/
def impl_ShortestInputs.j0 : Nat → List Int → Int → Bool → Bool → Bool → Bool → Bool → Bool → Int → Option (List Int × Int)
 | 0, _, _, _, _, _, _, _, _, _ => none
 | k + 1, x1, x2, x17, x213000, x213001, x213002, x213003, x213004, x213005 => if x17 = true then (some (([] : List Int), 1)) else ((impl_isNumber.f x2).bind fun t215 => (if t215 = true then ((impl_shortest.f k x213000 x213001 x213002 x213003 x213004 x213005 x1).bind fun bt216 => (if 0 ≤ x2 then (if x2 < (bt216.2.length : Int) then (if rdOf false bt216.2 x2 = true then (if x2 < (bt216.1.length : Int) then (some (rd_L1 bt216.1 x2, 0)) else (none)) else (some (([] : List Int), 4))) else (none)) else (none))) else (some (([] : List Int), 2))))
def impl_ShortestInputs.f (k : Nat) (a0_0 : Bool) (a0_1 : Bool) (a0_2 : Bool) (a0_3 : Bool) (a0_4 : Bool) (a0_5 : Int) (l1 : List Int) (a2 : Int) : Option (List Int × Int) := (impl_IsSound.f a0_0 a0_1 a0_2 a0_3 a0_4 a0_5).bind fun t213 => (if t213 = true then ((impl_isHand.f k l1).bind fun t214 => (impl_ShortestInputs.j0 k l1 a2 (!t214) a0_0 a0_1 a0_2 a0_3 a0_4 a0_5)) else (impl_ShortestInputs.j0 k l1 a2 true a0_0 a0_1 a0_2 a0_3 a0_4 a0_5))
theorem impl_ShortestInputs.mono_l : ∀ k, (∀ y0 y1 y2 y3 y4 y5 y6 y7 y8, LeO (impl_ShortestInputs.j0 k y0 y1 y2 y3 y4 y5 y6 y7 y8) (impl_ShortestInputs.j0 (k + 1) y0 y1 y2 y3 y4 y5 y6 y7 y8))
 | 0 => fun _ _ _ _ _ _ _ _ _ r h => by simp [impl_ShortestInputs.j0] at h
 | k + 1 => by
  have ih0 := impl_ShortestInputs.mono_l k
  ·intro y0 y1 y2 y3 y4 y5 y6 y7 y8
   unfold impl_ShortestInputs.j0
   repeat' first
   | (with_reducible exact ih0 _ _ _ _ _ _ _ _ _)
   | (with_reducible exact impl_isHand.mono _ _)
   | (with_reducible exact impl_shortest.mono _ _ _ _ _ _ _ _)
   | (with_reducible exact LeO.refl _)
   | (with_reducible exact LeO.none _)
   | (with_reducible refine LeO.ite ?_ ?_)
   | (with_reducible refine LeO.bind ?_ (fun _ => ?_))
   | exact ih0 _ _ _ _ _ _ _ _ _
   | exact impl_isHand.mono _ _
   | exact impl_shortest.mono _ _ _ _ _ _ _ _
   | exact LeO.none _
   | refine LeO.ite ?_ ?_
   | refine LeO.bind ?_ (fun _ => ?_)
theorem impl_ShortestInputs.mono : ∀ a0 a1 a2 a3 a4 a5 a6 a7 k, LeO (impl_ShortestInputs.f k a0 a1 a2 a3 a4 a5 a6 a7) (impl_ShortestInputs.f (k + 1) a0 a1 a2 a3 a4 a5 a6 a7) := by
 intro a0 a1 a2 a3 a4 a5 a6 a7 k
 have ih0 := impl_ShortestInputs.mono_l k
 unfold impl_ShortestInputs.f
 repeat' first
   | (with_reducible exact ih0 _ _ _ _ _ _ _ _ _)
   | (with_reducible exact impl_isHand.mono _ _)
   | (with_reducible exact impl_shortest.mono _ _ _ _ _ _ _ _)
   | (with_reducible exact LeO.refl _)
   | (with_reducible exact LeO.none _)
   | (with_reducible refine LeO.ite ?_ ?_)
   | (with_reducible refine LeO.bind ?_ (fun _ => ?_))
   | exact ih0 _ _ _ _ _ _ _ _ _
   | exact impl_isHand.mono _ _
   | exact impl_shortest.mono _ _ _ _ _ _ _ _
   | exact LeO.none _
   | refine LeO.ite ?_ ?_
   | refine LeO.bind ?_ (fun _ => ?_)
set_option maxHeartbeats 8000000 in
set_option maxRecDepth 100000 in
theorem impl_ShortestInputs.calls (k : Nat) (a0_0 : Bool) (a0_1 : Bool) (a0_2 : Bool) (a0_3 : Bool) (a0_4 : Bool) (a0_5 : Int) (A1 : Option Addr) (c1 : Nat) (l1 : List Int) (a2 : Int) (r1 : List Int) (r2 : Int) (w : World) (hr1 : Kd.C (Kd.int .i64) w A1 l1.length l1) (hc1 : l1.length ≤ c1) (h : impl_ShortestInputs.f k a0_0 a0_1 a0_2 a0_3 a0_4 a0_5 l1 a2 = some (r1, r2)) :
  Calls Try.prog 34 #[.agg #[.bool a0_0, .bool a0_1, .bool a0_2, .bool a0_3, .bool a0_4, .int .i64 a0_5], .slice A1 l1.length c1, .int .i64 a2] w fun e w' => ∃ v0_ : Value, e = .returned (.tuple #[v0_, .int .i64 r2]) ∧ Kd.R (Kd.int .i64) 2 w' w.heap.size (fun _ => True) v0_ r1 ∧ Below w.heap.size w w' := by
 have hu23 := Try.underlying23
 have HR1 := jA hr1
 have HC1 := jA hc1
 clear hr1 hc1
 have HB := jA (Below.refl w.heap.size w)
 have H : ((impl_IsSound.f a0_0 a0_1 a0_2 a0_3 a0_4 a0_5).bind fun t213 => (if t213 = true then ((impl_isHand.f k l1).bind fun t214 => (impl_ShortestInputs.j0 k l1 a2 (!t214) a0_0 a0_1 a0_2 a0_3 a0_4 a0_5)) else (impl_ShortestInputs.j0 k l1 a2 true a0_0 a0_1 a0_2 a0_3 a0_4 a0_5))) = some (r1, r2) := h
 clear h
 have HC4 := jA H
 clear H
 go_enter Try.func34, Try.ntmps34
 go_upto_region 1 with (first | ((with_reducible refine jO (N := 3) rfl ?_); refine jN ?hg (N := 3) ?hd (cs := #[.bool a0_0, .bool a0_1, .bool a0_2, .bool a0_3, .bool a0_4, .int .i64 a0_5]) (t := 23) ?hr ?_; (case hd => rfl); (case hg => rfl); (case hr => first | (go_simp; done) | (go_simp; rfl)); intro gb212 hg w5 hbox hb; have n0_ := jA (jJ (zb0 HB) hb); have n1_ := jA (hbox); have n2_ := jA ((by rw [hg]; exact (jG (zb0 HB)) : w.heap.size ≤ gb212)); have n3_ := jA ((by rw [hg]; exact (jG (zb0 HB)) : w.heap.size ≤ gb212)); clear HB; have HB := n0_; have BK212 := n1_; have GW212 := n2_; have GE212 := n3_; clear n0_ n1_ n2_ n3_; clear hb hbox hg))
 (try simp only [Act.put, jL, jV, jW])
 go_cut [17] (fun v17 wc => ∃ (kq : Nat) (x17_3 : Bool), v17 = .bool x17_3 ∧ Aside0 (impl_ShortestInputs.j0 kq l1 a2 x17_3 a0_0 a0_1 a0_2 a0_3 a0_4 a0_5 = some (r1, r2)) ∧ Aside0 (kq ≤ k) ∧ Aside0 (wc.heap[gb212]? = some (.cells #[.bool a0_0, .bool a0_1, .bool a0_2, .bool a0_3, .bool a0_4, .int .i64 a0_5] 23 (0, 0))) ∧ Aside0 (Below w.heap.size w wc))
 case first =>
  have H := HC4.out
  clear HC4
  replace H := jQ.mp H
  obtain ⟨t213, A60, H⟩ := H
  replace H : (if t213 = true then ((impl_isHand.f k l1).bind fun t214 => (impl_ShortestInputs.j0 k l1 a2 (!t214) a0_0 a0_1 a0_2 a0_3 a0_4 a0_5)) else (impl_ShortestInputs.j0 k l1 a2 true a0_0 a0_1 a0_2 a0_3 a0_4 a0_5)) = some (r1, r2) := H
  have A6 := jA A60
  clear A60
  by_cases c7 : t213 = true
  ·subst c7
   have H1 : ((impl_isHand.f k l1).bind fun t214 => (impl_ShortestInputs.j0 k l1 a2 (!t214) a0_0 a0_1 a0_2 a0_3 a0_4 a0_5)) = some (r1, r2) := by rw [if_pos rfl] at H; exact H
   clear H
   have H := H1
   clear H1
   replace H := jQ.mp H
   obtain ⟨t214, A80, H⟩ := H
   replace H : (impl_ShortestInputs.j0 k l1 a2 (!t214) a0_0 a0_1 a0_2 a0_3 a0_4 a0_5) = some (r1, r2) := H
   have A8 := jA A80
   clear A80
   have H' := jA H
   clear H
   have hcz9_0 : w5.cell? ⟨gb212, 0, none⟩ = some (.bool a0_0) := (jC BK212.out 0).trans rfl
   have hcz9_1 : w5.cell? ⟨gb212, 1, none⟩ = some (.bool a0_1) := (jC BK212.out 1).trans rfl
   have hcz9_2 : w5.cell? ⟨gb212, 2, none⟩ = some (.bool a0_2) := (jC BK212.out 2).trans rfl
   have hcz9_3 : w5.cell? ⟨gb212, 3, none⟩ = some (.bool a0_3) := (jC BK212.out 3).trans rfl
   have hcz9_4 : w5.cell? ⟨gb212, 4, none⟩ = some (.bool a0_4) := (jC BK212.out 4).trans rfl
   have hcz9_5 : w5.cell? ⟨gb212, 5, none⟩ = some (.int .i64 a0_5) := (jC BK212.out 5).trans rfl
   have hfz9_0 := jB BK212.out 0
   have hfz9_1 := jB BK212.out 1
   have hfz9_2 := jB BK212.out 2
   have hfz9_3 := jB BK212.out 3
   have hfz9_4 := jB BK212.out 4
   have hfz9_5 := jB BK212.out 5
   go_wp2_with (first | ((with_reducible refine jd (f := 27) rfl ?_); refine goesL_ (some 11) rfl rfl Try.func27 zr rfl #[.agg #[.bool a0_0, .bool a0_1, .bool a0_2, .bool a0_3, .bool a0_4, .int .i64 a0_5]] rfl zm ?_; (with_reducible refine (impl_IsSound.calls a0_0 a0_1 a0_2 a0_3 a0_4 a0_5 true _ A6.out).mono ?_); rintro e w10 ⟨rfl, hb⟩; refine ⟨_, rfl, ?_⟩; have n0_ := jA (jP (g := gb212) (o := .cells #[.bool a0_0, .bool a0_1, .bool a0_2, .bool a0_3, .bool a0_4, .int .i64 a0_5] 23 (0, 0)) (zk BK212) hb); have n1_ := jA (jJ (zb1 HB GE212) hb); clear BK212; clear HB; have BK212 := n0_; have HB := n1_; clear n0_ n1_; (try clear hb); (try clear hb2); (try clear hk); (try clear hi)) | (go_at_call 56; (with_reducible refine (impl_isHand.calls k _ _ l1 t214 _ ?side1 ?side2 A8.out).mono ?_); (case side1 => exact zs HR1 HB); (case side2 => exact HC1.out); rintro e w' ⟨rfl, ⟨nd, rfl⟩⟩))
   go_meet
   case rel => exact ⟨_, (!t214), zz, H', ⟨by first | omega | exact Nat.le_refl _⟩, ⟨by (with_reducible repeat (first | refine jD ?_ _ | refine jF ?_ | refine jE ?_ _)); exact BK212.out⟩, ⟨zb1 HB GE212⟩⟩
  ·replace c7 := Bool.eq_false_iff.mpr c7
   subst c7
   have H1 : (impl_ShortestInputs.j0 k l1 a2 true a0_0 a0_1 a0_2 a0_3 a0_4 a0_5) = some (r1, r2) := by rw [if_neg (show ¬ (false = true) by decide)] at H; exact H
   clear H
   have H := H1
   clear H1
   have H' := jA H
   clear H
   have hcz11_0 : w5.cell? ⟨gb212, 0, none⟩ = some (.bool a0_0) := (jC BK212.out 0).trans rfl
   have hcz11_1 : w5.cell? ⟨gb212, 1, none⟩ = some (.bool a0_1) := (jC BK212.out 1).trans rfl
   have hcz11_2 : w5.cell? ⟨gb212, 2, none⟩ = some (.bool a0_2) := (jC BK212.out 2).trans rfl
   have hcz11_3 : w5.cell? ⟨gb212, 3, none⟩ = some (.bool a0_3) := (jC BK212.out 3).trans rfl
   have hcz11_4 : w5.cell? ⟨gb212, 4, none⟩ = some (.bool a0_4) := (jC BK212.out 4).trans rfl
   have hcz11_5 : w5.cell? ⟨gb212, 5, none⟩ = some (.int .i64 a0_5) := (jC BK212.out 5).trans rfl
   have hfz11_0 := jB BK212.out 0
   have hfz11_1 := jB BK212.out 1
   have hfz11_2 := jB BK212.out 2
   have hfz11_3 := jB BK212.out 3
   have hfz11_4 := jB BK212.out 4
   have hfz11_5 := jB BK212.out 5
   go_wp2_with (first | ((with_reducible refine jd (f := 27) rfl ?_); refine goesL_ (some 11) rfl rfl Try.func27 zr rfl #[.agg #[.bool a0_0, .bool a0_1, .bool a0_2, .bool a0_3, .bool a0_4, .int .i64 a0_5]] rfl zm ?_; (with_reducible refine (impl_IsSound.calls a0_0 a0_1 a0_2 a0_3 a0_4 a0_5 false _ A6.out).mono ?_); rintro e w12 ⟨rfl, hb⟩; refine ⟨_, rfl, ?_⟩; have n0_ := jA (jP (g := gb212) (o := .cells #[.bool a0_0, .bool a0_1, .bool a0_2, .bool a0_3, .bool a0_4, .int .i64 a0_5] 23 (0, 0)) (zk BK212) hb); have n1_ := jA (jJ (zb1 HB GE212) hb); clear BK212; clear HB; have BK212 := n0_; have HB := n1_; clear n0_ n1_; (try clear hb); (try clear hb2); (try clear hk); (try clear hi)))
   go_meet
   case rel => exact ⟨_, (true), zz, H', ⟨by first | omega | exact Nat.le_refl _⟩, ⟨by (with_reducible repeat (first | refine jD ?_ _ | refine jF ?_ | refine jE ?_ _)); exact BK212.out⟩, ⟨zb1 HB GE212⟩⟩
 case rest =>
  clear HC4
  try clear c1
  try clear c2
  try clear p2
  try clear c3
  try clear c7
  try clear hcz11_0
  try clear hcz11_1
  try clear hcz11_2
  try clear hcz11_3
  try clear hcz11_4
  try clear hcz11_5
  try clear hcz9_0
  try clear hcz9_1
  try clear hcz9_2
  try clear hcz9_3
  try clear hcz9_4
  try clear hcz9_5
  try clear hfz11_0
  try clear hfz11_1
  try clear hfz11_2
  try clear hfz11_3
  try clear hfz11_4
  try clear hfz11_5
  try clear hfz9_0
  try clear hfz9_1
  try clear hfz9_2
  try clear hfz9_3
  try clear hfz9_4
  try clear hfz9_5
  obtain ⟨kq, x17_3, rfl, HA, HJ3, BK212, HB⟩ := hcut
  cases kq with
  | zero => exact absurd HA.out (by simp [impl_ShortestInputs.j0])
  | succ kj3 =>
   have H := HA.out
   clear HA
   simp only [impl_ShortestInputs.j0] at H
   by_cases c13 : x17_3 = true
   ·subst c13
    have H1 : (some (([] : List Int), 1)) = some (r1, r2) := by rw [if_pos rfl] at H; exact H
    clear H
    have H := H1
    clear H1
    simp only [jS, jY] at H
    obtain ⟨rfl, rfl⟩ := H
    go_wp2
    go_ret2
    exact ⟨_, by first | rfl | (simp [errW_none, errW_some] <;> rfl) | (simp [*, errW_none, errW_some] <;> rfl), by first | exact Kd.R_nil _ _ _ _ _ | exact Kd.N_nil _ _ _ _ _ | exact Kd.V_nil _ _ _ _ _ | exact Kd.Q_nil _ _ _ _ _ | exact Kd.S_nil _ _ _ _ _, zb1 HB GE212⟩
   ·replace c13 := Bool.eq_false_iff.mpr c13
    subst c13
    have H1 : ((impl_isNumber.f a2).bind fun t215 => (if t215 = true then ((impl_shortest.f kj3 a0_0 a0_1 a0_2 a0_3 a0_4 a0_5 l1).bind fun bt216 => (if 0 ≤ a2 then (if a2 < (bt216.2.length : Int) then (if rdOf false bt216.2 a2 = true then (if a2 < (bt216.1.length : Int) then (some (rd_L1 bt216.1 a2, 0)) else (none)) else (some (([] : List Int), 4))) else (none)) else (none))) else (some (([] : List Int), 2)))) = some (r1, r2) := by rw [if_neg (show ¬ (false = true) by decide)] at H; exact H
    clear H
    have H := H1
    clear H1
    replace H := jQ.mp H
    obtain ⟨t215, A140, H⟩ := H
    replace H : (if t215 = true then ((impl_shortest.f kj3 a0_0 a0_1 a0_2 a0_3 a0_4 a0_5 l1).bind fun bt216 => (if 0 ≤ a2 then (if a2 < (bt216.2.length : Int) then (if rdOf false bt216.2 a2 = true then (if a2 < (bt216.1.length : Int) then (some (rd_L1 bt216.1 a2, 0)) else (none)) else (some (([] : List Int), 4))) else (none)) else (none))) else (some (([] : List Int), 2))) = some (r1, r2) := H
    have A14 := jA A140
    clear A140
    by_cases c15 : t215 = true
    ·subst c15
     have H1 : ((impl_shortest.f kj3 a0_0 a0_1 a0_2 a0_3 a0_4 a0_5 l1).bind fun bt216 => (if 0 ≤ a2 then (if a2 < (bt216.2.length : Int) then (if rdOf false bt216.2 a2 = true then (if a2 < (bt216.1.length : Int) then (some (rd_L1 bt216.1 a2, 0)) else (none)) else (some (([] : List Int), 4))) else (none)) else (none))) = some (r1, r2) := by rw [if_pos rfl] at H; exact H
     clear H
     have H := H1
     clear H1
     replace H := jQ.mp H
     obtain ⟨⟨t216, t219⟩, A160, H⟩ := H
     replace H : (if 0 ≤ a2 then (if a2 < (t219.length : Int) then (if rdOf false t219 a2 = true then (if a2 < (t216.length : Int) then (some (rd_L1 t216 a2, 0)) else (none)) else (some (([] : List Int), 4))) else (none)) else (none)) = some (r1, r2) := H
     have A16 := jA A160
     clear A160
     by_cases c17 : 0 ≤ a2
     ·rw [if_pos c17] at H
      have c17b0 : decide (0 ≤ a2) = true := jR c17
      clear c17
      by_cases c18 : a2 < (t219.length : Int)
      ·rw [if_pos c18] at H
       have c18b0 : decide (a2 < (t219.length : Int)) = true := jR c18
       clear c18
       obtain ⟨bq19, hbq19⟩ : ∃ b_ : Bool, b_ = (rdOf false t219 a2) := ⟨_, rfl⟩
       replace H : (if bq19 = true then (if a2 < (t216.length : Int) then (some (rd_L1 t216 a2, 0)) else (none)) else (some (([] : List Int), 4))) = some (r1, r2) := by rw [← hbq19] at H; exact H
       have Nbq19 := jA hbq19
       clear hbq19
       by_cases c20 : bq19 = true
       ·subst c20
        have H1 : (if a2 < (t216.length : Int) then (some (rd_L1 t216 a2, 0)) else (none)) = some (r1, r2) := by rw [if_pos rfl] at H; exact H
        clear H
        have H := H1
        clear H1
        by_cases c21 : a2 < (t216.length : Int)
        ·rw [if_pos c21] at H
         have c21b0 : decide (a2 < (t216.length : Int)) = true := jR c21
         clear c21
         simp only [jS, jY] at H
         obtain ⟨rfl, rfl⟩ := H
         go_wp2_with (first | ((with_reducible refine jd (f := 49) rfl ?_); refine goesL_ (some 19) rfl rfl Try.func49 zr rfl #[.int .i64 a2] rfl zm ?_; (with_reducible refine (impl_isNumber.calls a2 true _ A14.out).mono ?_); rintro e w22 ⟨rfl, hb⟩; refine ⟨_, rfl, ?_⟩; have n0_ := jA (jP (g := gb212) (o := .cells #[.bool a0_0, .bool a0_1, .bool a0_2, .bool a0_3, .bool a0_4, .int .i64 a0_5] 23 (0, 0)) (zk BK212) hb); have n1_ := jA (jJ (zb1 HB GE212) hb); clear BK212; clear HB; have BK212 := n0_; have HB := n1_; clear n0_ n1_; (try clear hb); (try clear hb2); (try clear hk); (try clear hi); have hcz23_0 : w22.cell? ⟨gb212, 0, none⟩ = some (.bool a0_0) := (jC BK212.out 0).trans rfl; have hcz23_1 : w22.cell? ⟨gb212, 1, none⟩ = some (.bool a0_1) := (jC BK212.out 1).trans rfl; have hcz23_2 : w22.cell? ⟨gb212, 2, none⟩ = some (.bool a0_2) := (jC BK212.out 2).trans rfl; have hcz23_3 : w22.cell? ⟨gb212, 3, none⟩ = some (.bool a0_3) := (jC BK212.out 3).trans rfl; have hcz23_4 : w22.cell? ⟨gb212, 4, none⟩ = some (.bool a0_4) := (jC BK212.out 4).trans rfl; have hcz23_5 : w22.cell? ⟨gb212, 5, none⟩ = some (.int .i64 a0_5) := (jC BK212.out 5).trans rfl; have hfz23_0 := jB BK212.out 0; have hfz23_1 := jB BK212.out 1; have hfz23_2 := jB BK212.out 2; have hfz23_3 := jB BK212.out 3; have hfz23_4 := jB BK212.out 4; have hfz23_5 := jB BK212.out 5) | ((with_reducible refine jd (f := 69) rfl ?_); refine goesL_ (some 24) rfl rfl Try.func69 zr rfl #[.agg #[.bool a0_0, .bool a0_1, .bool a0_2, .bool a0_3, .bool a0_4, .int .i64 a0_5], .slice A1 l1.length c1] rfl zm ?_; (with_reducible refine (impl_shortest.calls kj3 a0_0 a0_1 a0_2 a0_3 a0_4 a0_5 _ _ l1 t216 t219 _ ?side1 ?side2 A16.out).mono ?_); (case side1 => exact zs HR1 HB); (case side2 => exact HC1.out); rintro e w24 ⟨v217, v220, rfl, ho0, ho1, hb⟩; refine ⟨_, rfl, ?_⟩; have n0_ := jA (Kd.S_lower ho0 (jG (zb1 HB GE212))); have n1_ := jA (Kd.R_lower ho1 (jG (zb1 HB GE212))); have n2_ := jA (jP (g := gb212) (o := .cells #[.bool a0_0, .bool a0_1, .bool a0_2, .bool a0_3, .bool a0_4, .int .i64 a0_5] 23 (0, 0)) (zk BK212) hb); have n3_ := jA (jJ (zb1 HB GE212) hb); clear BK212; clear HB; have HO218 := n0_; have HO221 := n1_; have BK212 := n2_; have HB := n3_; clear n0_ n1_ n2_ n3_; (try clear hb); (try clear hb2); (try clear hk); (try clear hi); (try clear ho0); (try clear ho1); obtain ⟨Ao25, co25, eo25⟩ := Kd.R_slice HO221.out; subst eo25; have p222 : 0 ≤ (a2 : Int) := jH za; have q222 : a2 < (t219.length : Int) := jH za; obtain ⟨ad222, e222, hx222_0⟩ := Kd.at_bool (Kd.R_reads' HO221.out).2.2 a2 p222 q222; (try rw [← Nbq19.out] at hx222_0); cases e222; replace p222 := eq_true p222; replace q222 := eq_true q222; obtain ⟨Ao26, co26, eo26⟩ := Kd.S_slice HO218.out; subst eo26; have p223 : 0 ≤ (a2 : Int) := jH za; have q223 : a2 < (t216.length : Int) := jH za; obtain ⟨ad223, A223_0, c223_0, e223, hx223_0, hl223_0, hi223_0⟩ := at_L1 (Kd.S_reads' HO218.out).2.2 a2 p223 q223; cases e223; obtain ⟨ce223, hce223, hMe223, hcc223⟩ := Kd.S_get HO218.out [] a2 p223 (by first | exact q223 | exact jH za | (have e_ := (Kd.S_reads' HO218.out).1; omega)); obtain ⟨ve223_0, rfl, ge223_0⟩ := hMe223; have hv223_0 := hcc223 0 _ rfl; rw [Nat.add_zero, show ((Kd.slice 2 (Kd.int .i64))).sz = 1 from rfl, Nat.mul_one] at hv223_0; replace hv223_0 := jT (hv223_0.symm.trans hx223_0); rw [hv223_0] at ge223_0; have HL223_0 := jA (show Kd.R (Kd.int .i64) 2 _ _ _ _ (rd_L1 t216 a2) from ge223_0); clear hv223_0 ge223_0; clear hcc223 hce223; have HR223_0 := jA hi223_0; have HC223_0 := jA hl223_0; clear hi223_0 hl223_0; replace p223 := eq_true p223; replace q223 := eq_true q223))
         go_ret2
         exact ⟨_, by first | rfl | (simp [errW_none, errW_some] <;> rfl) | (simp [*, errW_none, errW_some] <;> rfl), by (with_reducible repeat (first | apply ja | apply jZ | apply jc)); exact Kd.R_mono HL223_0.out (fun _ hk => trivial), zb1 HB GE212⟩
        ·rw [if_neg c21] at H
         exact absurd H (by simp)
       ·replace c20 := Bool.eq_false_iff.mpr c20
        subst c20
        have H1 : (some (([] : List Int), 4)) = some (r1, r2) := by rw [if_neg (show ¬ (false = true) by decide)] at H; exact H
        clear H
        have H := H1
        clear H1
        simp only [jS, jY] at H
        obtain ⟨rfl, rfl⟩ := H
        go_wp2_with (first | ((with_reducible refine jd (f := 49) rfl ?_); refine goesL_ (some 19) rfl rfl Try.func49 zr rfl #[.int .i64 a2] rfl zm ?_; (with_reducible refine (impl_isNumber.calls a2 true _ A14.out).mono ?_); rintro e w27 ⟨rfl, hb⟩; refine ⟨_, rfl, ?_⟩; have n0_ := jA (jP (g := gb212) (o := .cells #[.bool a0_0, .bool a0_1, .bool a0_2, .bool a0_3, .bool a0_4, .int .i64 a0_5] 23 (0, 0)) (zk BK212) hb); have n1_ := jA (jJ (zb1 HB GE212) hb); clear BK212; clear HB; have BK212 := n0_; have HB := n1_; clear n0_ n1_; (try clear hb); (try clear hb2); (try clear hk); (try clear hi); have hcz28_0 : w27.cell? ⟨gb212, 0, none⟩ = some (.bool a0_0) := (jC BK212.out 0).trans rfl; have hcz28_1 : w27.cell? ⟨gb212, 1, none⟩ = some (.bool a0_1) := (jC BK212.out 1).trans rfl; have hcz28_2 : w27.cell? ⟨gb212, 2, none⟩ = some (.bool a0_2) := (jC BK212.out 2).trans rfl; have hcz28_3 : w27.cell? ⟨gb212, 3, none⟩ = some (.bool a0_3) := (jC BK212.out 3).trans rfl; have hcz28_4 : w27.cell? ⟨gb212, 4, none⟩ = some (.bool a0_4) := (jC BK212.out 4).trans rfl; have hcz28_5 : w27.cell? ⟨gb212, 5, none⟩ = some (.int .i64 a0_5) := (jC BK212.out 5).trans rfl; have hfz28_0 := jB BK212.out 0; have hfz28_1 := jB BK212.out 1; have hfz28_2 := jB BK212.out 2; have hfz28_3 := jB BK212.out 3; have hfz28_4 := jB BK212.out 4; have hfz28_5 := jB BK212.out 5) | ((with_reducible refine jd (f := 69) rfl ?_); refine goesL_ (some 24) rfl rfl Try.func69 zr rfl #[.agg #[.bool a0_0, .bool a0_1, .bool a0_2, .bool a0_3, .bool a0_4, .int .i64 a0_5], .slice A1 l1.length c1] rfl zm ?_; (with_reducible refine (impl_shortest.calls kj3 a0_0 a0_1 a0_2 a0_3 a0_4 a0_5 _ _ l1 t216 t219 _ ?side1 ?side2 A16.out).mono ?_); (case side1 => exact zs HR1 HB); (case side2 => exact HC1.out); rintro e w29 ⟨v217, v220, rfl, ho0, ho1, hb⟩; refine ⟨_, rfl, ?_⟩; have n0_ := jA (Kd.S_lower ho0 (jG (zb1 HB GE212))); have n1_ := jA (Kd.R_lower ho1 (jG (zb1 HB GE212))); have n2_ := jA (jP (g := gb212) (o := .cells #[.bool a0_0, .bool a0_1, .bool a0_2, .bool a0_3, .bool a0_4, .int .i64 a0_5] 23 (0, 0)) (zk BK212) hb); have n3_ := jA (jJ (zb1 HB GE212) hb); clear BK212; clear HB; have HO218 := n0_; have HO221 := n1_; have BK212 := n2_; have HB := n3_; clear n0_ n1_ n2_ n3_; (try clear hb); (try clear hb2); (try clear hk); (try clear hi); (try clear ho0); (try clear ho1); obtain ⟨Ao30, co30, eo30⟩ := Kd.R_slice HO221.out; subst eo30; have p222 : 0 ≤ (a2 : Int) := jH za; have q222 : a2 < (t219.length : Int) := jH za; obtain ⟨ad222, e222, hx222_0⟩ := Kd.at_bool (Kd.R_reads' HO221.out).2.2 a2 p222 q222; (try rw [← Nbq19.out] at hx222_0); cases e222; replace p222 := eq_true p222; replace q222 := eq_true q222))
        go_ret2
        exact ⟨_, by first | rfl | (simp [errW_none, errW_some] <;> rfl) | (simp [*, errW_none, errW_some] <;> rfl), by first | exact Kd.R_nil _ _ _ _ _ | exact Kd.N_nil _ _ _ _ _ | exact Kd.V_nil _ _ _ _ _ | exact Kd.Q_nil _ _ _ _ _ | exact Kd.S_nil _ _ _ _ _, zb1 HB GE212⟩
      ·rw [if_neg c18] at H
       exact absurd H (by simp)
     ·rw [if_neg c17] at H
      exact absurd H (by simp)
    ·replace c15 := Bool.eq_false_iff.mpr c15
     subst c15
     have H1 : (some (([] : List Int), 2)) = some (r1, r2) := by rw [if_neg (show ¬ (false = true) by decide)] at H; exact H
     clear H
     have H := H1
     clear H1
     simp only [jS, jY] at H
     obtain ⟨rfl, rfl⟩ := H
     go_wp2_with (first | ((with_reducible refine jd (f := 49) rfl ?_); refine goesL_ (some 19) rfl rfl Try.func49 zr rfl #[.int .i64 a2] rfl zm ?_; (with_reducible refine (impl_isNumber.calls a2 false _ A14.out).mono ?_); rintro e w31 ⟨rfl, hb⟩; refine ⟨_, rfl, ?_⟩; have n0_ := jA (jP (g := gb212) (o := .cells #[.bool a0_0, .bool a0_1, .bool a0_2, .bool a0_3, .bool a0_4, .int .i64 a0_5] 23 (0, 0)) (zk BK212) hb); have n1_ := jA (jJ (zb1 HB GE212) hb); clear BK212; clear HB; have BK212 := n0_; have HB := n1_; clear n0_ n1_; (try clear hb); (try clear hb2); (try clear hk); (try clear hi)))
     go_ret2
     exact ⟨_, by first | rfl | (simp [errW_none, errW_some] <;> rfl) | (simp [*, errW_none, errW_some] <;> rfl), by first | exact Kd.R_nil _ _ _ _ _ | exact Kd.N_nil _ _ _ _ _ | exact Kd.V_nil _ _ _ _ _ | exact Kd.Q_nil _ _ _ _ _ | exact Kd.S_nil _ _ _ _ _, zb1 HB GE212⟩

/-! ### spec_l25With: function 48 -/
def spec_l25With.f (a0 : Int) : Option (Bool × Bool × Bool × Bool × Bool × Int) := some (((Int.tmod a0 2) == 1), ((Int.tmod (wrap64 (Int.tdiv a0 2)) 2) == 1), ((Int.tmod (wrap64 (Int.tdiv a0 4)) 2) == 1), ((Int.tmod (wrap64 (Int.tdiv a0 8)) 2) == 1), ((Int.tmod (wrap64 (Int.tdiv a0 16)) 2) == 1), wrap64 (Int.tdiv a0 32))
set_option maxHeartbeats 8000000 in
set_option maxRecDepth 100000 in
theorem spec_l25With.calls (a0 : Int) (r1 : Bool) (r2 : Bool) (r3 : Bool) (r4 : Bool) (r5 : Bool) (r6 : Int) (w : World) (h : spec_l25With.f a0 = some (r1, r2, r3, r4, r5, r6)) :
  Calls Try.prog 48 #[.int .i64 a0] w fun e w' => e = .returned (.agg #[.bool r1, .bool r2, .bool r3, .bool r4, .bool r5, .int .i64 r6]) ∧ Below w.heap.size w w' := by
 have hu23 := Try.underlying23
 have HB := jA (Below.refl w.heap.size w)
 have H : (some (((Int.tmod a0 2) == 1), ((Int.tmod (wrap64 (Int.tdiv a0 2)) 2) == 1), ((Int.tmod (wrap64 (Int.tdiv a0 4)) 2) == 1), ((Int.tmod (wrap64 (Int.tdiv a0 8)) 2) == 1), ((Int.tmod (wrap64 (Int.tdiv a0 16)) 2) == 1), wrap64 (Int.tdiv a0 32))) = some (r1, r2, r3, r4, r5, r6) := h
 clear h
 simp only [jS, jY] at H
 obtain ⟨rfl, rfl, rfl, rfl, rfl, rfl⟩ := H
 go_enter Try.func48, Try.ntmps48
 go_wp2_with (first | ((with_reducible refine jO (N := 2) rfl ?_); refine jN ?hg (N := 2) ?hd (cs := #[.bool false, .bool false, .bool false, .bool false, .bool false, .int .i64 0]) (t := 23) ?hr ?_; (case hd => rfl); (case hg => rfl); (case hr => first | (go_simp; done) | (go_simp; rfl)); intro gb224 hg w2 hbox hb; have n0_ := jA (jJ (zb0 HB) hb); have n1_ := jA (hbox); have n2_ := jA ((by rw [hg]; exact (jG (zb0 HB)) : w.heap.size ≤ gb224)); have n3_ := jA ((by rw [hg]; exact (jG (zb0 HB)) : w.heap.size ≤ gb224)); clear HB; have HB := n0_; have BK224 := n1_; have GW224 := n2_; have GE224 := n3_; clear n0_ n1_ n2_ n3_; clear hb hbox hg; have hcz3_0 : w2.cell? ⟨gb224, 0, none⟩ = some (.bool false) := (jC BK224.out 0).trans rfl; have hcz3_1 : w2.cell? ⟨gb224, 1, none⟩ = some (.bool false) := (jC BK224.out 1).trans rfl; have hcz3_2 : w2.cell? ⟨gb224, 2, none⟩ = some (.bool false) := (jC BK224.out 2).trans rfl; have hcz3_3 : w2.cell? ⟨gb224, 3, none⟩ = some (.bool false) := (jC BK224.out 3).trans rfl; have hcz3_4 : w2.cell? ⟨gb224, 4, none⟩ = some (.bool false) := (jC BK224.out 4).trans rfl; have hcz3_5 : w2.cell? ⟨gb224, 5, none⟩ = some (.int .i64 0) := (jC BK224.out 5).trans rfl; have hfz3_0 := jB BK224.out 0; have hfz3_1 := jB BK224.out 1; have hfz3_2 := jB BK224.out 2; have hfz3_3 := jB BK224.out 3; have hfz3_4 := jB BK224.out 4; have hfz3_5 := jB BK224.out 5))
 refine je (results_cell_row rfl _ _ gb224 23 #[.bool ((Int.tmod a0 2) == 1), .bool ((Int.tmod (wrap64 (Int.tdiv a0 2)) 2) == 1), .bool ((Int.tmod (wrap64 (Int.tdiv a0 4)) 2) == 1), .bool ((Int.tmod (wrap64 (Int.tdiv a0 8)) 2) == 1), .bool ((Int.tmod (wrap64 (Int.tdiv a0 16)) 2) == 1), .int .i64 (wrap64 (Int.tdiv a0 32))] (0, 0) _ rfl (by (with_reducible repeat (first | refine jD ?_ _ | refine jF ?_ | refine jE ?_ _)); refine jI (cs := #[.bool ((Int.tmod a0 2) == 1), .bool ((Int.tmod (wrap64 (Int.tdiv a0 2)) 2) == 1), .bool ((Int.tmod (wrap64 (Int.tdiv a0 4)) 2) == 1), .bool ((Int.tmod (wrap64 (Int.tdiv a0 8)) 2) == 1), .bool ((Int.tmod (wrap64 (Int.tdiv a0 16)) 2) == 1), .int .i64 0]) ?_ 5 _ rfl; (with_reducible repeat (first | refine jD ?_ _ | refine jF ?_ | refine jE ?_ _)); refine jI (cs := #[.bool ((Int.tmod a0 2) == 1), .bool ((Int.tmod (wrap64 (Int.tdiv a0 2)) 2) == 1), .bool ((Int.tmod (wrap64 (Int.tdiv a0 4)) 2) == 1), .bool ((Int.tmod (wrap64 (Int.tdiv a0 8)) 2) == 1), .bool false, .int .i64 0]) ?_ 4 _ rfl; (with_reducible repeat (first | refine jD ?_ _ | refine jF ?_ | refine jE ?_ _)); refine jI (cs := #[.bool ((Int.tmod a0 2) == 1), .bool ((Int.tmod (wrap64 (Int.tdiv a0 2)) 2) == 1), .bool ((Int.tmod (wrap64 (Int.tdiv a0 4)) 2) == 1), .bool false, .bool false, .int .i64 0]) ?_ 3 _ rfl; (with_reducible repeat (first | refine jD ?_ _ | refine jF ?_ | refine jE ?_ _)); refine jI (cs := #[.bool ((Int.tmod a0 2) == 1), .bool ((Int.tmod (wrap64 (Int.tdiv a0 2)) 2) == 1), .bool false, .bool false, .bool false, .int .i64 0]) ?_ 2 _ rfl; (with_reducible repeat (first | refine jD ?_ _ | refine jF ?_ | refine jE ?_ _)); refine jI (cs := #[.bool ((Int.tmod a0 2) == 1), .bool false, .bool false, .bool false, .bool false, .int .i64 0]) ?_ 1 _ rfl; (with_reducible repeat (first | refine jD ?_ _ | refine jF ?_ | refine jE ?_ _)); refine jI (cs := #[.bool false, .bool false, .bool false, .bool false, .bool false, .int .i64 0]) ?_ 0 _ rfl; (with_reducible repeat (first | refine jD ?_ _ | refine jF ?_ | refine jE ?_ _)); exact BK224.out) Try.underlying23 rfl zr) rfl ?_
 exact ⟨by first | rfl | (simp [errW_none, errW_some] <;> rfl) | (simp [*, errW_none, errW_some] <;> rfl), zb1 HB GE224⟩

/-! ### spec_l01In: function 78 -/
def spec_l01In.f (a0 : Int) (a1 : Int) (a2 : Int) : Option (Bool) := if a0 ≥ a1 then (some (decide (a0 ≤ a2))) else (some false)
set_option maxHeartbeats 8000000 in
set_option maxRecDepth 100000 in
theorem spec_l01In.calls (a0 : Int) (a1 : Int) (a2 : Int) (r : Bool) (w : World) (h : spec_l01In.f a0 a1 a2 = some r) :
  Calls Try.prog 78 #[.int .i64 a0, .int .i64 a1, .int .i64 a2] w fun e w' => e = .returned (.bool r) ∧ Drawn0 w w' := by
 have H : (if a0 ≥ a1 then (some (decide (a0 ≤ a2))) else (some false)) = some r := h
 clear h
 by_cases c4 : a0 ≥ a1
 ·rw [if_pos c4] at H
  have c4b0 : decide (a1 ≤ a0) = true := jR c4
  clear c4
  obtain rfl := jT H
  go_enter Try.func78, Try.ntmps78
  go_wp2
  go_ret
  exact ⟨by first | rfl | (simp; done) | (simp [*]; done), by repeat (first | exact Drawn0.refl _ | apply Drawn0.step)⟩
 ·rw [if_neg c4] at H
  have c4b0 : decide (a1 ≤ a0) = false := decide_eq_false c4
  clear c4
  obtain rfl := jT H
  go_enter Try.func78, Try.ntmps78
  go_wp2
  go_ret
  exact ⟨by first | rfl | (simp; done) | (simp [*]; done), by repeat (first | exact Drawn0.refl _ | apply Drawn0.step)⟩

/-! ### spec_IsSound: function 51 -/
def spec_IsSound.f (a0_0 : Bool) (a0_1 : Bool) (a0_2 : Bool) (a0_3 : Bool) (a0_4 : Bool) (a0_5 : Int) : Option (Bool) := if a0_2 = true then (if a0_0 = true then (if a0_1 = true then (if a0_4 = true then (some false) else (if a0_5 > 3 then (some false) else ((spec_l01In.f a0_5 0 4).bind fun t226 => (if t226 = true then (some true) else (some false))))) else (some false)) else (some false)) else ((spec_l01In.f a0_5 0 4).bind fun t227 => (if t227 = true then (some (!a0_3)) else (some false)))
set_option maxHeartbeats 8000000 in
set_option maxRecDepth 100000 in
theorem spec_IsSound.calls (a0_0 : Bool) (a0_1 : Bool) (a0_2 : Bool) (a0_3 : Bool) (a0_4 : Bool) (a0_5 : Int) (r : Bool) (w : World) (h : spec_IsSound.f a0_0 a0_1 a0_2 a0_3 a0_4 a0_5 = some r) :
  Calls Try.prog 51 #[.agg #[.bool a0_0, .bool a0_1, .bool a0_2, .bool a0_3, .bool a0_4, .int .i64 a0_5]] w fun e w' => e = .returned (.bool r) ∧ Below w.heap.size w w' := by
 have hu23 := Try.underlying23
 have HB := jA (Below.refl w.heap.size w)
 have H : (if a0_2 = true then (if a0_0 = true then (if a0_1 = true then (if a0_4 = true then (some false) else (if a0_5 > 3 then (some false) else ((spec_l01In.f a0_5 0 4).bind fun t226 => (if t226 = true then (some true) else (some false))))) else (some false)) else (some false)) else ((spec_l01In.f a0_5 0 4).bind fun t227 => (if t227 = true then (some (!a0_3)) else (some false)))) = some r := h
 clear h
 by_cases c2 : a0_2 = true
 ·subst c2
  have H1 : (if a0_0 = true then (if a0_1 = true then (if a0_4 = true then (some false) else (if a0_5 > 3 then (some false) else ((spec_l01In.f a0_5 0 4).bind fun t226 => (if t226 = true then (some true) else (some false))))) else (some false)) else (some false)) = some r := by rw [if_pos rfl] at H; exact H
  clear H
  have H := H1
  clear H1
  by_cases c3 : a0_0 = true
  ·subst c3
   have H1 : (if a0_1 = true then (if a0_4 = true then (some false) else (if a0_5 > 3 then (some false) else ((spec_l01In.f a0_5 0 4).bind fun t226 => (if t226 = true then (some true) else (some false))))) else (some false)) = some r := by rw [if_pos rfl] at H; exact H
   clear H
   have H := H1
   clear H1
   by_cases c4 : a0_1 = true
   ·subst c4
    have H1 : (if a0_4 = true then (some false) else (if a0_5 > 3 then (some false) else ((spec_l01In.f a0_5 0 4).bind fun t226 => (if t226 = true then (some true) else (some false))))) = some r := by rw [if_pos rfl] at H; exact H
    clear H
    have H := H1
    clear H1
    by_cases c5 : a0_4 = true
    ·subst c5
     have H1 : (some false) = some r := by rw [if_pos rfl] at H; exact H
     clear H
     have H := H1
     clear H1
     obtain rfl := jT H
     go_enter Try.func51, Try.ntmps51
     go_wp2_with (first | ((with_reducible refine jO (N := 1) rfl ?_); refine jN ?hg (N := 1) ?hd (cs := #[.bool true, .bool true, .bool true, .bool a0_3, .bool true, .int .i64 a0_5]) (t := 23) ?hr ?_; (case hd => rfl); (case hg => rfl); (case hr => first | (go_simp; done) | (go_simp; rfl)); intro gb225 hg w6 hbox hb; have n0_ := jA (jJ (zb0 HB) hb); have n1_ := jA (hbox); have n2_ := jA ((by rw [hg]; exact (jG (zb0 HB)) : w.heap.size ≤ gb225)); have n3_ := jA ((by rw [hg]; exact (jG (zb0 HB)) : w.heap.size ≤ gb225)); clear HB; have HB := n0_; have BK225 := n1_; have GW225 := n2_; have GE225 := n3_; clear n0_ n1_ n2_ n3_; clear hb hbox hg; have hcz7_0 : w6.cell? ⟨gb225, 0, none⟩ = some (.bool true) := (jC BK225.out 0).trans rfl; have hcz7_1 : w6.cell? ⟨gb225, 1, none⟩ = some (.bool true) := (jC BK225.out 1).trans rfl; have hcz7_2 : w6.cell? ⟨gb225, 2, none⟩ = some (.bool true) := (jC BK225.out 2).trans rfl; have hcz7_3 : w6.cell? ⟨gb225, 3, none⟩ = some (.bool a0_3) := (jC BK225.out 3).trans rfl; have hcz7_4 : w6.cell? ⟨gb225, 4, none⟩ = some (.bool true) := (jC BK225.out 4).trans rfl; have hcz7_5 : w6.cell? ⟨gb225, 5, none⟩ = some (.int .i64 a0_5) := (jC BK225.out 5).trans rfl; have hfz7_0 := jB BK225.out 0; have hfz7_1 := jB BK225.out 1; have hfz7_2 := jB BK225.out 2; have hfz7_3 := jB BK225.out 3; have hfz7_4 := jB BK225.out 4; have hfz7_5 := jB BK225.out 5))
     go_ret
     exact ⟨by first | rfl | (simp [errW_none, errW_some] <;> rfl) | (simp [*, errW_none, errW_some] <;> rfl), zb1 HB GE225⟩
    ·replace c5 := Bool.eq_false_iff.mpr c5
     subst c5
     have H1 : (if a0_5 > 3 then (some false) else ((spec_l01In.f a0_5 0 4).bind fun t226 => (if t226 = true then (some true) else (some false)))) = some r := by rw [if_neg (show ¬ (false = true) by decide)] at H; exact H
     clear H
     have H := H1
     clear H1
     by_cases c8 : a0_5 > 3
     ·rw [if_pos c8] at H
      have c8b0 : decide (3 < a0_5) = true := jR c8
      clear c8
      obtain rfl := jT H
      go_enter Try.func51, Try.ntmps51
      go_wp2_with (first | ((with_reducible refine jO (N := 1) rfl ?_); refine jN ?hg (N := 1) ?hd (cs := #[.bool true, .bool true, .bool true, .bool a0_3, .bool false, .int .i64 a0_5]) (t := 23) ?hr ?_; (case hd => rfl); (case hg => rfl); (case hr => first | (go_simp; done) | (go_simp; rfl)); intro gb225 hg w9 hbox hb; have n0_ := jA (jJ (zb0 HB) hb); have n1_ := jA (hbox); have n2_ := jA ((by rw [hg]; exact (jG (zb0 HB)) : w.heap.size ≤ gb225)); have n3_ := jA ((by rw [hg]; exact (jG (zb0 HB)) : w.heap.size ≤ gb225)); clear HB; have HB := n0_; have BK225 := n1_; have GW225 := n2_; have GE225 := n3_; clear n0_ n1_ n2_ n3_; clear hb hbox hg; have hcz10_0 : w9.cell? ⟨gb225, 0, none⟩ = some (.bool true) := (jC BK225.out 0).trans rfl; have hcz10_1 : w9.cell? ⟨gb225, 1, none⟩ = some (.bool true) := (jC BK225.out 1).trans rfl; have hcz10_2 : w9.cell? ⟨gb225, 2, none⟩ = some (.bool true) := (jC BK225.out 2).trans rfl; have hcz10_3 : w9.cell? ⟨gb225, 3, none⟩ = some (.bool a0_3) := (jC BK225.out 3).trans rfl; have hcz10_4 : w9.cell? ⟨gb225, 4, none⟩ = some (.bool false) := (jC BK225.out 4).trans rfl; have hcz10_5 : w9.cell? ⟨gb225, 5, none⟩ = some (.int .i64 a0_5) := (jC BK225.out 5).trans rfl; have hfz10_0 := jB BK225.out 0; have hfz10_1 := jB BK225.out 1; have hfz10_2 := jB BK225.out 2; have hfz10_3 := jB BK225.out 3; have hfz10_4 := jB BK225.out 4; have hfz10_5 := jB BK225.out 5))
      go_ret
      exact ⟨by first | rfl | (simp [errW_none, errW_some] <;> rfl) | (simp [*, errW_none, errW_some] <;> rfl), zb1 HB GE225⟩
     ·rw [if_neg c8] at H
      have c8b0 : decide (3 < a0_5) = false := decide_eq_false c8
      clear c8
      replace H := jQ.mp H
      obtain ⟨t226, A110, H⟩ := H
      replace H : (if t226 = true then (some true) else (some false)) = some r := H
      have A11 := jA A110
      clear A110
      by_cases c12 : t226 = true
      ·subst c12
       have H1 : (some true) = some r := by rw [if_pos rfl] at H; exact H
       clear H
       have H := H1
       clear H1
       obtain rfl := jT H
       go_enter Try.func51, Try.ntmps51
       go_wp2_with (first | ((with_reducible refine jO (N := 1) rfl ?_); refine jN ?hg (N := 1) ?hd (cs := #[.bool true, .bool true, .bool true, .bool a0_3, .bool false, .int .i64 a0_5]) (t := 23) ?hr ?_; (case hd => rfl); (case hg => rfl); (case hr => first | (go_simp; done) | (go_simp; rfl)); intro gb225 hg w13 hbox hb; have n0_ := jA (jJ (zb0 HB) hb); have n1_ := jA (hbox); have n2_ := jA ((by rw [hg]; exact (jG (zb0 HB)) : w.heap.size ≤ gb225)); have n3_ := jA ((by rw [hg]; exact (jG (zb0 HB)) : w.heap.size ≤ gb225)); clear HB; have HB := n0_; have BK225 := n1_; have GW225 := n2_; have GE225 := n3_; clear n0_ n1_ n2_ n3_; clear hb hbox hg; have hcz14_0 : w13.cell? ⟨gb225, 0, none⟩ = some (.bool true) := (jC BK225.out 0).trans rfl; have hcz14_1 : w13.cell? ⟨gb225, 1, none⟩ = some (.bool true) := (jC BK225.out 1).trans rfl; have hcz14_2 : w13.cell? ⟨gb225, 2, none⟩ = some (.bool true) := (jC BK225.out 2).trans rfl; have hcz14_3 : w13.cell? ⟨gb225, 3, none⟩ = some (.bool a0_3) := (jC BK225.out 3).trans rfl; have hcz14_4 : w13.cell? ⟨gb225, 4, none⟩ = some (.bool false) := (jC BK225.out 4).trans rfl; have hcz14_5 : w13.cell? ⟨gb225, 5, none⟩ = some (.int .i64 a0_5) := (jC BK225.out 5).trans rfl; have hfz14_0 := jB BK225.out 0; have hfz14_1 := jB BK225.out 1; have hfz14_2 := jB BK225.out 2; have hfz14_3 := jB BK225.out 3; have hfz14_4 := jB BK225.out 4; have hfz14_5 := jB BK225.out 5) | ((with_reducible refine jd (f := 78) rfl ?_); refine goesL_ (some 26) rfl rfl Try.func78 zr rfl #[.int .i64 a0_5, .int .i64 0, .int .i64 4] rfl zm ?_; (with_reducible refine (spec_l01In.calls a0_5 0 4 true _ A11.out).mono ?_); rintro e w' ⟨rfl, ⟨nd, rfl⟩⟩; refine ⟨_, rfl, ?_⟩))
       go_ret
       exact ⟨by first | rfl | (simp [errW_none, errW_some] <;> rfl) | (simp [*, errW_none, errW_some] <;> rfl), zb1 HB GE225⟩
      ·replace c12 := Bool.eq_false_iff.mpr c12
       subst c12
       have H1 : (some false) = some r := by rw [if_neg (show ¬ (false = true) by decide)] at H; exact H
       clear H
       have H := H1
       clear H1
       obtain rfl := jT H
       go_enter Try.func51, Try.ntmps51
       go_wp2_with (first | ((with_reducible refine jO (N := 1) rfl ?_); refine jN ?hg (N := 1) ?hd (cs := #[.bool true, .bool true, .bool true, .bool a0_3, .bool false, .int .i64 a0_5]) (t := 23) ?hr ?_; (case hd => rfl); (case hg => rfl); (case hr => first | (go_simp; done) | (go_simp; rfl)); intro gb225 hg w15 hbox hb; have n0_ := jA (jJ (zb0 HB) hb); have n1_ := jA (hbox); have n2_ := jA ((by rw [hg]; exact (jG (zb0 HB)) : w.heap.size ≤ gb225)); have n3_ := jA ((by rw [hg]; exact (jG (zb0 HB)) : w.heap.size ≤ gb225)); clear HB; have HB := n0_; have BK225 := n1_; have GW225 := n2_; have GE225 := n3_; clear n0_ n1_ n2_ n3_; clear hb hbox hg; have hcz16_0 : w15.cell? ⟨gb225, 0, none⟩ = some (.bool true) := (jC BK225.out 0).trans rfl; have hcz16_1 : w15.cell? ⟨gb225, 1, none⟩ = some (.bool true) := (jC BK225.out 1).trans rfl; have hcz16_2 : w15.cell? ⟨gb225, 2, none⟩ = some (.bool true) := (jC BK225.out 2).trans rfl; have hcz16_3 : w15.cell? ⟨gb225, 3, none⟩ = some (.bool a0_3) := (jC BK225.out 3).trans rfl; have hcz16_4 : w15.cell? ⟨gb225, 4, none⟩ = some (.bool false) := (jC BK225.out 4).trans rfl; have hcz16_5 : w15.cell? ⟨gb225, 5, none⟩ = some (.int .i64 a0_5) := (jC BK225.out 5).trans rfl; have hfz16_0 := jB BK225.out 0; have hfz16_1 := jB BK225.out 1; have hfz16_2 := jB BK225.out 2; have hfz16_3 := jB BK225.out 3; have hfz16_4 := jB BK225.out 4; have hfz16_5 := jB BK225.out 5) | ((with_reducible refine jd (f := 78) rfl ?_); refine goesL_ (some 26) rfl rfl Try.func78 zr rfl #[.int .i64 a0_5, .int .i64 0, .int .i64 4] rfl zm ?_; (with_reducible refine (spec_l01In.calls a0_5 0 4 false _ A11.out).mono ?_); rintro e w' ⟨rfl, ⟨nd, rfl⟩⟩; refine ⟨_, rfl, ?_⟩))
       go_ret
       exact ⟨by first | rfl | (simp [errW_none, errW_some] <;> rfl) | (simp [*, errW_none, errW_some] <;> rfl), zb1 HB GE225⟩
   ·replace c4 := Bool.eq_false_iff.mpr c4
    subst c4
    have H1 : (some false) = some r := by rw [if_neg (show ¬ (false = true) by decide)] at H; exact H
    clear H
    have H := H1
    clear H1
    obtain rfl := jT H
    go_enter Try.func51, Try.ntmps51
    go_wp2_with (first | ((with_reducible refine jO (N := 1) rfl ?_); refine jN ?hg (N := 1) ?hd (cs := #[.bool true, .bool false, .bool true, .bool a0_3, .bool a0_4, .int .i64 a0_5]) (t := 23) ?hr ?_; (case hd => rfl); (case hg => rfl); (case hr => first | (go_simp; done) | (go_simp; rfl)); intro gb225 hg w17 hbox hb; have n0_ := jA (jJ (zb0 HB) hb); have n1_ := jA (hbox); have n2_ := jA ((by rw [hg]; exact (jG (zb0 HB)) : w.heap.size ≤ gb225)); have n3_ := jA ((by rw [hg]; exact (jG (zb0 HB)) : w.heap.size ≤ gb225)); clear HB; have HB := n0_; have BK225 := n1_; have GW225 := n2_; have GE225 := n3_; clear n0_ n1_ n2_ n3_; clear hb hbox hg; have hcz18_0 : w17.cell? ⟨gb225, 0, none⟩ = some (.bool true) := (jC BK225.out 0).trans rfl; have hcz18_1 : w17.cell? ⟨gb225, 1, none⟩ = some (.bool false) := (jC BK225.out 1).trans rfl; have hcz18_2 : w17.cell? ⟨gb225, 2, none⟩ = some (.bool true) := (jC BK225.out 2).trans rfl; have hcz18_3 : w17.cell? ⟨gb225, 3, none⟩ = some (.bool a0_3) := (jC BK225.out 3).trans rfl; have hcz18_4 : w17.cell? ⟨gb225, 4, none⟩ = some (.bool a0_4) := (jC BK225.out 4).trans rfl; have hcz18_5 : w17.cell? ⟨gb225, 5, none⟩ = some (.int .i64 a0_5) := (jC BK225.out 5).trans rfl; have hfz18_0 := jB BK225.out 0; have hfz18_1 := jB BK225.out 1; have hfz18_2 := jB BK225.out 2; have hfz18_3 := jB BK225.out 3; have hfz18_4 := jB BK225.out 4; have hfz18_5 := jB BK225.out 5))
    go_ret
    exact ⟨by first | rfl | (simp [errW_none, errW_some] <;> rfl) | (simp [*, errW_none, errW_some] <;> rfl), zb1 HB GE225⟩
  ·replace c3 := Bool.eq_false_iff.mpr c3
   subst c3
   have H1 : (some false) = some r := by rw [if_neg (show ¬ (false = true) by decide)] at H; exact H
   clear H
   have H := H1
   clear H1
   obtain rfl := jT H
   go_enter Try.func51, Try.ntmps51
   go_wp2_with (first | ((with_reducible refine jO (N := 1) rfl ?_); refine jN ?hg (N := 1) ?hd (cs := #[.bool false, .bool a0_1, .bool true, .bool a0_3, .bool a0_4, .int .i64 a0_5]) (t := 23) ?hr ?_; (case hd => rfl); (case hg => rfl); (case hr => first | (go_simp; done) | (go_simp; rfl)); intro gb225 hg w19 hbox hb; have n0_ := jA (jJ (zb0 HB) hb); have n1_ := jA (hbox); have n2_ := jA ((by rw [hg]; exact (jG (zb0 HB)) : w.heap.size ≤ gb225)); have n3_ := jA ((by rw [hg]; exact (jG (zb0 HB)) : w.heap.size ≤ gb225)); clear HB; have HB := n0_; have BK225 := n1_; have GW225 := n2_; have GE225 := n3_; clear n0_ n1_ n2_ n3_; clear hb hbox hg; have hcz20_0 : w19.cell? ⟨gb225, 0, none⟩ = some (.bool false) := (jC BK225.out 0).trans rfl; have hcz20_1 : w19.cell? ⟨gb225, 1, none⟩ = some (.bool a0_1) := (jC BK225.out 1).trans rfl; have hcz20_2 : w19.cell? ⟨gb225, 2, none⟩ = some (.bool true) := (jC BK225.out 2).trans rfl; have hcz20_3 : w19.cell? ⟨gb225, 3, none⟩ = some (.bool a0_3) := (jC BK225.out 3).trans rfl; have hcz20_4 : w19.cell? ⟨gb225, 4, none⟩ = some (.bool a0_4) := (jC BK225.out 4).trans rfl; have hcz20_5 : w19.cell? ⟨gb225, 5, none⟩ = some (.int .i64 a0_5) := (jC BK225.out 5).trans rfl; have hfz20_0 := jB BK225.out 0; have hfz20_1 := jB BK225.out 1; have hfz20_2 := jB BK225.out 2; have hfz20_3 := jB BK225.out 3; have hfz20_4 := jB BK225.out 4; have hfz20_5 := jB BK225.out 5))
   go_ret
   exact ⟨by first | rfl | (simp [errW_none, errW_some] <;> rfl) | (simp [*, errW_none, errW_some] <;> rfl), zb1 HB GE225⟩
 ·replace c2 := Bool.eq_false_iff.mpr c2
  subst c2
  have H1 : ((spec_l01In.f a0_5 0 4).bind fun t227 => (if t227 = true then (some (!a0_3)) else (some false))) = some r := by rw [if_neg (show ¬ (false = true) by decide)] at H; exact H
  clear H
  have H := H1
  clear H1
  replace H := jQ.mp H
  obtain ⟨t227, A210, H⟩ := H
  replace H : (if t227 = true then (some (!a0_3)) else (some false)) = some r := H
  have A21 := jA A210
  clear A210
  by_cases c22 : t227 = true
  ·subst c22
   have H1 : (some (!a0_3)) = some r := by rw [if_pos rfl] at H; exact H
   clear H
   have H := H1
   clear H1
   obtain rfl := jT H
   go_enter Try.func51, Try.ntmps51
   go_wp2_with (first | ((with_reducible refine jO (N := 1) rfl ?_); refine jN ?hg (N := 1) ?hd (cs := #[.bool a0_0, .bool a0_1, .bool false, .bool a0_3, .bool a0_4, .int .i64 a0_5]) (t := 23) ?hr ?_; (case hd => rfl); (case hg => rfl); (case hr => first | (go_simp; done) | (go_simp; rfl)); intro gb225 hg w23 hbox hb; have n0_ := jA (jJ (zb0 HB) hb); have n1_ := jA (hbox); have n2_ := jA ((by rw [hg]; exact (jG (zb0 HB)) : w.heap.size ≤ gb225)); have n3_ := jA ((by rw [hg]; exact (jG (zb0 HB)) : w.heap.size ≤ gb225)); clear HB; have HB := n0_; have BK225 := n1_; have GW225 := n2_; have GE225 := n3_; clear n0_ n1_ n2_ n3_; clear hb hbox hg; have hcz24_0 : w23.cell? ⟨gb225, 0, none⟩ = some (.bool a0_0) := (jC BK225.out 0).trans rfl; have hcz24_1 : w23.cell? ⟨gb225, 1, none⟩ = some (.bool a0_1) := (jC BK225.out 1).trans rfl; have hcz24_2 : w23.cell? ⟨gb225, 2, none⟩ = some (.bool false) := (jC BK225.out 2).trans rfl; have hcz24_3 : w23.cell? ⟨gb225, 3, none⟩ = some (.bool a0_3) := (jC BK225.out 3).trans rfl; have hcz24_4 : w23.cell? ⟨gb225, 4, none⟩ = some (.bool a0_4) := (jC BK225.out 4).trans rfl; have hcz24_5 : w23.cell? ⟨gb225, 5, none⟩ = some (.int .i64 a0_5) := (jC BK225.out 5).trans rfl; have hfz24_0 := jB BK225.out 0; have hfz24_1 := jB BK225.out 1; have hfz24_2 := jB BK225.out 2; have hfz24_3 := jB BK225.out 3; have hfz24_4 := jB BK225.out 4; have hfz24_5 := jB BK225.out 5) | ((with_reducible refine jd (f := 78) rfl ?_); refine goesL_ (some 26) rfl rfl Try.func78 zr rfl #[.int .i64 a0_5, .int .i64 0, .int .i64 4] rfl zm ?_; (with_reducible refine (spec_l01In.calls a0_5 0 4 true _ A21.out).mono ?_); rintro e w' ⟨rfl, ⟨nd, rfl⟩⟩; refine ⟨_, rfl, ?_⟩))
   go_ret
   exact ⟨by first | rfl | (simp [errW_none, errW_some] <;> rfl) | (simp [*, errW_none, errW_some] <;> rfl), zb1 HB GE225⟩
  ·replace c22 := Bool.eq_false_iff.mpr c22
   subst c22
   have H1 : (some false) = some r := by rw [if_neg (show ¬ (false = true) by decide)] at H; exact H
   clear H
   have H := H1
   clear H1
   obtain rfl := jT H
   go_enter Try.func51, Try.ntmps51
   go_wp2_with (first | ((with_reducible refine jO (N := 1) rfl ?_); refine jN ?hg (N := 1) ?hd (cs := #[.bool a0_0, .bool a0_1, .bool false, .bool a0_3, .bool a0_4, .int .i64 a0_5]) (t := 23) ?hr ?_; (case hd => rfl); (case hg => rfl); (case hr => first | (go_simp; done) | (go_simp; rfl)); intro gb225 hg w25 hbox hb; have n0_ := jA (jJ (zb0 HB) hb); have n1_ := jA (hbox); have n2_ := jA ((by rw [hg]; exact (jG (zb0 HB)) : w.heap.size ≤ gb225)); have n3_ := jA ((by rw [hg]; exact (jG (zb0 HB)) : w.heap.size ≤ gb225)); clear HB; have HB := n0_; have BK225 := n1_; have GW225 := n2_; have GE225 := n3_; clear n0_ n1_ n2_ n3_; clear hb hbox hg; have hcz26_0 : w25.cell? ⟨gb225, 0, none⟩ = some (.bool a0_0) := (jC BK225.out 0).trans rfl; have hcz26_1 : w25.cell? ⟨gb225, 1, none⟩ = some (.bool a0_1) := (jC BK225.out 1).trans rfl; have hcz26_2 : w25.cell? ⟨gb225, 2, none⟩ = some (.bool false) := (jC BK225.out 2).trans rfl; have hcz26_3 : w25.cell? ⟨gb225, 3, none⟩ = some (.bool a0_3) := (jC BK225.out 3).trans rfl; have hcz26_4 : w25.cell? ⟨gb225, 4, none⟩ = some (.bool a0_4) := (jC BK225.out 4).trans rfl; have hcz26_5 : w25.cell? ⟨gb225, 5, none⟩ = some (.int .i64 a0_5) := (jC BK225.out 5).trans rfl; have hfz26_0 := jB BK225.out 0; have hfz26_1 := jB BK225.out 1; have hfz26_2 := jB BK225.out 2; have hfz26_3 := jB BK225.out 3; have hfz26_4 := jB BK225.out 4; have hfz26_5 := jB BK225.out 5) | ((with_reducible refine jd (f := 78) rfl ?_); refine goesL_ (some 26) rfl rfl Try.func78 zr rfl #[.int .i64 a0_5, .int .i64 0, .int .i64 4] rfl zm ?_; (with_reducible refine (spec_l01In.calls a0_5 0 4 false _ A21.out).mono ?_); rintro e w' ⟨rfl, ⟨nd, rfl⟩⟩; refine ⟨_, rfl, ?_⟩))
   go_ret
   exact ⟨by first | rfl | (simp [errW_none, errW_some] <;> rfl) | (simp [*, errW_none, errW_some] <;> rfl), zb1 HB GE225⟩

/-! ### spec_l25Is: function 47 -/
def spec_l25Is.f (a0 : Int) : Option (Bool) := (spec_l01In.f a0 0 159).bind fun t228 => (if t228 = true then ((spec_l25With.f a0).bind fun bt229 => ((spec_IsSound.f bt229.1 bt229.2.1 bt229.2.2.1 bt229.2.2.2.1 bt229.2.2.2.2.1 bt229.2.2.2.2.2).bind fun t235 => (some t235))) else (some false))
set_option maxHeartbeats 8000000 in
set_option maxRecDepth 100000 in
theorem spec_l25Is.calls (a0 : Int) (r : Bool) (w : World) (h : spec_l25Is.f a0 = some r) :
  Calls Try.prog 47 #[.int .i64 a0] w fun e w' => e = .returned (.bool r) ∧ Below w.heap.size w w' := by
 have HB := jA (Below.refl w.heap.size w)
 have H : ((spec_l01In.f a0 0 159).bind fun t228 => (if t228 = true then ((spec_l25With.f a0).bind fun bt229 => ((spec_IsSound.f bt229.1 bt229.2.1 bt229.2.2.1 bt229.2.2.2.1 bt229.2.2.2.2.1 bt229.2.2.2.2.2).bind fun t235 => (some t235))) else (some false))) = some r := h
 clear h
 replace H := jQ.mp H
 obtain ⟨t228, A20, H⟩ := H
 replace H : (if t228 = true then ((spec_l25With.f a0).bind fun bt229 => ((spec_IsSound.f bt229.1 bt229.2.1 bt229.2.2.1 bt229.2.2.2.1 bt229.2.2.2.2.1 bt229.2.2.2.2.2).bind fun t235 => (some t235))) else (some false)) = some r := H
 have A2 := jA A20
 clear A20
 by_cases c3 : t228 = true
 ·subst c3
  have H1 : ((spec_l25With.f a0).bind fun bt229 => ((spec_IsSound.f bt229.1 bt229.2.1 bt229.2.2.1 bt229.2.2.2.1 bt229.2.2.2.2.1 bt229.2.2.2.2.2).bind fun t235 => (some t235))) = some r := by rw [if_pos rfl] at H; exact H
  clear H
  have H := H1
  clear H1
  replace H := jQ.mp H
  obtain ⟨⟨t229, t230, t231, t232, t233, t234⟩, A40, H⟩ := H
  replace H : ((spec_IsSound.f t229 t230 t231 t232 t233 t234).bind fun t235 => (some t235)) = some r := H
  have A4 := jA A40
  clear A40
  replace H := jQ.mp H
  obtain ⟨t235, A50, H⟩ := H
  replace H : (some t235) = some r := H
  have A5 := jA A50
  clear A50
  obtain rfl := jT H
  go_enter Try.func47, Try.ntmps47
  go_wp2_with (first | ((with_reducible refine jd (f := 78) rfl ?_); refine goesL_ (some 4) rfl rfl Try.func78 zr rfl #[.int .i64 a0, .int .i64 0, .int .i64 159] rfl zm ?_; (with_reducible refine (spec_l01In.calls a0 0 159 true _ A2.out).mono ?_); rintro e w' ⟨rfl, ⟨nd, rfl⟩⟩; refine ⟨_, rfl, ?_⟩) | (go_at_call 48; (with_reducible refine (spec_l25With.calls a0 t229 t230 t231 t232 t233 t234 _ A4.out).mono ?_); rintro e w6 ⟨rfl, hb⟩; have n0_ := jA (jJ (zb0 HB) hb); clear HB; have HB := n0_; clear n0_; (try clear hb); (try clear hb2); (try clear hk); (try clear hi)) | (go_at_call 51; (with_reducible refine (spec_IsSound.calls t229 t230 t231 t232 t233 t234 t235 _ A5.out).mono ?_); rintro e w7 ⟨rfl, hb⟩; have n0_ := jA (jJ (zb0 HB) hb); clear HB; have HB := n0_; clear n0_; (try clear hb); (try clear hb2); (try clear hk); (try clear hi)))
  go_ret
  exact ⟨by first | rfl | (simp [errW_none, errW_some] <;> rfl) | (simp [*, errW_none, errW_some] <;> rfl), zb0 HB⟩
 ·replace c3 := Bool.eq_false_iff.mpr c3
  subst c3
  have H1 : (some false) = some r := by rw [if_neg (show ¬ (false = true) by decide)] at H; exact H
  clear H
  have H := H1
  clear H1
  obtain rfl := jT H
  go_enter Try.func47, Try.ntmps47
  go_wp2_with (first | ((with_reducible refine jd (f := 78) rfl ?_); refine goesL_ (some 4) rfl rfl Try.func78 zr rfl #[.int .i64 a0, .int .i64 0, .int .i64 159] rfl zm ?_; (with_reducible refine (spec_l01In.calls a0 0 159 false _ A2.out).mono ?_); rintro e w' ⟨rfl, ⟨nd, rfl⟩⟩; refine ⟨_, rfl, ?_⟩))
  go_ret
  exact ⟨by first | rfl | (simp [errW_none, errW_some] <;> rfl) | (simp [*, errW_none, errW_some] <;> rfl), zb0 HB⟩

/-! ### spec_l25Number: function 52 -/
def spec_l25Number.l0 : Nat → Int → List Bool → Int → Int → Option (Int)
 | 0, _, _, _, _ => none
 | k + 1, x3, x4, x5, x6 => if x6 < (x4.length : Int) then (if 0 ≤ x6 then (if rdOf false x4 x6 = true then (spec_l25Number.l0 k (wrap64 (x3 + x5)) x4 (wrap64 (2 * x5)) (wrap64 (x6 + 1))) else (spec_l25Number.l0 k x3 x4 (wrap64 (2 * x5)) (wrap64 (x6 + 1)))) else (none)) else (some x3)
def spec_l25Number.f (k : Nat) (a0_0 : Bool) (a0_1 : Bool) (a0_2 : Bool) (a0_3 : Bool) (a0_4 : Bool) (a0_5 : Int) : Option (Int) := spec_l25Number.l0 k (wrap64 (32 * a0_5)) (([a0_0, a0_1, a0_2, a0_3, a0_4] : List Bool)) 1 0
theorem spec_l25Number.mono_l : ∀ k, (∀ y0 y1 y2 y3, LeO (spec_l25Number.l0 k y0 y1 y2 y3) (spec_l25Number.l0 (k + 1) y0 y1 y2 y3))
 | 0 => fun _ _ _ _ r h => by simp [spec_l25Number.l0] at h
 | k + 1 => by
  have ih0 := spec_l25Number.mono_l k
  ·intro y0 y1 y2 y3
   unfold spec_l25Number.l0
   repeat' first
   | (with_reducible exact ih0 _ _ _ _)
   | (with_reducible exact LeO.refl _)
   | (with_reducible exact LeO.none _)
   | (with_reducible refine LeO.ite ?_ ?_)
   | (with_reducible refine LeO.bind ?_ (fun _ => ?_))
   | exact ih0 _ _ _ _
   | exact LeO.none _
   | refine LeO.ite ?_ ?_
   | refine LeO.bind ?_ (fun _ => ?_)
theorem spec_l25Number.mono : ∀ a0 a1 a2 a3 a4 a5 k, LeO (spec_l25Number.f k a0 a1 a2 a3 a4 a5) (spec_l25Number.f (k + 1) a0 a1 a2 a3 a4 a5) := by
 intro a0 a1 a2 a3 a4 a5 k
 have ih0 := spec_l25Number.mono_l k
 unfold spec_l25Number.f
 repeat' first
   | (with_reducible exact ih0 _ _ _ _)
   | (with_reducible exact LeO.refl _)
   | (with_reducible exact LeO.none _)
   | (with_reducible refine LeO.ite ?_ ?_)
   | (with_reducible refine LeO.bind ?_ (fun _ => ?_))
   | exact ih0 _ _ _ _
   | exact LeO.none _
   | refine LeO.ite ?_ ?_
   | refine LeO.bind ?_ (fun _ => ?_)
set_option maxHeartbeats 8000000 in
set_option maxRecDepth 100000 in
theorem spec_l25Number.calls (k : Nat) (a0_0 : Bool) (a0_1 : Bool) (a0_2 : Bool) (a0_3 : Bool) (a0_4 : Bool) (a0_5 : Int) (r : Int) (w : World) (h : spec_l25Number.f k a0_0 a0_1 a0_2 a0_3 a0_4 a0_5 = some r) :
  Calls Try.prog 52 #[.agg #[.bool a0_0, .bool a0_1, .bool a0_2, .bool a0_3, .bool a0_4, .int .i64 a0_5]] w fun e w' => e = .returned (.int .i64 r) ∧ Below w.heap.size w w' := by
 have hu23 := Try.underlying23
 have HB := jA (Below.refl w.heap.size w)
 have H : (spec_l25Number.l0 k (wrap64 (32 * a0_5)) (([a0_0, a0_1, a0_2, a0_3, a0_4] : List Bool)) 1 0) = some r := h
 clear h
 obtain ⟨y237, hy237⟩ : ∃ y_ : List Bool, y_ = (([a0_0, a0_1, a0_2, a0_3, a0_4] : List Bool)) := ⟨_, rfl⟩
 replace H : (spec_l25Number.l0 k (wrap64 (32 * a0_5)) y237 1 0) = some r := by first | (rw [hy237]; with_reducible exact H) | (have H2_ := (Option.bind_some _ _).symm.trans H; rw [hy237]; with_reducible exact H2_) | (have H2_ := (Option.bind_some _ _).symm.trans H; with_reducible exact H2_) | with_reducible exact H | (rw [hy237]; exact H) | exact H
 have Ny237 := jA hy237
 clear hy237
 have H' := jA H
 clear H
 go_enter Try.func52, Try.ntmps52
 go_wp2_with (first | ((with_reducible refine jO (N := 1) rfl ?_); refine jN ?hg (N := 1) ?hd (cs := #[.bool a0_0, .bool a0_1, .bool a0_2, .bool a0_3, .bool a0_4, .int .i64 a0_5]) (t := 23) ?hr ?_; (case hd => rfl); (case hg => rfl); (case hr => first | (go_simp; done) | (go_simp; rfl)); intro gb236 hg w2 hbox hb; have n0_ := jA (jJ (zb0 HB) hb); have n1_ := jA (hbox); have n2_ := jA ((by rw [hg]; exact (jG (zb0 HB)) : w.heap.size ≤ gb236)); have n3_ := jA ((by rw [hg]; exact (jG (zb0 HB)) : w.heap.size ≤ gb236)); clear HB; have HB := n0_; have BK236 := n1_; have GW236 := n2_; have GE236 := n3_; clear n0_ n1_ n2_ n3_; clear hb hbox hg; have hcz3_0 : w2.cell? ⟨gb236, 0, none⟩ = some (.bool a0_0) := (jC BK236.out 0).trans rfl; have hcz3_1 : w2.cell? ⟨gb236, 1, none⟩ = some (.bool a0_1) := (jC BK236.out 1).trans rfl; have hcz3_2 : w2.cell? ⟨gb236, 2, none⟩ = some (.bool a0_2) := (jC BK236.out 2).trans rfl; have hcz3_3 : w2.cell? ⟨gb236, 3, none⟩ = some (.bool a0_3) := (jC BK236.out 3).trans rfl; have hcz3_4 : w2.cell? ⟨gb236, 4, none⟩ = some (.bool a0_4) := (jC BK236.out 4).trans rfl; have hcz3_5 : w2.cell? ⟨gb236, 5, none⟩ = some (.int .i64 a0_5) := (jC BK236.out 5).trans rfl; have hfz3_0 := jB BK236.out 0; have hfz3_1 := jB BK236.out 1; have hfz3_2 := jB BK236.out 2; have hfz3_3 := jB BK236.out 3; have hfz3_4 := jB BK236.out 4; have hfz3_5 := jB BK236.out 5) | ((with_reducible refine jO (N := 20) rfl ?_); refine Kd.R_lit Kd.bool _ 4 ?hg (N := 20) ?hd (xs := ([a0_0, a0_1, a0_2, a0_3, a0_4] : List Bool)) (inner := [.bool a0_0, .bool a0_1, .bool a0_2, .bool a0_3, .bool a0_4]) (ok := fun _ => True) (okp := fun _ => True) ?hr ?hp (fun _ hk => hk) trivial (Below.refl _ _) (Nat.le_refl _) (by simp) ?_; (case hd => rfl); (case hg => rfl); (case hr => first | (go_simp; done) | (go_simp; rfl)); (case hp => exact (Reps.one (show Kd.M Kd.bool _ _ _ a0_0 [.bool a0_0] from rfl) (Reps.one (show Kd.M Kd.bool _ _ _ a0_1 [.bool a0_1] from rfl) (Reps.one (show Kd.M Kd.bool _ _ _ a0_2 [.bool a0_2] from rfl) (Reps.one (show Kd.M Kd.bool _ _ _ a0_3 [.bool a0_3] from rfl) (Reps.one (show Kd.M Kd.bool _ _ _ a0_4 [.bool a0_4] from rfl) (Reps.none _ _))))))); intro v238 w4 ho5 hb hg_ hnew_; clear hg_ hnew_; (first | rw [← Ny237.out] at ho5 | (simp only [Int.reduceToNat] at ho5; rw [← Ny237.out] at ho5)); have n0_ := jA (Kd.R_lower ho5 (jG (zb1 HB GE236))); have n1_ := jA (jP (g := gb236) (o := .cells #[.bool a0_0, .bool a0_1, .bool a0_2, .bool a0_3, .bool a0_4, .int .i64 a0_5] 23 (0, 0)) (zk BK236) hb); have n2_ := jA (jJ (zb1 HB GE236) hb); clear BK236; clear HB; have HO239 := n0_; have BK236 := n1_; have HB := n2_; clear n0_ n1_ n2_; clear hb ho5))
 go_loopg [3, 5, 6] k (fun kq v3 v5 v6 w' => ∃ (x3_1 : Int) (x5_1 : Int) (x6_1 : Int), v3 = .int .i64 x3_1 ∧ v5 = .int .i64 x5_1 ∧ v6 = .int .i64 x6_1 ∧ Aside0 (spec_l25Number.l0 kq x3_1 y237 x5_1 x6_1 = some r) ∧ Aside0 (kq ≤ k) ∧ Aside0 (Kd.R Kd.bool 4 w' w.heap.size (fun _ => True) v238 y237) ∧ Aside0 (w'.heap[gb236]? = some (.cells #[.bool a0_0, .bool a0_1, .bool a0_2, .bool a0_3, .bool a0_4, .int .i64 a0_5] 23 (0, 0))) ∧ Aside0 (Below w.heap.size w w'))
 case atStart => exact ⟨(wrap64 (32 * a0_5)), (1), (0), zz, zz, zz, H', ⟨Nat.le_refl _⟩, ⟨by (with_reducible repeat (first | apply ja | apply jZ | apply jc)); exact HO239.out⟩, ⟨by (with_reducible repeat (first | refine jD ?_ _ | refine jF ?_ | refine jE ?_ _)); exact BK236.out⟩, ⟨zb1 HB GE236⟩⟩
 case round =>
  clear H'
  try clear p2
  try clear c5
  try clear hcz3_0
  try clear hcz3_1
  try clear hcz3_2
  try clear hcz3_3
  try clear hcz3_4
  try clear hcz3_5
  try clear hfz3_0
  try clear hfz3_1
  try clear hfz3_2
  try clear hfz3_3
  try clear hfz3_4
  try clear hfz3_5
  obtain ⟨x3_1, x5_1, x6_1, rfl, rfl, rfl, HA, HK1, HO_4, BK236, HB⟩ := hrel
  cases gk with
  | zero => exact absurd HA.out (by simp [spec_l25Number.l0])
  | succ k1 =>
   have H := HA.out
   clear HA
   simp only [spec_l25Number.l0] at H
   by_cases c6 : x6_1 < (y237.length : Int)
   ·rw [if_pos c6] at H
    have c6b0 : decide (x6_1 < (y237.length : Int)) = true := jR c6
    clear c6
    by_cases c7 : 0 ≤ x6_1
    ·rw [if_pos c7] at H
     have c7b0 : decide (0 ≤ x6_1) = true := jR c7
     clear c7
     obtain ⟨bq8, hbq8⟩ : ∃ b_ : Bool, b_ = (rdOf false y237 x6_1) := ⟨_, rfl⟩
     replace H : (if bq8 = true then (spec_l25Number.l0 k1 (wrap64 (x3_1 + x5_1)) y237 (wrap64 (2 * x5_1)) (wrap64 (x6_1 + 1))) else (spec_l25Number.l0 k1 x3_1 y237 (wrap64 (2 * x5_1)) (wrap64 (x6_1 + 1)))) = some r := by rw [← hbq8] at H; exact H
     have Nbq8 := jA hbq8
     clear hbq8
     by_cases c9 : bq8 = true
     ·subst c9
      have H1 : (spec_l25Number.l0 k1 (wrap64 (x3_1 + x5_1)) y237 (wrap64 (2 * x5_1)) (wrap64 (x6_1 + 1))) = some r := by rw [if_pos rfl] at H; exact H
      clear H
      have H := H1
      clear H1
      have H' := jA H
      clear H
      obtain ⟨Ao10, co10, eo10⟩ := Kd.R_slice HO_4.out
      subst eo10
      have p240 : 0 ≤ (x6_1 : Int) := jH za
      have q240 : x6_1 < (y237.length : Int) := jH za
      obtain ⟨ad240, e240, hx240_0⟩ := Kd.at_bool (Kd.R_reads' HO_4.out).2.2 x6_1 p240 q240
      (try rw [← Nbq8.out] at hx240_0)
      cases e240
      replace p240 := eq_true p240
      replace q240 := eq_true q240
      go_wp2
      go_roundg k1
      case measure => have := HK1.out; omega
      case rel => exact ⟨(wrap64 (x3_1 + x5_1)), (wrap64 (2 * x5_1)), (wrap64 (x6_1 + 1)), zz, zz, zz, H', ⟨by have := HK1.out; omega⟩, ⟨by (with_reducible repeat (first | apply ja | apply jZ | apply jc)); exact HO_4.out⟩, ⟨by (with_reducible repeat (first | refine jD ?_ _ | refine jF ?_ | refine jE ?_ _)); exact BK236.out⟩, ⟨zb1 HB GE236⟩⟩
     ·replace c9 := Bool.eq_false_iff.mpr c9
      subst c9
      have H1 : (spec_l25Number.l0 k1 x3_1 y237 (wrap64 (2 * x5_1)) (wrap64 (x6_1 + 1))) = some r := by rw [if_neg (show ¬ (false = true) by decide)] at H; exact H
      clear H
      have H := H1
      clear H1
      have H' := jA H
      clear H
      obtain ⟨Ao11, co11, eo11⟩ := Kd.R_slice HO_4.out
      subst eo11
      have p240 : 0 ≤ (x6_1 : Int) := jH za
      have q240 : x6_1 < (y237.length : Int) := jH za
      obtain ⟨ad240, e240, hx240_0⟩ := Kd.at_bool (Kd.R_reads' HO_4.out).2.2 x6_1 p240 q240
      (try rw [← Nbq8.out] at hx240_0)
      cases e240
      replace p240 := eq_true p240
      replace q240 := eq_true q240
      go_wp2
      go_roundg k1
      case measure => have := HK1.out; omega
      case rel => exact ⟨(x3_1), (wrap64 (2 * x5_1)), (wrap64 (x6_1 + 1)), zz, zz, zz, H', ⟨by have := HK1.out; omega⟩, ⟨by (with_reducible repeat (first | apply ja | apply jZ | apply jc)); exact HO_4.out⟩, ⟨by (with_reducible repeat (first | refine jD ?_ _ | refine jF ?_ | refine jE ?_ _)); exact BK236.out⟩, ⟨zb1 HB GE236⟩⟩
    ·rw [if_neg c7] at H
     exact absurd H (by simp)
   ·rw [if_neg c6] at H
    have c6b0 : decide (x6_1 < (y237.length : Int)) = false := decide_eq_false c6
    clear c6
    obtain rfl := jT H
    obtain ⟨Ao12, co12, eo12⟩ := Kd.R_slice HO_4.out
    subst eo12
    go_wp2
    go_ret
    exact ⟨by first | rfl | (simp [errW_none, errW_some] <;> rfl) | (simp [*, errW_none, errW_some] <;> rfl), zb1 HB GE236⟩

end Go.Proofs.Ythieppjmjgijfaa.PFnExactShortestInputs
