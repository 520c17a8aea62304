/- Functions and contracts that FnDepots reaches (4 of 11). -/
import Derived.Test.YtmhnkhealidjjaaQFnDepotsx2
namespace Go.Proofs.Ytmhnkhealidjjaa.PFnDepots
open Go.RowKit Go.Proofs.YtmhnkhealidjjaaW.PrintWords Go.Proofs.YtmhnkhealidjjaaW.PrintLast Go.Proofs.YtmhnkhealidjjaaW.PrintMore
attribute [local go_sem] max2_int min2_int max_two min_two max_three min_three max_four min_four   -- for this text's walks alone
set_option linter.unusedVariables false
set_option linter.unusedSimpArgs false

/-! ### spec_TooClose: function 44 -/
mutual
def spec_TooClose.l0 : Nat → List (S51) → Int → List (List Int) → Int → Option ((List (List Int)) × Int)
 | 0, _, _, _, _ => none
 | k + 1, x0, x1, x7, x8 => if x8 < (x0.length : Int) then (spec_TooClose.l1 k x0 x1 x7 x8 (wrap64 (x8 + 1))) else (some (x7, 0))
def spec_TooClose.l1 : Nat → List (S51) → Int → List (List Int) → Int → Int → Option ((List (List Int)) × Int)
 | 0, _, _, _, _, _ => none
 | k + 1, x0, x1, x7, x8, x9 => if x9 < (x0.length : Int) then (if 0 ≤ x8 then (if x8 < (x0.length : Int) then (if 0 ≤ x9 then ((spec_l27Close.f k ((rd_T51 x0 x8).f0) ((rd_T51 x0 x8).f1) ((rd_T51 x0 x8).f2) ((rd_T51 x0 x9).f0) ((rd_T51 x0 x9).f1) ((rd_T51 x0 x9).f2) x1).bind fun t162 => (if t162 = true then (if x7.length < 5864062014805 then (spec_TooClose.l1 k x0 x1 (x7 ++ [(([x8, x9] : List Int))]) x8 (wrap64 (x9 + 1))) else (none)) else (spec_TooClose.l1 k x0 x1 x7 x8 (wrap64 (x9 + 1))))) else (none)) else (none)) else (none)) else (spec_TooClose.l0 k x0 x1 x7 (wrap64 (x8 + 1)))
end
def spec_TooClose.f (k : Nat) (l0 : List (S51)) (a1 : Int) : Option ((List (List Int)) × Int) := (spec_AreDepots.f k l0).bind fun t155 => (if t155 = true then ((spec_l27Code.f a1 0).bind fun t156 => (if t156 = 0 then (spec_TooClose.l0 k l0 a1 (([] : List (List Int))) 0) else (some (([] : List (List Int)), t156)))) else (some (([] : List (List Int)), 1)))
theorem spec_TooClose.mono_l : ∀ k, (∀ y0 y1 y2 y3, LeO (spec_TooClose.l0 k y0 y1 y2 y3) (spec_TooClose.l0 (k + 1) y0 y1 y2 y3)) ∧ (∀ y0 y1 y2 y3 y4, LeO (spec_TooClose.l1 k y0 y1 y2 y3 y4) (spec_TooClose.l1 (k + 1) y0 y1 y2 y3 y4))
 | 0 => ⟨fun _ _ _ _ r h => by simp [spec_TooClose.l0] at h, fun _ _ _ _ _ r h => by simp [spec_TooClose.l1] at h⟩
 | k + 1 => by
  obtain ⟨ih0, ih1⟩ := spec_TooClose.mono_l k
  refine ⟨?_, ?_⟩
  ·intro y0 y1 y2 y3
   unfold spec_TooClose.l0
   repeat' first
   | (with_reducible exact ih0 _ _ _ _)
   | (with_reducible exact ih1 _ _ _ _ _)
   | (with_reducible exact spec_AreDepots.mono _ _)
   | (with_reducible exact spec_l27Close.mono _ _ _ _ _ _ _ _)
   | (with_reducible exact LeO.refl _)
   | (with_reducible exact LeO.none _)
   | (with_reducible refine LeO.ite ?_ ?_)
   | (with_reducible refine LeO.bind ?_ (fun _ => ?_))
   | exact ih0 _ _ _ _
   | exact ih1 _ _ _ _ _
   | exact spec_AreDepots.mono _ _
   | exact spec_l27Close.mono _ _ _ _ _ _ _ _
   | exact LeO.none _
   | refine LeO.ite ?_ ?_
   | refine LeO.bind ?_ (fun _ => ?_)
  ·intro y0 y1 y2 y3 y4
   unfold spec_TooClose.l1
   repeat' first
   | (with_reducible exact ih0 _ _ _ _)
   | (with_reducible exact ih1 _ _ _ _ _)
   | (with_reducible exact spec_AreDepots.mono _ _)
   | (with_reducible exact spec_l27Close.mono _ _ _ _ _ _ _ _)
   | (with_reducible exact LeO.refl _)
   | (with_reducible exact LeO.none _)
   | (with_reducible refine LeO.ite ?_ ?_)
   | (with_reducible refine LeO.bind ?_ (fun _ => ?_))
   | exact ih0 _ _ _ _
   | exact ih1 _ _ _ _ _
   | exact spec_AreDepots.mono _ _
   | exact spec_l27Close.mono _ _ _ _ _ _ _ _
   | exact LeO.none _
   | refine LeO.ite ?_ ?_
   | refine LeO.bind ?_ (fun _ => ?_)
theorem spec_TooClose.mono : ∀ a0 a1 k, LeO (spec_TooClose.f k a0 a1) (spec_TooClose.f (k + 1) a0 a1) := by
 intro a0 a1 k
 obtain ⟨ih0, ih1⟩ := spec_TooClose.mono_l k
 unfold spec_TooClose.f
 repeat' first
   | (with_reducible exact ih0 _ _ _ _)
   | (with_reducible exact ih1 _ _ _ _ _)
   | (with_reducible exact spec_AreDepots.mono _ _)
   | (with_reducible exact spec_l27Close.mono _ _ _ _ _ _ _ _)
   | (with_reducible exact LeO.refl _)
   | (with_reducible exact LeO.none _)
   | (with_reducible refine LeO.ite ?_ ?_)
   | (with_reducible refine LeO.bind ?_ (fun _ => ?_))
   | exact ih0 _ _ _ _
   | exact ih1 _ _ _ _ _
   | exact spec_AreDepots.mono _ _
   | exact spec_l27Close.mono _ _ _ _ _ _ _ _
   | exact LeO.none _
   | refine LeO.ite ?_ ?_
   | refine LeO.bind ?_ (fun _ => ?_)
def spec_TooClose.T13 : Bool × List (List Nat × List Nat) := (true, [([], []), ([], []), ([0, 1], [0, 1]), ([2], [2]), ([], []), ([], []), ([4, 5], [4, 5]), ([6], [6]), ([], []), ([3, 7, 8], [3, 7, 8])])
def spec_TooClose.B13 : List Nat := [0, 0, 3, 7, 0, 0, 48, 112, 0, 511]
theorem spec_TooClose.tab13 : rtab .any (opsOf Try.f44 13) = spec_TooClose.T13 := by kernel_rfl
theorem spec_TooClose.bits13 : waitsOk spec_TooClose.T13.2 spec_TooClose.B13 = true := by kernel_rfl
set_option maxHeartbeats 8000000 in
set_option maxRecDepth 100000 in
theorem spec_TooClose.calls (k : Nat) (A0 : Option Addr) (c0 : Nat) (l0 : List (S51)) (a1 : Int) (r1 : List (List Int)) (r2 : Int) (w : World) (hr0 : Kd.C k51 w A0 l0.length l0) (hc0 : l0.length ≤ c0) (h : spec_TooClose.f k l0 a1 = some (r1, r2)) :
  Calls Try.prog 44 #[.slice A0 l0.length c0, .int .i64 a1] w fun e w' => ∃ v0_ : Value, e = .returned (.tuple #[v0_, .int .i64 r2]) ∧ Kd.S (Kd.slice 2 (Kd.int .i64)) 59 w' w.heap.size (fun _ => True) v0_ r1 ∧ Below w.heap.size w w' := by
 have hu51 := Try.underlying51
 have HR0 := jA hr0
 have HC0 := jA hc0
 clear hr0 hc0
 have HB := jA (Below.refl w.heap.size w)
 have H : ((spec_AreDepots.f k l0).bind fun t155 => (if t155 = true then ((spec_l27Code.f a1 0).bind fun t156 => (if t156 = 0 then (spec_TooClose.l0 k l0 a1 (([] : List (List Int))) 0) else (some (([] : List (List Int)), t156)))) else (some (([] : List (List Int)), 1)))) = some (r1, r2) := h
 clear h
 replace H := jD.mp H
 obtain ⟨t155, A30, H⟩ := H
 replace H : (if t155 = true then ((spec_l27Code.f a1 0).bind fun t156 => (if t156 = 0 then (spec_TooClose.l0 k l0 a1 (([] : List (List Int))) 0) else (some (([] : List (List Int)), t156)))) else (some (([] : List (List Int)), 1))) = some (r1, r2) := H
 have A3 := jA A30
 clear A30
 by_cases c4 : t155 = true
 ·subst c4
  have H1 : ((spec_l27Code.f a1 0).bind fun t156 => (if t156 = 0 then (spec_TooClose.l0 k l0 a1 (([] : List (List Int))) 0) else (some (([] : List (List Int)), t156)))) = some (r1, r2) := by rw [if_pos rfl] at H; exact H
  clear H
  have H := H1
  clear H1
  replace H := jD.mp H
  obtain ⟨t156, A50, H⟩ := H
  replace H : (if t156 = 0 then (spec_TooClose.l0 k l0 a1 (([] : List (List Int))) 0) else (some (([] : List (List Int)), t156))) = some (r1, r2) := H
  have A5 := jA A50
  clear A50
  by_cases c6 : t156 = 0
  ·rw [if_pos c6] at H
   have c6b0 : (t156 == 0) = true := beq_iff_eq.mpr c6
   have c6b1 : (t156 != 0) = false := bne_eq_false_iff_eq.mpr c6
   clear c6
   obtain ⟨y157, hy157⟩ : ∃ y_ : List (List Int), y_ = (([] : List (List Int))) := ⟨_, rfl⟩
   replace H : (spec_TooClose.l0 k l0 a1 y157 0) = some (r1, r2) := by first | (rw [hy157]; with_reducible exact H) | (have H2_ := (Option.bind_some _ _).symm.trans H; rw [hy157]; with_reducible exact H2_) | (have H2_ := (Option.bind_some _ _).symm.trans H; with_reducible exact H2_) | with_reducible exact H | (rw [hy157]; exact H) | exact H
   have Ny157 := jA hy157
   clear hy157
   have H' := jA H
   clear H
   go_enter Try.func44, Try.ntmps44
   go_wp2_with (first | ((with_reducible refine jH (f := 20) rfl ?_); refine goesL_ (some 11) rfl rfl Try.func20 zr rfl #[.slice A0 l0.length c0] rfl zm ?_; (with_reducible refine (spec_AreDepots.calls k _ _ l0 true _ ?side1 ?side2 A3.out).mono ?_); (case side1 => repeat (first | exact HR0.out | (with_reducible refine jO ?_ _) | (with_reducible refine jN ?_ _) | (with_reducible refine jS ?_))); (case side2 => exact HC0.out); rintro e w' ⟨rfl, ⟨nd, rfl⟩⟩; refine ⟨_, rfl, ?_⟩) | ((with_reducible refine jH (f := 53) rfl ?_); refine goesL_ (some 14) rfl rfl Try.func53 zr rfl #[.int .i64 a1, .int .i64 0] rfl zm ?_; (with_reducible refine (spec_l27Code.calls a1 0 t156 _ A5.out).mono ?_); rintro e w' ⟨rfl, ⟨nd, rfl⟩⟩; refine ⟨_, rfl, ?_⟩) | ((with_reducible refine gate_dst (N := 18) rfl ?_); refine Kd.S_lit (Kd.slice 2 (Kd.int .i64)) _ 59 ?hg (N := 18) ?hd (xs := ([] : List (List Int))) (inner := []) (ok := fun _ => True) (okp := fun _ => True) ?hr ?hp (fun _ hk => hk) trivial (Below.refl _ _) (Nat.le_refl _) (by simp) ?_; (case hd => rfl); (case hg => rfl); (case hr => first | (go_simp; done) | (go_simp; rfl)); (case hp => exact (Reps.none _ _)); intro v158 w7 ho8 hb hg_ hnew_; clear hg_ hnew_; (first | rw [← Ny157.out] at ho8 | (simp only [Int.reduceToNat] at ho8; rw [← Ny157.out] at ho8)); have n0_ := jA (Kd.S_lower ho8 (jW (zb0 HB))); have n1_ := jA (jT (zb0 HB) hb); clear HB; have HO159 := n0_; have HB := n1_; clear n0_ n1_; clear hb ho8))
   go_loopg [7, 8] k (fun kq v7 v8 w' => ∃ (x7_1 : List (List Int)) (x8_1 : Int), v8 = .int .i64 x8_1 ∧ Aside0 (spec_TooClose.l0 kq l0 a1 x7_1 x8_1 = some (r1, r2)) ∧ Aside0 (kq ≤ k) ∧ Aside0 (Kd.S (Kd.slice 2 (Kd.int .i64)) 59 w' w.heap.size (fun _ => True) v7 x7_1) ∧ Aside0 (Below w.heap.size w w'))
   case atStart => exact ⟨(y157), (0), zz, H', ⟨Nat.le_refl _⟩, ⟨by (with_reducible repeat (first | apply Kd.S_alloc | apply Kd.S_drewN | apply Kd.S_drew)); exact HO159.out⟩, ⟨zb0 HB⟩⟩
   case round =>
    clear H'
    try clear c2
    try clear p2
    try clear c4
    try clear c5
    try clear c6
    try clear c6b0
    try clear c6b1
    obtain ⟨x7_1, x8_1, rfl, HA, HK1, HO_7, HB⟩ := hrel
    cases gk with
    | zero => exact absurd HA.out (by simp [spec_TooClose.l0])
    | succ k1 =>
     have H := HA.out
     clear HA
     simp only [spec_TooClose.l0] at H
     by_cases c9 : x8_1 < (l0.length : Int)
     ·rw [if_pos c9] at H
      have c9b0 : decide (x8_1 < (l0.length : Int)) = true := jG c9
      clear c9
      have H' := jA H
      clear H
      go_wp2
      go_loopg [7, 9] k1 (fun kq v7 v9 w' => ∃ (x7_2 : List (List Int)) (x9_2 : Int), v9 = .int .i64 x9_2 ∧ Aside0 (spec_TooClose.l1 kq l0 a1 x7_2 x8_1 x9_2 = some (r1, r2)) ∧ Aside0 (kq ≤ k1) ∧ Aside0 (Kd.S (Kd.slice 2 (Kd.int .i64)) 59 w' w.heap.size (fun _ => True) v7 x7_2) ∧ Aside0 (Below w.heap.size w w'))
      case atStart => exact ⟨(x7_1), (wrap64 (x8_1 + 1)), zz, H', ⟨Nat.le_refl _⟩, ⟨by (with_reducible repeat (first | apply Kd.S_alloc | apply Kd.S_drewN | apply Kd.S_drew)); exact HO_7.out⟩, ⟨zb0 HB⟩⟩
      case round =>
       clear H'
       try clear c2
       try clear p2
       try clear c4
       try clear c5
       try clear c6
       try clear c6b0
       try clear c6b1
       try clear p6
       try clear c9
       try clear c9b0
       try clear p2
       obtain ⟨x7_2, x9_2, rfl, HA, HK2, HO_7, HB⟩ := hrel
       cases gk with
       | zero => exact absurd HA.out (by simp [spec_TooClose.l1])
       | succ k2 =>
        have H := HA.out
        clear HA
        simp only [spec_TooClose.l1] at H
        by_cases c10 : x9_2 < (l0.length : Int)
        ·rw [if_pos c10] at H
         have c10b0 : decide (x9_2 < (l0.length : Int)) = true := jG c10
         clear c10
         by_cases c11 : 0 ≤ x8_1
         ·rw [if_pos c11] at H
          have c11b0 : decide (0 ≤ x8_1) = true := jG c11
          clear c11
          by_cases c12 : x8_1 < (l0.length : Int)
          ·rw [if_pos c12] at H
           have c12b0 : decide (x8_1 < (l0.length : Int)) = true := jG c12
           clear c12
           by_cases c13 : 0 ≤ x9_2
           ·rw [if_pos c13] at H
            have c13b0 : decide (0 ≤ x9_2) = true := jG c13
            clear c13
            replace H := jD.mp H
            obtain ⟨t162, A140, H⟩ := H
            replace H : (if t162 = true then (if x7_2.length < 5864062014805 then (spec_TooClose.l1 k2 l0 a1 (x7_2 ++ [(([x8_1, x9_2] : List Int))]) x8_1 (wrap64 (x9_2 + 1))) else (none)) else (spec_TooClose.l1 k2 l0 a1 x7_2 x8_1 (wrap64 (x9_2 + 1)))) = some (r1, r2) := H
            have A14 := jA A140
            clear A140
            by_cases c15 : t162 = true
            ·subst c15
             have H1 : (if x7_2.length < 5864062014805 then (spec_TooClose.l1 k2 l0 a1 (x7_2 ++ [(([x8_1, x9_2] : List Int))]) x8_1 (wrap64 (x9_2 + 1))) else (none)) = some (r1, r2) := by rw [if_pos rfl] at H; exact H
             clear H
             have H := H1
             clear H1
             obtain ⟨y163, hy163⟩ : ∃ y_ : List Int, y_ = (([x8_1, x9_2] : List Int)) := ⟨_, rfl⟩
             replace H : (if x7_2.length < 5864062014805 then (spec_TooClose.l1 k2 l0 a1 (x7_2 ++ [y163]) x8_1 (wrap64 (x9_2 + 1))) else (none)) = some (r1, r2) := by first | (rw [hy163]; with_reducible exact H) | (have H2_ := (Option.bind_some _ _).symm.trans H; rw [hy163]; with_reducible exact H2_) | (have H2_ := (Option.bind_some _ _).symm.trans H; with_reducible exact H2_) | with_reducible exact H | (rw [hy163]; exact H) | exact H
             have Ny163 := jA hy163
             clear hy163
             by_cases c16 : x7_2.length < 5864062014805
             ·rw [if_pos c16] at H
              have LMc16 := jA c16
              clear c16
              obtain ⟨y166, hy166⟩ : ∃ y_ : List (List Int), y_ = (x7_2 ++ [y163]) := ⟨_, rfl⟩
              replace H : (spec_TooClose.l1 k2 l0 a1 y166 x8_1 (wrap64 (x9_2 + 1))) = some (r1, r2) := by first | (rw [hy166]; with_reducible exact H) | (have H2_ := (Option.bind_some _ _).symm.trans H; rw [hy166]; with_reducible exact H2_) | (have H2_ := (Option.bind_some _ _).symm.trans H; with_reducible exact H2_) | with_reducible exact H | (rw [hy166]; exact H) | exact H
              have Ny166 := jA hy166
              clear hy166
              have H' := jA H
              clear H
              try go_wp2
              have n0_ := jA (Kd.S_drew HO_7.out)
              have n1_ := jA (jL HB.out)
              clear HO_7
              clear HB
              have HO_7 := n0_
              have HB := n1_
              clear n0_ n1_
              have p160 : 0 ≤ (x8_1 : Int) := jB za
              have q160 : x8_1 < (l0.length : Int) := jB za
              obtain ⟨ad160, e160, hx160_0, hx160_1, hx160_2⟩ := at_T51 HR0.out x8_1 p160 q160
              have hw160_2 := hx160_2
              have hw160_1 := hx160_1
              have hw160_0 := hx160_0
              cases e160
              replace hx160_0 := (HB.out.cell (jC w _ hx160_0)).trans hx160_0
              replace hx160_1 := (HB.out.cell (jC w _ hx160_1)).trans hx160_1
              replace hx160_2 := (HB.out.cell (jC w _ hx160_2)).trans hx160_2
              replace p160 := eq_true p160
              replace q160 := eq_true q160
              have p161 : 0 ≤ (x9_2 : Int) := jB za
              have q161 : x9_2 < (l0.length : Int) := jB za
              obtain ⟨ad161, e161, hx161_0, hx161_1, hx161_2⟩ := at_T51 HR0.out x9_2 p161 q161
              have hw161_2 := hx161_2
              have hw161_1 := hx161_1
              have hw161_0 := hx161_0
              obtain rfl : ad160 = ad161 := (by injection e161)
              replace hx161_0 := (HB.out.cell (jC w _ hx161_0)).trans hx161_0
              replace hx161_1 := (HB.out.cell (jC w _ hx161_1)).trans hx161_1
              replace hx161_2 := (HB.out.cell (jC w _ hx161_2)).trans hx161_2
              replace p161 := eq_true p161
              replace q161 := eq_true q161
              refine start_ (n := 10) (S := fun w' => w'.cell? (ad160.add ((x8_1).toNat * 3)) = some (.int .i64 ((rd_T51 l0 x8_1).f0)) ∧ w'.cell? ⟨(ad160.add ((x8_1).toNat * 3)).block, (ad160.add ((x8_1).toNat * 3)).off + 1, none⟩ = some (.int .i64 ((rd_T51 l0 x8_1).f1)) ∧ w'.cell? ⟨(ad160.add ((x8_1).toNat * 3)).block, (ad160.add ((x8_1).toNat * 3)).off + 2, none⟩ = some (.int .i64 ((rd_T51 l0 x8_1).f2)) ∧ w'.cell? (ad160.add ((x9_2).toNat * 3)) = some (.int .i64 ((rd_T51 l0 x9_2).f0)) ∧ w'.cell? ⟨(ad160.add ((x9_2).toNat * 3)).block, (ad160.add ((x9_2).toNat * 3)).off + 1, none⟩ = some (.int .i64 ((rd_T51 l0 x9_2).f1)) ∧ w'.cell? ⟨(ad160.add ((x9_2).toNat * 3)).block, (ad160.add ((x9_2).toNat * 3)).off + 2, none⟩ = some (.int .i64 ((rd_T51 l0 x9_2).f2))) (ds := []) m10_0 zr rfl rfl ⟨((HB.out.cell (jC w _ hw160_0)).trans hw160_0), ((HB.out.cell (jC w _ hw160_1)).trans hw160_1), ((HB.out.cell (jC w _ hw160_2)).trans hw160_2), ((HB.out.cell (jC w _ hw161_0)).trans hw161_0), ((HB.out.cell (jC w _ hw161_1)).trans hw161_1), ((HB.out.cell (jC w _ hw161_2)).trans hw161_2)⟩ (fun hHeld => ?_); refine with_tabW spec_TooClose.tab13 spec_TooClose.bits13 (fun HT_ HW_ => ?_)
              generalize wr.drew = w17 at HO_7 HB hx160_0 hx160_1 hx160_2 hx161_0 hx161_1 hx161_2 hHeld ⊢
              refine zp HT_ 0 33 m10_200 ?_
              refine zp HT_ 1 34 m10_300 ?_
              refine zp HT_ 2 35 m10_380 ?_
              refine zp HT_ 4 37 m10_3a0 ?_
              refine zp HT_ 5 38 m10_3b0 ?_
              refine zp HT_ 6 39 m10_3b8 ?_
              refine zp HT_ 8 41 m10_3ba ?_
              refine zt6 HT_ HW_ hHeld 3 36 m10_3fa ?_
              refine zt6 HT_ HW_ hHeld 7 40 m10_3fe ?_
              refine one_ (i := 9) (N := some 42) m10_3ff rfl rfl (one_of HT_.out zr) (by decide) (fun K hK => ?_)
              refine goes_ Try.func78 zr rfl #[.agg #[.int .i64 ((rd_T51 l0 x8_1).f0), .int .i64 ((rd_T51 l0 x8_1).f1), .int .i64 ((rd_T51 l0 x8_1).f2)], .agg #[.int .i64 ((rd_T51 l0 x9_2).f0), .int .i64 ((rd_T51 l0 x9_2).f1), .int .i64 ((rd_T51 l0 x9_2).f2)], .int .i64 a1] (by rfl) rfl rfl zm ?_
              with_reducible refine (spec_l27Close.calls k2 ((rd_T51 l0 x8_1).f0) ((rd_T51 l0 x8_1).f1) ((rd_T51 l0 x8_1).f2) ((rd_T51 l0 x9_2).f0) ((rd_T51 l0 x9_2).f1) ((rd_T51 l0 x9_2).f2) a1 true _ A14.out).mono ?_
              rintro e w18 ⟨rfl, hb⟩
              refine ⟨_, rfl, ?_⟩
              have n0_ := jA (Kd.S_below (by (with_reducible repeat (first | apply Kd.S_alloc | apply Kd.S_drewN | apply Kd.S_drew)); exact HO_7.out) hb)
              have n1_ := jA (jT (zb0 HB) hb)
              clear HO_7
              clear HB
              have HO_7 := n0_
              have HB := n1_
              clear n0_ n1_
              (try clear hb)
              (try clear hb2)
              (try clear hk)
              (try clear hi)
              refine hK.out _ _ ⟨((HB.out.cell (jC w _ hw160_0)).trans hw160_0), ((HB.out.cell (jC w _ hw160_1)).trans hw160_1), ((HB.out.cell (jC w _ hw160_2)).trans hw160_2), ((HB.out.cell (jC w _ hw161_0)).trans hw161_0), ((HB.out.cell (jC w _ hw161_1)).trans hw161_1), ((HB.out.cell (jC w _ hw161_2)).trans hw161_2)⟩ (fun hHeld => ?_)
              clear hK K
              refine norm_ (a' := ?_) ?_ ?_
              rotate_left
              ·show Act.put _ (some 42) _ = _
               simp only [Act.put, jE, jI, jJ, i64_w, i32_w]
               rfl
              refine done_ (done_of HT_.out zr) ?_
              try go_wp2_with (first | ((with_reducible refine gate_dst (N := 46) rfl ?_); refine Kd.R_lit (Kd.int .i64) _ 2 ?hg (N := 46) ?hd (xs := ([x8_1, x9_2] : List Int)) (inner := [.int .i64 x8_1, .int .i64 x9_2]) (ok := fun _ => True) (okp := fun _ => True) ?hr ?hp (fun _ hk => hk) trivial (Below.refl _ _) (Nat.le_refl _) (by simp) ?_; (case hd => rfl); (case hg => rfl); (case hr => first | (go_simp; done) | (go_simp; rfl)); (case hp => exact (Reps.one (show Kd.M (Kd.int .i64) _ _ _ x8_1 [.int .i64 x8_1] from rfl) (Reps.one (show Kd.M (Kd.int .i64) _ _ _ x9_2 [.int .i64 x9_2] from rfl) (Reps.none _ _)))); intro v164 w19 ho20 hb hg_ hnew_; clear hg_ hnew_; (first | rw [← Ny163.out] at ho20 | (simp only [Int.reduceToNat] at ho20; rw [← Ny163.out] at ho20)); have n0_ := jA (Kd.S_elder' (by (with_reducible repeat (first | apply Kd.S_alloc | apply Kd.S_drewN | apply Kd.S_drew)); exact HO_7.out) (Kd.R_base ho20) hb); have n1_ := jA (Kd.R_lower ho20 (jW (zb0 HB))); have n2_ := jA (jT (zb0 HB) hb); clear HO_7; clear HB; have HO_7 := n0_; have HO165 := n1_; have HB := n2_; clear n0_ n1_ n2_; clear hb ho20; obtain ⟨Ao22, co22, eo22⟩ := Kd.R_slice HO165.out; subst eo22) | ((with_reducible refine gate_builtin (b := .append) (xs := #[.tmp 43, .tmp 47]) rfl ?_); at_builtin; refine Kd.S_append (Kd.slice 2 (Kd.int .i64)) (w0 := w) w.heap.size rfl (.tmp 43) (.tmp 47) 53 59 (.slice none 0 0) 24 rfl Try.underlying53 info59 rfl (by decide) (by omega) u7 x7_2 y163 [.slice Ao22 y163.length co22] (fun _ => True) (fun k_ => some k_ = (.slice Ao22 y163.length co22 : Value).ownBlock) rfl rfl ?aP (fun k_ hk_ => ((Kd.R_mono (ok' := fun k_ => ((fun _ => True)) k_ ∧ some k_ ≠ (u7 : Value).ownBlock) (Kd.R_apart' (HO165.out) (Kd.S_typed HO_7.out) (by decide)) (fun k_ hk => ⟨trivial, hk.2⟩))).1 k_ hk_.symm) ?aF ?aO ?aB ?aS ?aL ?_; (case aP => exact Kd.M_row (Kd.R_mono (Kd.R_tight rfl (Kd.R_mono (ok' := fun k_ => ((fun _ => True)) k_ ∧ some k_ ≠ (u7 : Value).ownBlock) (Kd.R_apart' (HO165.out) (Kd.S_typed HO_7.out) (by decide)) (fun k_ hk => ⟨trivial, hk.2⟩))) (fun _ h_ => h_))); (case aB => exact (zb0 HB)); (case aF => exact (fun _ _ => trivial)); (case aO => exact (by (with_reducible repeat (first | apply Kd.S_alloc | apply Kd.S_drewN | apply Kd.S_drew)); exact Kd.S_mono HO_7.out (fun k_ hk => ⟨trivial, fun e_ => hk.2 e_⟩))); (case aS => exact (jW (zb0 HB))); (case aL => have := LMc16.out; omega); intro v167 w21 ho hb hg hat; rw [← Ny166.out] at ho; have n0_ := jA (hb); have n1_ := jA (ho); clear HB; clear HO_7; clear HO165; have HB := n0_; have HO168 := n1_; clear n0_ n1_; clear ho hb hg hat))
              go_roundg k2
              case measure => have := HK1.out; have := HK2.out; omega
              case rel => exact ⟨(y166), (wrap64 (x9_2 + 1)), zz, H', ⟨by have := HK1.out; have := HK2.out; omega⟩, ⟨by (with_reducible repeat (first | apply Kd.S_alloc | apply Kd.S_drewN | apply Kd.S_drew)); exact HO168.out⟩, ⟨zb0 HB⟩⟩
             ·rw [if_neg c16] at H
              exact absurd H (by simp)
            ·replace c15 := Bool.eq_false_iff.mpr c15
             subst c15
             have H1 : (spec_TooClose.l1 k2 l0 a1 x7_2 x8_1 (wrap64 (x9_2 + 1))) = some (r1, r2) := by rw [if_neg (show ¬ (false = true) by decide)] at H; exact H
             clear H
             have H := H1
             clear H1
             have H' := jA H
             clear H
             try go_wp2
             have n0_ := jA (Kd.S_drew HO_7.out)
             have n1_ := jA (jL HB.out)
             clear HO_7
             clear HB
             have HO_7 := n0_
             have HB := n1_
             clear n0_ n1_
             have p160 : 0 ≤ (x8_1 : Int) := jB za
             have q160 : x8_1 < (l0.length : Int) := jB za
             obtain ⟨ad160, e160, hx160_0, hx160_1, hx160_2⟩ := at_T51 HR0.out x8_1 p160 q160
             have hw160_2 := hx160_2
             have hw160_1 := hx160_1
             have hw160_0 := hx160_0
             cases e160
             replace hx160_0 := (HB.out.cell (jC w _ hx160_0)).trans hx160_0
             replace hx160_1 := (HB.out.cell (jC w _ hx160_1)).trans hx160_1
             replace hx160_2 := (HB.out.cell (jC w _ hx160_2)).trans hx160_2
             replace p160 := eq_true p160
             replace q160 := eq_true q160
             have p161 : 0 ≤ (x9_2 : Int) := jB za
             have q161 : x9_2 < (l0.length : Int) := jB za
             obtain ⟨ad161, e161, hx161_0, hx161_1, hx161_2⟩ := at_T51 HR0.out x9_2 p161 q161
             have hw161_2 := hx161_2
             have hw161_1 := hx161_1
             have hw161_0 := hx161_0
             obtain rfl : ad160 = ad161 := (by injection e161)
             replace hx161_0 := (HB.out.cell (jC w _ hx161_0)).trans hx161_0
             replace hx161_1 := (HB.out.cell (jC w _ hx161_1)).trans hx161_1
             replace hx161_2 := (HB.out.cell (jC w _ hx161_2)).trans hx161_2
             replace p161 := eq_true p161
             replace q161 := eq_true q161
             refine start_ (n := 10) (S := fun w' => w'.cell? (ad160.add ((x8_1).toNat * 3)) = some (.int .i64 ((rd_T51 l0 x8_1).f0)) ∧ w'.cell? ⟨(ad160.add ((x8_1).toNat * 3)).block, (ad160.add ((x8_1).toNat * 3)).off + 1, none⟩ = some (.int .i64 ((rd_T51 l0 x8_1).f1)) ∧ w'.cell? ⟨(ad160.add ((x8_1).toNat * 3)).block, (ad160.add ((x8_1).toNat * 3)).off + 2, none⟩ = some (.int .i64 ((rd_T51 l0 x8_1).f2)) ∧ w'.cell? (ad160.add ((x9_2).toNat * 3)) = some (.int .i64 ((rd_T51 l0 x9_2).f0)) ∧ w'.cell? ⟨(ad160.add ((x9_2).toNat * 3)).block, (ad160.add ((x9_2).toNat * 3)).off + 1, none⟩ = some (.int .i64 ((rd_T51 l0 x9_2).f1)) ∧ w'.cell? ⟨(ad160.add ((x9_2).toNat * 3)).block, (ad160.add ((x9_2).toNat * 3)).off + 2, none⟩ = some (.int .i64 ((rd_T51 l0 x9_2).f2))) (ds := []) m10_0 zr rfl rfl ⟨((HB.out.cell (jC w _ hw160_0)).trans hw160_0), ((HB.out.cell (jC w _ hw160_1)).trans hw160_1), ((HB.out.cell (jC w _ hw160_2)).trans hw160_2), ((HB.out.cell (jC w _ hw161_0)).trans hw161_0), ((HB.out.cell (jC w _ hw161_1)).trans hw161_1), ((HB.out.cell (jC w _ hw161_2)).trans hw161_2)⟩ (fun hHeld => ?_); refine with_tabW spec_TooClose.tab13 spec_TooClose.bits13 (fun HT_ HW_ => ?_)
             generalize wr.drew = w23 at HO_7 HB hx160_0 hx160_1 hx160_2 hx161_0 hx161_1 hx161_2 hHeld ⊢
             refine zp HT_ 0 33 m10_200 ?_
             refine zp HT_ 1 34 m10_300 ?_
             refine zp HT_ 2 35 m10_380 ?_
             refine zp HT_ 4 37 m10_3a0 ?_
             refine zp HT_ 5 38 m10_3b0 ?_
             refine zp HT_ 6 39 m10_3b8 ?_
             refine zp HT_ 8 41 m10_3ba ?_
             refine zt6 HT_ HW_ hHeld 3 36 m10_3fa ?_
             refine zt6 HT_ HW_ hHeld 7 40 m10_3fe ?_
             refine one_ (i := 9) (N := some 42) m10_3ff rfl rfl (one_of HT_.out zr) (by decide) (fun K hK => ?_)
             refine goes_ Try.func78 zr rfl #[.agg #[.int .i64 ((rd_T51 l0 x8_1).f0), .int .i64 ((rd_T51 l0 x8_1).f1), .int .i64 ((rd_T51 l0 x8_1).f2)], .agg #[.int .i64 ((rd_T51 l0 x9_2).f0), .int .i64 ((rd_T51 l0 x9_2).f1), .int .i64 ((rd_T51 l0 x9_2).f2)], .int .i64 a1] (by rfl) rfl rfl zm ?_
             with_reducible refine (spec_l27Close.calls k2 ((rd_T51 l0 x8_1).f0) ((rd_T51 l0 x8_1).f1) ((rd_T51 l0 x8_1).f2) ((rd_T51 l0 x9_2).f0) ((rd_T51 l0 x9_2).f1) ((rd_T51 l0 x9_2).f2) a1 false _ A14.out).mono ?_
             rintro e w24 ⟨rfl, hb⟩
             refine ⟨_, rfl, ?_⟩
             have n0_ := jA (Kd.S_below (by (with_reducible repeat (first | apply Kd.S_alloc | apply Kd.S_drewN | apply Kd.S_drew)); exact HO_7.out) hb)
             have n1_ := jA (jT (zb0 HB) hb)
             clear HO_7
             clear HB
             have HO_7 := n0_
             have HB := n1_
             clear n0_ n1_
             (try clear hb)
             (try clear hb2)
             (try clear hk)
             (try clear hi)
             refine hK.out _ _ ⟨((HB.out.cell (jC w _ hw160_0)).trans hw160_0), ((HB.out.cell (jC w _ hw160_1)).trans hw160_1), ((HB.out.cell (jC w _ hw160_2)).trans hw160_2), ((HB.out.cell (jC w _ hw161_0)).trans hw161_0), ((HB.out.cell (jC w _ hw161_1)).trans hw161_1), ((HB.out.cell (jC w _ hw161_2)).trans hw161_2)⟩ (fun hHeld => ?_)
             clear hK K
             refine norm_ (a' := ?_) ?_ ?_
             rotate_left
             ·show Act.put _ (some 42) _ = _
              simp only [Act.put, jE, jI, jJ, i64_w, i32_w]
              rfl
             refine done_ (done_of HT_.out zr) ?_
             try go_wp2
             go_roundg k2
             case measure => have := HK1.out; have := HK2.out; omega
             case rel => exact ⟨(x7_2), (wrap64 (x9_2 + 1)), zz, H', ⟨by have := HK1.out; have := HK2.out; omega⟩, ⟨by (with_reducible repeat (first | apply Kd.S_alloc | apply Kd.S_drewN | apply Kd.S_drew)); exact HO_7.out⟩, ⟨zb0 HB⟩⟩
           ·rw [if_neg c13] at H
            exact absurd H (by simp)
          ·rw [if_neg c12] at H
           exact absurd H (by simp)
         ·rw [if_neg c11] at H
          exact absurd H (by simp)
        ·rw [if_neg c10] at H
         have c10b0 : decide (x9_2 < (l0.length : Int)) = false := jb c10
         clear c10
         have H' := jA H
         clear H
         go_wp2
         go_roundg k2
         case measure => have := HK1.out; have := HK2.out; omega
         case rel => exact ⟨(x7_2), (wrap64 (x8_1 + 1)), zz, H', ⟨by have := HK1.out; have := HK2.out; omega⟩, ⟨by (with_reducible repeat (first | apply Kd.S_alloc | apply Kd.S_drewN | apply Kd.S_drew)); exact HO_7.out⟩, ⟨zb0 HB⟩⟩
     ·rw [if_neg c9] at H
      have c9b0 : decide (x8_1 < (l0.length : Int)) = false := jb c9
      clear c9
      simp only [jU, jY] at H
      obtain ⟨rfl, rfl⟩ := H
      go_wp2
      go_ret2
      exact ⟨_, by first | rfl | (simp [errW_none, errW_some] <;> rfl) | (simp [*, errW_none, errW_some] <;> rfl), by (with_reducible repeat (first | apply Kd.S_alloc | apply Kd.S_drewN | apply Kd.S_drew)); exact HO_7.out, zb0 HB⟩
  ·rw [if_neg c6] at H
   have c6b0 : (t156 == 0) = false := beq_eq_false_iff_ne.mpr c6
   have c6b1 : (t156 != 0) = true := bne_iff_ne.mpr c6
   simp only [jU, jY] at H
   obtain ⟨rfl, rfl⟩ := H
   go_enter Try.func44, Try.ntmps44
   go_wp2_with (first | ((with_reducible refine jH (f := 20) rfl ?_); refine goesL_ (some 11) rfl rfl Try.func20 zr rfl #[.slice A0 l0.length c0] rfl zm ?_; (with_reducible refine (spec_AreDepots.calls k _ _ l0 true _ ?side1 ?side2 A3.out).mono ?_); (case side1 => repeat (first | exact HR0.out | (with_reducible refine jO ?_ _) | (with_reducible refine jN ?_ _) | (with_reducible refine jS ?_))); (case side2 => exact HC0.out); rintro e w' ⟨rfl, ⟨nd, rfl⟩⟩; refine ⟨_, rfl, ?_⟩) | ((with_reducible refine jH (f := 53) rfl ?_); refine goesL_ (some 14) rfl rfl Try.func53 zr rfl #[.int .i64 a1, .int .i64 0] rfl zm ?_; (with_reducible refine (spec_l27Code.calls a1 0 t156 _ A5.out).mono ?_); rintro e w' ⟨rfl, ⟨nd, rfl⟩⟩; refine ⟨_, rfl, ?_⟩))
   go_ret2
   exact ⟨_, by first | rfl | (simp [errW_none, errW_some] <;> rfl) | (simp [*, errW_none, errW_some] <;> rfl), by first | exact Kd.S_nil _ _ _ _ _ | exact Kd.N_nil _ _ _ _ _ | exact Kd.V_nil _ _ _ _ _ | exact Kd.Q_nil _ _ _ _ _ | exact Kd.R_nil _ _ _ _ _, zb0 HB⟩
 ·replace c4 := Bool.eq_false_iff.mpr c4
  subst c4
  have H1 : (some (([] : List (List Int)), 1)) = some (r1, r2) := by rw [if_neg (show ¬ (false = true) by decide)] at H; exact H
  clear H
  have H := H1
  clear H1
  simp only [jU, jY] at H
  obtain ⟨rfl, rfl⟩ := H
  go_enter Try.func44, Try.ntmps44
  go_wp2_with (first | ((with_reducible refine jH (f := 20) rfl ?_); refine goesL_ (some 11) rfl rfl Try.func20 zr rfl #[.slice A0 l0.length c0] rfl zm ?_; (with_reducible refine (spec_AreDepots.calls k _ _ l0 false _ ?side1 ?side2 A3.out).mono ?_); (case side1 => repeat (first | exact HR0.out | (with_reducible refine jO ?_ _) | (with_reducible refine jN ?_ _) | (with_reducible refine jS ?_))); (case side2 => exact HC0.out); rintro e w' ⟨rfl, ⟨nd, rfl⟩⟩; refine ⟨_, rfl, ?_⟩))
  go_ret2
  exact ⟨_, by first | rfl | (simp [errW_none, errW_some] <;> rfl) | (simp [*, errW_none, errW_some] <;> rfl), by first | exact Kd.S_nil _ _ _ _ _ | exact Kd.N_nil _ _ _ _ _ | exact Kd.V_nil _ _ _ _ _ | exact Kd.Q_nil _ _ _ _ _ | exact Kd.R_nil _ _ _ _ _, zb0 HB⟩

/-! ### spec_GreatestFactor: function 40 -/
def spec_GreatestFactor.l0 : Nat → List (S51) → Int → Option (Int × Int)
 | 0, _, _ => none
 | k + 1, x0, x4 => if x4 > 0 then ((spec_TooClose.f k x0 x4).bind fun bt170 => (if (bt170.1.length : Int) = 0 then (some (x4, 0)) else (spec_GreatestFactor.l0 k x0 (wrap64 (x4 - 1))))) else (some (0, 0))
def spec_GreatestFactor.f (k : Nat) (l0 : List (S51)) : Option (Int × Int) := (spec_AreDepots.f k l0).bind fun t169 => (if t169 = true then (spec_GreatestFactor.l0 k l0 500) else (some (0, 1)))
theorem spec_GreatestFactor.mono_l : ∀ k, (∀ y0 y1, LeO (spec_GreatestFactor.l0 k y0 y1) (spec_GreatestFactor.l0 (k + 1) y0 y1))
 | 0 => fun _ _ r h => by simp [spec_GreatestFactor.l0] at h
 | k + 1 => by
  have ih0 := spec_GreatestFactor.mono_l k
  ·intro y0 y1
   unfold spec_GreatestFactor.l0
   repeat' first
   | (with_reducible exact ih0 _ _)
   | (with_reducible exact spec_AreDepots.mono _ _)
   | (with_reducible exact spec_TooClose.mono _ _ _)
   | (with_reducible exact LeO.refl _)
   | (with_reducible exact LeO.none _)
   | (with_reducible refine LeO.ite ?_ ?_)
   | (with_reducible refine LeO.bind ?_ (fun _ => ?_))
   | exact ih0 _ _
   | exact spec_AreDepots.mono _ _
   | exact spec_TooClose.mono _ _ _
   | exact LeO.none _
   | refine LeO.ite ?_ ?_
   | refine LeO.bind ?_ (fun _ => ?_)
theorem spec_GreatestFactor.mono : ∀ a0 k, LeO (spec_GreatestFactor.f k a0) (spec_GreatestFactor.f (k + 1) a0) := by
 intro a0 k
 have ih0 := spec_GreatestFactor.mono_l k
 unfold spec_GreatestFactor.f
 repeat' first
   | (with_reducible exact ih0 _ _)
   | (with_reducible exact spec_AreDepots.mono _ _)
   | (with_reducible exact spec_TooClose.mono _ _ _)
   | (with_reducible exact LeO.refl _)
   | (with_reducible exact LeO.none _)
   | (with_reducible refine LeO.ite ?_ ?_)
   | (with_reducible refine LeO.bind ?_ (fun _ => ?_))
   | exact ih0 _ _
   | exact spec_AreDepots.mono _ _
   | exact spec_TooClose.mono _ _ _
   | exact LeO.none _
   | refine LeO.ite ?_ ?_
   | refine LeO.bind ?_ (fun _ => ?_)
set_option maxHeartbeats 8000000 in
set_option maxRecDepth 100000 in
theorem spec_GreatestFactor.calls (k : Nat) (A0 : Option Addr) (c0 : Nat) (l0 : List (S51)) (r1 : Int) (r2 : Int) (w : World) (hr0 : Kd.C k51 w A0 l0.length l0) (hc0 : l0.length ≤ c0) (h : spec_GreatestFactor.f k l0 = some (r1, r2)) :
  Calls Try.prog 40 #[.slice A0 l0.length c0] w fun e w' => e = .returned (.tuple #[.int .i64 r1, .int .i64 r2]) ∧ Below w.heap.size w w' := by
 have HR0 := jA hr0
 have HC0 := jA hc0
 clear hr0 hc0
 have HB := jA (Below.refl w.heap.size w)
 have H : ((spec_AreDepots.f k l0).bind fun t169 => (if t169 = true then (spec_GreatestFactor.l0 k l0 500) else (some (0, 1)))) = some (r1, r2) := h
 clear h
 replace H := jD.mp H
 obtain ⟨t169, A20, H⟩ := H
 replace H : (if t169 = true then (spec_GreatestFactor.l0 k l0 500) else (some (0, 1))) = some (r1, r2) := H
 have A2 := jA A20
 clear A20
 by_cases c3 : t169 = true
 ·subst c3
  have H1 : (spec_GreatestFactor.l0 k l0 500) = some (r1, r2) := by rw [if_pos rfl] at H; exact H
  clear H
  have H := H1
  clear H1
  have H' := jA H
  clear H
  go_enter Try.func40, Try.ntmps40
  go_wp2_with (first | ((with_reducible refine jH (f := 20) rfl ?_); refine goesL_ (some 8) rfl rfl Try.func20 zr rfl #[.slice A0 l0.length c0] rfl zm ?_; (with_reducible refine (spec_AreDepots.calls k _ _ l0 true _ ?side1 ?side2 A2.out).mono ?_); (case side1 => repeat (first | exact HR0.out | (with_reducible refine jO ?_ _) | (with_reducible refine jN ?_ _) | (with_reducible refine jS ?_))); (case side2 => exact HC0.out); rintro e w' ⟨rfl, ⟨nd, rfl⟩⟩; refine ⟨_, rfl, ?_⟩))
  go_loopg [4] k (fun kq v4 w' => ∃ (x4_1 : Int), v4 = .int .i64 x4_1 ∧ Aside0 (spec_GreatestFactor.l0 kq l0 x4_1 = some (r1, r2)) ∧ Aside0 (kq ≤ k) ∧ Aside0 (Below w.heap.size w w'))
  case atStart => exact ⟨(500), zz, H', ⟨Nat.le_refl _⟩, ⟨zb0 HB⟩⟩
  case round =>
   clear H'
   try clear c2
   try clear p2
   try clear c3
   obtain ⟨x4_1, rfl, HA, HK1, HB⟩ := hrel
   cases gk with
   | zero => exact absurd HA.out (by simp [spec_GreatestFactor.l0])
   | succ k1 =>
    have H := HA.out
    clear HA
    simp only [spec_GreatestFactor.l0] at H
    by_cases c4 : x4_1 > 0
    ·rw [if_pos c4] at H
     have c4b0 : decide (0 < x4_1) = true := jG c4
     clear c4
     replace H := jD.mp H
     obtain ⟨⟨t170, t171⟩, A50, H⟩ := H
     replace H : (if (t170.length : Int) = 0 then (some (x4_1, 0)) else (spec_GreatestFactor.l0 k1 l0 (wrap64 (x4_1 - 1)))) = some (r1, r2) := H
     have A5 := jA A50
     clear A50
     by_cases c6 : (t170.length : Int) = 0
     ·rw [if_pos c6] at H
      have c6b0 : ((t170.length : Int) == 0) = true := beq_iff_eq.mpr c6
      have c6b1 : ((t170.length : Int) != 0) = false := bne_eq_false_iff_eq.mpr c6
      clear c6
      simp only [jU, jY] at H
      obtain ⟨rfl, rfl⟩ := H
      go_wp2_with (first | ((with_reducible refine jH (f := 44) rfl ?_); refine goesL_ (some 17) rfl rfl Try.func44 zr rfl #[.slice A0 l0.length c0, .int .i64 x4_1] rfl zm ?_; (with_reducible refine (spec_TooClose.calls k1 _ _ l0 x4_1 t170 t171 _ ?side1 ?side2 A5.out).mono ?_); (case side1 => exact zs HR0 HB); (case side2 => exact HC0.out); rintro e w7 ⟨v172, rfl, ho0, hb⟩; refine ⟨_, rfl, ?_⟩; have n0_ := jA (Kd.S_lower ho0 (jW (zb0 HB))); have n1_ := jA (jT (zb0 HB) hb); clear HB; have HO173 := n0_; have HB := n1_; clear n0_ n1_; (try clear hb); (try clear hb2); (try clear hk); (try clear hi); (try clear ho0); obtain ⟨Ao8, co8, eo8⟩ := Kd.S_slice HO173.out; subst eo8))
      go_ret2
      exact ⟨by first | rfl | (simp [errW_none, errW_some] <;> rfl) | (simp [*, errW_none, errW_some] <;> rfl), zb0 HB⟩
     ·rw [if_neg c6] at H
      have c6b0 : ((t170.length : Int) == 0) = false := beq_eq_false_iff_ne.mpr c6
      have c6b1 : ((t170.length : Int) != 0) = true := bne_iff_ne.mpr c6
      have c6b2 : ¬ (t170 = []) := fun h_ => c6 (by rw [h_]; rfl)
      have H' := jA H
      clear H
      go_wp2_with (first | ((with_reducible refine jH (f := 44) rfl ?_); refine goesL_ (some 17) rfl rfl Try.func44 zr rfl #[.slice A0 l0.length c0, .int .i64 x4_1] rfl zm ?_; (with_reducible refine (spec_TooClose.calls k1 _ _ l0 x4_1 t170 t171 _ ?side1 ?side2 A5.out).mono ?_); (case side1 => exact zs HR0 HB); (case side2 => exact HC0.out); rintro e w9 ⟨v172, rfl, ho0, hb⟩; refine ⟨_, rfl, ?_⟩; have n0_ := jA (Kd.S_lower ho0 (jW (zb0 HB))); have n1_ := jA (jT (zb0 HB) hb); clear HB; have HO173 := n0_; have HB := n1_; clear n0_ n1_; (try clear hb); (try clear hb2); (try clear hk); (try clear hi); (try clear ho0); obtain ⟨Ao10, co10, eo10⟩ := Kd.S_slice HO173.out; subst eo10))
      go_roundg k1
      case measure => have := HK1.out; omega
      case rel => exact ⟨(wrap64 (x4_1 - 1)), zz, H', ⟨by have := HK1.out; omega⟩, ⟨zb0 HB⟩⟩
    ·rw [if_neg c4] at H
     have c4b0 : decide (0 < x4_1) = false := jb c4
     clear c4
     simp only [jU, jY] at H
     obtain ⟨rfl, rfl⟩ := H
     go_wp2
     go_ret2
     exact ⟨by first | rfl | (simp [errW_none, errW_some] <;> rfl) | (simp [*, errW_none, errW_some] <;> rfl), zb0 HB⟩
 ·replace c3 := Bool.eq_false_iff.mpr c3
  subst c3
  have H1 : (some (0, 1)) = some (r1, r2) := by rw [if_neg (show ¬ (false = true) by decide)] at H; exact H
  clear H
  have H := H1
  clear H1
  simp only [jU, jY] at H
  obtain ⟨rfl, rfl⟩ := H
  go_enter Try.func40, Try.ntmps40
  go_wp2_with (first | ((with_reducible refine jH (f := 20) rfl ?_); refine goesL_ (some 8) rfl rfl Try.func20 zr rfl #[.slice A0 l0.length c0] rfl zm ?_; (with_reducible refine (spec_AreDepots.calls k _ _ l0 false _ ?side1 ?side2 A2.out).mono ?_); (case side1 => repeat (first | exact HR0.out | (with_reducible refine jO ?_ _) | (with_reducible refine jN ?_ _) | (with_reducible refine jS ?_))); (case side2 => exact HC0.out); rintro e w' ⟨rfl, ⟨nd, rfl⟩⟩; refine ⟨_, rfl, ?_⟩))
  go_ret2
  exact ⟨by first | rfl | (simp [errW_none, errW_some] <;> rfl) | (simp [*, errW_none, errW_some] <;> rfl), zb0 HB⟩

/-! ### impl_separation: function 60 -/
def impl_separation.l0 : Nat → Int → Int → Int → Option (Int)
 | 0, _, _, _ => none
 | k + 1, x5, x6, x7 => if x6 < x7 then (if (wrap64 ((wrap64 ((wrap64 (Int.tdiv (wrap64 (x6 + x7)) 2)) * (wrap64 (Int.tdiv (wrap64 (x6 + x7)) 2)))) * (wrap64 (Int.tdiv (wrap64 (x6 + x7)) 2)))) ≥ x5 then (impl_separation.l0 k x5 x6 (wrap64 (Int.tdiv (wrap64 (x6 + x7)) 2))) else (impl_separation.l0 k x5 (wrap64 ((wrap64 (Int.tdiv (wrap64 (x6 + x7)) 2)) + 1)) x7)) else (some x6)
def impl_separation.f (k : Nat) (a0 : Int) (a1 : Int) : Option (Int) := impl_separation.l0 k (wrap64 ((wrap64 ((wrap64 (a0 * a0)) * a0)) * a1)) 0 300000
theorem impl_separation.mono_l : ∀ k, (∀ y0 y1 y2, LeO (impl_separation.l0 k y0 y1 y2) (impl_separation.l0 (k + 1) y0 y1 y2))
 | 0 => fun _ _ _ r h => by simp [impl_separation.l0] at h
 | k + 1 => by
  have ih0 := impl_separation.mono_l k
  ·intro y0 y1 y2
   unfold impl_separation.l0
   repeat' first
   | (with_reducible exact ih0 _ _ _)
   | (with_reducible exact LeO.refl _)
   | (with_reducible exact LeO.none _)
   | (with_reducible refine LeO.ite ?_ ?_)
   | (with_reducible refine LeO.bind ?_ (fun _ => ?_))
   | exact ih0 _ _ _
   | exact LeO.none _
   | refine LeO.ite ?_ ?_
   | refine LeO.bind ?_ (fun _ => ?_)
theorem impl_separation.mono : ∀ a0 a1 k, LeO (impl_separation.f k a0 a1) (impl_separation.f (k + 1) a0 a1) := by
 intro a0 a1 k
 have ih0 := impl_separation.mono_l k
 unfold impl_separation.f
 repeat' first
   | (with_reducible exact ih0 _ _ _)
   | (with_reducible exact LeO.refl _)
   | (with_reducible exact LeO.none _)
   | (with_reducible refine LeO.ite ?_ ?_)
   | (with_reducible refine LeO.bind ?_ (fun _ => ?_))
   | exact ih0 _ _ _
   | exact LeO.none _
   | refine LeO.ite ?_ ?_
   | refine LeO.bind ?_ (fun _ => ?_)
set_option maxHeartbeats 8000000 in
set_option maxRecDepth 100000 in
theorem impl_separation.calls (k : Nat) (a0 : Int) (a1 : Int) (r : Int) (w : World) (h : impl_separation.f k a0 a1 = some r) :
  Calls Try.prog 60 #[.int .i64 a0, .int .i64 a1] w fun e w' => e = .returned (.int .i64 r) ∧ Drawn0 w w' := by
 have H : (impl_separation.l0 k (wrap64 ((wrap64 ((wrap64 (a0 * a0)) * a0)) * a1)) 0 300000) = some r := h
 clear h
 have H' := jA H
 clear H
 go_enter Try.func60, Try.ntmps60
 go_wp2
 go_loopg [6, 7] k (fun kq v6 v7 w' => ∃ (x6_1 : Int) (x7_1 : Int), v6 = .int .i64 x6_1 ∧ v7 = .int .i64 x7_1 ∧ Aside0 (impl_separation.l0 kq (wrap64 ((wrap64 ((wrap64 (a0 * a0)) * a0)) * a1)) x6_1 x7_1 = some r) ∧ Aside0 (kq ≤ k) ∧ Drawn0 w w')
 case atStart => exact ⟨(0), (300000), zz, zz, H', ⟨Nat.le_refl _⟩, by repeat (first | exact Drawn0.refl _ | apply Drawn0.step)⟩
 case round =>
  clear H'
  try clear p2
  obtain ⟨x6_1, x7_1, rfl, rfl, HA, HK1, ⟨m1, rfl⟩⟩ := hrel
  cases gk with
  | zero => exact absurd HA.out (by simp [impl_separation.l0])
  | succ k1 =>
   have H := HA.out
   clear HA
   simp only [impl_separation.l0] at H
   by_cases c3 : x6_1 < x7_1
   ·rw [if_pos c3] at H
    have c3b0 : decide (x6_1 < x7_1) = true := jG c3
    clear c3
    by_cases c4 : (wrap64 ((wrap64 ((wrap64 (Int.tdiv (wrap64 (x6_1 + x7_1)) 2)) * (wrap64 (Int.tdiv (wrap64 (x6_1 + x7_1)) 2)))) * (wrap64 (Int.tdiv (wrap64 (x6_1 + x7_1)) 2)))) ≥ (wrap64 ((wrap64 ((wrap64 (a0 * a0)) * a0)) * a1))
    ·rw [if_pos c4] at H
     have c4b0 : decide ((wrap64 ((wrap64 ((wrap64 (a0 * a0)) * a0)) * a1)) ≤ (wrap64 ((wrap64 ((wrap64 (Int.tdiv (wrap64 (x6_1 + x7_1)) 2)) * (wrap64 (Int.tdiv (wrap64 (x6_1 + x7_1)) 2)))) * (wrap64 (Int.tdiv (wrap64 (x6_1 + x7_1)) 2))))) = true := jG c4
     clear c4
     have H' := jA H
     clear H
     go_wp2
     go_roundg k1
     case measure => have := HK1.out; omega
     case rel => exact ⟨(x6_1), (wrap64 (Int.tdiv (wrap64 (x6_1 + x7_1)) 2)), zz, zz, H', ⟨by have := HK1.out; omega⟩, by repeat (first | exact Drawn0.refl _ | apply Drawn0.step)⟩
    ·rw [if_neg c4] at H
     have c4b0 : decide ((wrap64 ((wrap64 ((wrap64 (a0 * a0)) * a0)) * a1)) ≤ (wrap64 ((wrap64 ((wrap64 (Int.tdiv (wrap64 (x6_1 + x7_1)) 2)) * (wrap64 (Int.tdiv (wrap64 (x6_1 + x7_1)) 2)))) * (wrap64 (Int.tdiv (wrap64 (x6_1 + x7_1)) 2))))) = false := jb c4
     clear c4
     have H' := jA H
     clear H
     go_wp2
     go_roundg k1
     case measure => have := HK1.out; omega
     case rel => exact ⟨(wrap64 ((wrap64 (Int.tdiv (wrap64 (x6_1 + x7_1)) 2)) + 1)), (x7_1), zz, zz, H', ⟨by have := HK1.out; omega⟩, by repeat (first | exact Drawn0.refl _ | apply Drawn0.step)⟩
   ·rw [if_neg c3] at H
    have c3b0 : decide (x6_1 < x7_1) = false := jb c3
    clear c3
    obtain rfl := jM H
    go_wp2
    go_ret
    exact ⟨by first | rfl | (simp; done) | (simp [*]; done), by repeat (first | exact Drawn0.refl _ | apply Drawn0.step)⟩

/-! ### impl_squareOf: function 72 -/
def impl_squareOf.f (a0_0 : Int) (a0_1 : Int) (a0_2 : Int) (a1 : Int) (a2 : Int) : Option (Int) := some (wrap64 ((wrap64 ((wrap64 (a0_0 - a1)) * (wrap64 (a0_0 - a1)))) + (wrap64 ((wrap64 (a0_1 - a2)) * (wrap64 (a0_1 - a2))))))
set_option maxHeartbeats 8000000 in
set_option maxRecDepth 100000 in
theorem impl_squareOf.calls (a0_0 : Int) (a0_1 : Int) (a0_2 : Int) (a1 : Int) (a2 : Int) (r : Int) (w : World) (h : impl_squareOf.f a0_0 a0_1 a0_2 a1 a2 = some r) :
  Calls Try.prog 72 #[.agg #[.int .i64 a0_0, .int .i64 a0_1, .int .i64 a0_2], .int .i64 a1, .int .i64 a2] w fun e w' => e = .returned (.int .i64 r) ∧ Below w.heap.size w w' := by
 have hu51 := Try.underlying51
 have HB := jA (Below.refl w.heap.size w)
 have H : (some (wrap64 ((wrap64 ((wrap64 (a0_0 - a1)) * (wrap64 (a0_0 - a1)))) + (wrap64 ((wrap64 (a0_1 - a2)) * (wrap64 (a0_1 - a2))))))) = some r := h
 clear h
 obtain rfl := jM H
 go_enter Try.func72, Try.ntmps72
 go_wp2_with (first | ((with_reducible refine gate_dst (N := 3) rfl ?_); refine box_event ?hg (N := 3) ?hd (cs := #[.int .i64 a0_0, .int .i64 a0_1, .int .i64 a0_2]) (t := 51) ?hr ?_; (case hd => rfl); (case hg => rfl); (case hr => first | (go_simp; done) | (go_simp; rfl)); intro gb174 hg w4 hbox hb; have n0_ := jA (jT (zb0 HB) hb); have n1_ := jA (hbox); have n2_ := jA ((by rw [hg]; exact (jW (zb0 HB)) : w.heap.size ≤ gb174)); have n3_ := jA ((by rw [hg]; exact (jW (zb0 HB)) : w.heap.size ≤ gb174)); clear HB; have HB := n0_; have BK174 := n1_; have GW174 := n2_; have GE174 := n3_; clear n0_ n1_ n2_ n3_; clear hb hbox hg; have hcz5_0 : w4.cell? ⟨gb174, 0, none⟩ = some (.int .i64 a0_0) := (jR BK174.out 0).trans rfl; have hcz5_1 : w4.cell? ⟨gb174, 1, none⟩ = some (.int .i64 a0_1) := (jR BK174.out 1).trans rfl; have hcz5_2 : w4.cell? ⟨gb174, 2, none⟩ = some (.int .i64 a0_2) := (jR BK174.out 2).trans rfl; have hfz5_0 := jV BK174.out 0; have hfz5_1 := jV BK174.out 1; have hfz5_2 := jV BK174.out 2))
 go_ret
 exact ⟨by first | rfl | (simp [errW_none, errW_some] <;> rfl) | (simp [*, errW_none, errW_some] <;> rfl), zb1 HB GE174⟩

/-! ### impl_areClose: function 81 -/
def impl_areClose.f (k : Nat) (a0_0 : Int) (a0_1 : Int) (a0_2 : Int) (a1_0 : Int) (a1_1 : Int) (a1_2 : Int) (a2 : Int) : Option (Bool) := (impl_separation.f k a2 (mx a0_2 a1_2)).bind fun t177 => ((impl_squareOf.f a0_0 a0_1 a0_2 a1_0 a1_1).bind fun t178 => (some (decide (t178 < (wrap64 (t177 * t177))))))
theorem impl_areClose.mono : ∀ a0 a1 a2 a3 a4 a5 a6 k, LeO (impl_areClose.f k a0 a1 a2 a3 a4 a5 a6) (impl_areClose.f (k + 1) a0 a1 a2 a3 a4 a5 a6) := by
 intro a0 a1 a2 a3 a4 a5 a6 k
 unfold impl_areClose.f
 repeat' first
   | (with_reducible exact impl_separation.mono _ _ _)
   | (with_reducible exact LeO.refl _)
   | (with_reducible exact LeO.none _)
   | (with_reducible refine LeO.ite ?_ ?_)
   | (with_reducible refine LeO.bind ?_ (fun _ => ?_))
   | exact impl_separation.mono _ _ _
   | exact LeO.none _
   | refine LeO.ite ?_ ?_
   | refine LeO.bind ?_ (fun _ => ?_)
set_option maxHeartbeats 8000000 in
set_option maxRecDepth 100000 in
theorem impl_areClose.calls (k : Nat) (a0_0 : Int) (a0_1 : Int) (a0_2 : Int) (a1_0 : Int) (a1_1 : Int) (a1_2 : Int) (a2 : Int) (r : Bool) (w : World) (h : impl_areClose.f k a0_0 a0_1 a0_2 a1_0 a1_1 a1_2 a2 = some r) :
  Calls Try.prog 81 #[.agg #[.int .i64 a0_0, .int .i64 a0_1, .int .i64 a0_2], .agg #[.int .i64 a1_0, .int .i64 a1_1, .int .i64 a1_2], .int .i64 a2] w fun e w' => e = .returned (.bool r) ∧ Below w.heap.size w w' := by
 have hu51 := Try.underlying51
 have HB := jA (Below.refl w.heap.size w)
 have H : ((impl_separation.f k a2 (mx a0_2 a1_2)).bind fun t177 => ((impl_squareOf.f a0_0 a0_1 a0_2 a1_0 a1_1).bind fun t178 => (some (decide (t178 < (wrap64 (t177 * t177))))))) = some r := h
 clear h
 obtain ⟨ji4, hji4⟩ : ∃ j_ : Int, (mx a0_2 a1_2) = j_ := ⟨_, rfl⟩
 replace H : ((impl_separation.f k a2 (ji4)).bind fun t177 => ((impl_squareOf.f a0_0 a0_1 a0_2 a1_0 a1_1).bind fun t178 => (some (decide (t178 < (wrap64 (t177 * t177))))))) = some r := by first | (rw [hji4] at H; exact H) | (simp only [hji4] at H ⊢; exact H)
 have hji4_ : (if a0_2 < a1_2 then a1_2 else a0_2) = ji4 := hji4
 replace H := jD.mp H
 obtain ⟨t177, A50, H⟩ := H
 replace H : ((impl_squareOf.f a0_0 a0_1 a0_2 a1_0 a1_1).bind fun t178 => (some (decide (t178 < (wrap64 (t177 * t177)))))) = some r := H
 have A5 := jA A50
 clear A50
 replace H := jD.mp H
 obtain ⟨t178, A60, H⟩ := H
 replace H : (some (decide (t178 < (wrap64 (t177 * t177))))) = some r := H
 have A6 := jA A60
 clear A60
 obtain rfl := jM H
 go_enter Try.func81, Try.ntmps81
 go_wp2_with (first | ((with_reducible refine gate_dst (N := 3) rfl ?_); refine box_event ?hg (N := 3) ?hd (cs := #[.int .i64 a0_0, .int .i64 a0_1, .int .i64 a0_2]) (t := 51) ?hr ?_; (case hd => rfl); (case hg => rfl); (case hr => first | (go_simp; done) | (go_simp; rfl)); intro gb175 hg w7 hbox hb; have n0_ := jA (jT (zb0 HB) hb); have n1_ := jA (hbox); have n2_ := jA ((by rw [hg]; exact (jW (zb0 HB)) : w.heap.size ≤ gb175)); have n3_ := jA ((by rw [hg]; exact (jW (zb0 HB)) : w.heap.size ≤ gb175)); clear HB; have HB := n0_; have BK175 := n1_; have GW175 := n2_; have GE175 := n3_; clear n0_ n1_ n2_ n3_; clear hb hbox hg) | ((with_reducible refine gate_dst (N := 4) rfl ?_); refine box_event ?hg (N := 4) ?hd (cs := #[.int .i64 a1_0, .int .i64 a1_1, .int .i64 a1_2]) (t := 51) ?hr ?_; (case hd => rfl); (case hg => rfl); (case hr => first | (go_simp; done) | (go_simp; rfl)); intro gb176 hg w8 hbox hb; have n0_ := jA (blk_below (g := gb175) (o := .cells #[.int .i64 a0_0, .int .i64 a0_1, .int .i64 a0_2] 51 (0, 0)) (zk BK175) hb); have n1_ := jA (jT (zb1 HB GE175) hb); have n2_ := jA (hbox); have n3_ := jA ((by rw [hg]; exact (jW (zb1 HB GE175)) : w.heap.size ≤ gb176)); have n4_ := jA ((by rw [hg]; exact (jW (zb1 HB GE175)) : w.heap.size ≤ gb176)); have n5_ := jA ((by rw [hg]; exact Nat.ne_of_lt (blk_lt (g := gb175) (o := .cells #[.int .i64 a0_0, .int .i64 a0_1, .int .i64 a0_2] 51 (0, 0)) (zk BK175)) : gb175 ≠ gb176)); have n6_ := jA n5_.out.symm; clear BK175; clear HB; have BK175 := n0_; have HB := n1_; have BK176 := n2_; have GW176 := n3_; have GE176 := n4_; have NB175_176 := n5_; have NB176_175 := n6_; clear n0_ n1_ n2_ n3_ n4_ n5_ n6_; clear hb hbox hg; have hnb9 := NB175_176.out; have hnc9 := NB176_175.out; have hcz10_0 : w8.cell? ⟨gb175, 0, none⟩ = some (.int .i64 a0_0) := (jR BK175.out 0).trans rfl; have hcz10_1 : w8.cell? ⟨gb175, 1, none⟩ = some (.int .i64 a0_1) := (jR BK175.out 1).trans rfl; have hcz10_2 : w8.cell? ⟨gb175, 2, none⟩ = some (.int .i64 a0_2) := (jR BK175.out 2).trans rfl; have hfz10_0 := jV BK175.out 0; have hfz10_1 := jV BK175.out 1; have hfz10_2 := jV BK175.out 2; have hcz11_0 : w8.cell? ⟨gb176, 0, none⟩ = some (.int .i64 a1_0) := (jR BK176.out 0).trans rfl; have hcz11_1 : w8.cell? ⟨gb176, 1, none⟩ = some (.int .i64 a1_1) := (jR BK176.out 1).trans rfl; have hcz11_2 : w8.cell? ⟨gb176, 2, none⟩ = some (.int .i64 a1_2) := (jR BK176.out 2).trans rfl; have hfz11_0 := jV BK176.out 0; have hfz11_1 := jV BK176.out 1; have hfz11_2 := jV BK176.out 2) | ((with_reducible refine jH (f := 60) rfl ?_); refine goesL_ (some 14) rfl rfl Try.func60 zr rfl #[.int .i64 a2, .int .i64 ji4] rfl (by (try simp only [List.map_toArray, List.map_cons, List.map_nil]); first | done | (simp only [hji4]; rfl) | rfl | (simp only [List.length_drop, List.length_take]; rfl)) ?_; (with_reducible refine (impl_separation.calls k a2 ji4 t177 _ A5.out).mono ?_); rintro e w' ⟨rfl, ⟨nd, rfl⟩⟩; refine ⟨_, rfl, ?_⟩) | ((with_reducible refine jH (f := 72) rfl ?_); refine goesL_ (some 20) rfl rfl Try.func72 zr rfl #[.agg #[.int .i64 a0_0, .int .i64 a0_1, .int .i64 a0_2], .int .i64 a1_0, .int .i64 a1_1] rfl zm ?_; (with_reducible refine (impl_squareOf.calls a0_0 a0_1 a0_2 a1_0 a1_1 t178 _ A6.out).mono ?_); rintro e w12 ⟨rfl, hb⟩; refine ⟨_, rfl, ?_⟩; have n0_ := jA (blk_below (g := gb175) (o := .cells #[.int .i64 a0_0, .int .i64 a0_1, .int .i64 a0_2] 51 (0, 0)) (zk BK175) hb); have n1_ := jA (blk_below (g := gb176) (o := .cells #[.int .i64 a1_0, .int .i64 a1_1, .int .i64 a1_2] 51 (0, 0)) (zk BK176) hb); have n2_ := jA (jT (zb2 HB GE175 GE176) hb); clear BK175; clear BK176; clear HB; have BK175 := n0_; have BK176 := n1_; have HB := n2_; clear n0_ n1_ n2_; (try clear hb); (try clear hb2); (try clear hk); (try clear hi)))
 go_ret
 exact ⟨by first | rfl | (simp [errW_none, errW_some] <;> rfl) | (simp only [← hji4]; first | rfl | (simp [errW_none, errW_some] <;> rfl)) | (simp [*, errW_none, errW_some] <;> rfl), zb2 HB GE175 GE176⟩

end Go.Proofs.Ytmhnkhealidjjaa.PFnDepots
