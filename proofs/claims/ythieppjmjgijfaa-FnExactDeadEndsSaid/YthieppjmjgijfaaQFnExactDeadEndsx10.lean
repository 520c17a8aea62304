/- Functions and contracts that FnExactDeadEnds reaches (11 of 12). -/
import Derived.Test.YthieppjmjgijfaaQFnExactDeadEndsx9
namespace Go.Proofs.Ythieppjmjgijfaa.PFnExactDeadEnds
open Go.RowKit Go.Proofs.YthieppjmjgijfaaW.PrintWords Go.Proofs.YthieppjmjgijfaaW.PrintLast Go.Proofs.YthieppjmjgijfaaW.PrintMore
attribute [local go_sem] max2_int min2_int max_two min_two max_three min_three max_four min_four   -- for this text's walks alone
set_option linter.unusedVariables false
set_option linter.unusedSimpArgs false
open Go.Proofs.YthieppjmjgijfaaX

/-! ### spec_l25Reached: function 74 -/
mutual
def spec_l25Reached.l0 : Nat → List Int → List Int → Int → Option (List Int)
 | 0, _, _, _ => none
 | k + 1, x1, x5, x6 => if x6 < (x5.length : Int) then (if 0 ≤ x6 then ((spec_l25Next.f k (rd x5 x6) x1).bind fun t339 => (spec_l25Reached.l1 k x1 x5 x6 t339 0)) else (none)) else (spec_l25Reached.l2 k x5 (([] : List Int)) 0)
def spec_l25Reached.l1 : Nat → List Int → List Int → Int → List Int → Int → Option (List Int)
 | 0, _, _, _, _, _ => none
 | k + 1, x1, x5, x6, x7, x8 => if x8 < (x7.length : Int) then (if 0 ≤ x8 then (if (rd x7 x8) ≥ 0 then ((spec_l01Has.f k x5 (rd x7 x8)).bind fun t344 => (if t344 = true then (spec_l25Reached.l1 k x1 x5 x6 x7 (wrap64 (x8 + 1))) else (if x5.length < 17592186044416 then (spec_l25Reached.l1 k x1 (x5 ++ [rd x7 x8]) x6 x7 (wrap64 (x8 + 1))) else (none)))) else (spec_l25Reached.l1 k x1 x5 x6 x7 (wrap64 (x8 + 1)))) else (none)) else (spec_l25Reached.l0 k x1 x5 (wrap64 (x6 + 1)))
def spec_l25Reached.l2 : Nat → List Int → List Int → Int → Option (List Int)
 | 0, _, _, _ => none
 | k + 1, x5, x9, x10 => if x10 < (x5.length : Int) then (if 0 ≤ x10 then ((spec_l03Insert.f k x9 (rd x5 x10)).bind fun t353 => (spec_l25Reached.l2 k x5 t353 (wrap64 (x10 + 1)))) else (none)) else (some x9)
end
def spec_l25Reached.f (k : Nat) (a0 : Int) (l1 : List Int) : Option (List Int) := spec_l25Reached.l0 k l1 (([a0] : List Int)) 0
theorem spec_l25Reached.mono_l : ∀ k, (∀ y0 y1 y2, LeO (spec_l25Reached.l0 k y0 y1 y2) (spec_l25Reached.l0 (k + 1) y0 y1 y2)) ∧ (∀ y0 y1 y2 y3 y4, LeO (spec_l25Reached.l1 k y0 y1 y2 y3 y4) (spec_l25Reached.l1 (k + 1) y0 y1 y2 y3 y4)) ∧ (∀ y0 y1 y2, LeO (spec_l25Reached.l2 k y0 y1 y2) (spec_l25Reached.l2 (k + 1) y0 y1 y2))
 | 0 => ⟨fun _ _ _ r h => by simp [spec_l25Reached.l0] at h, fun _ _ _ _ _ r h => by simp [spec_l25Reached.l1] at h, fun _ _ _ r h => by simp [spec_l25Reached.l2] at h⟩
 | k + 1 => by
  obtain ⟨ih0, ih1, ih2⟩ := spec_l25Reached.mono_l k
  refine ⟨?_, ?_, ?_⟩
  ·intro y0 y1 y2
   unfold spec_l25Reached.l0
   repeat' first
   | (with_reducible exact ih0 _ _ _)
   | (with_reducible exact ih1 _ _ _ _ _)
   | (with_reducible exact ih2 _ _ _)
   | (with_reducible exact spec_l01Has.mono _ _ _)
   | (with_reducible exact spec_l03Insert.mono _ _ _)
   | (with_reducible exact spec_l25Next.mono _ _ _)
   | (with_reducible exact LeO.refl _)
   | (with_reducible exact LeO.none _)
   | (with_reducible refine LeO.ite ?_ ?_)
   | (with_reducible refine LeO.bind ?_ (fun _ => ?_))
   | exact ih0 _ _ _
   | exact ih1 _ _ _ _ _
   | exact ih2 _ _ _
   | exact spec_l01Has.mono _ _ _
   | exact spec_l03Insert.mono _ _ _
   | exact spec_l25Next.mono _ _ _
   | exact LeO.none _
   | refine LeO.ite ?_ ?_
   | refine LeO.bind ?_ (fun _ => ?_)
  ·intro y0 y1 y2 y3 y4
   unfold spec_l25Reached.l1
   repeat' first
   | (with_reducible exact ih0 _ _ _)
   | (with_reducible exact ih1 _ _ _ _ _)
   | (with_reducible exact ih2 _ _ _)
   | (with_reducible exact spec_l01Has.mono _ _ _)
   | (with_reducible exact spec_l03Insert.mono _ _ _)
   | (with_reducible exact spec_l25Next.mono _ _ _)
   | (with_reducible exact LeO.refl _)
   | (with_reducible exact LeO.none _)
   | (with_reducible refine LeO.ite ?_ ?_)
   | (with_reducible refine LeO.bind ?_ (fun _ => ?_))
   | exact ih0 _ _ _
   | exact ih1 _ _ _ _ _
   | exact ih2 _ _ _
   | exact spec_l01Has.mono _ _ _
   | exact spec_l03Insert.mono _ _ _
   | exact spec_l25Next.mono _ _ _
   | exact LeO.none _
   | refine LeO.ite ?_ ?_
   | refine LeO.bind ?_ (fun _ => ?_)
  ·intro y0 y1 y2
   unfold spec_l25Reached.l2
   repeat' first
   | (with_reducible exact ih0 _ _ _)
   | (with_reducible exact ih1 _ _ _ _ _)
   | (with_reducible exact ih2 _ _ _)
   | (with_reducible exact spec_l01Has.mono _ _ _)
   | (with_reducible exact spec_l03Insert.mono _ _ _)
   | (with_reducible exact spec_l25Next.mono _ _ _)
   | (with_reducible exact LeO.refl _)
   | (with_reducible exact LeO.none _)
   | (with_reducible refine LeO.ite ?_ ?_)
   | (with_reducible refine LeO.bind ?_ (fun _ => ?_))
   | exact ih0 _ _ _
   | exact ih1 _ _ _ _ _
   | exact ih2 _ _ _
   | exact spec_l01Has.mono _ _ _
   | exact spec_l03Insert.mono _ _ _
   | exact spec_l25Next.mono _ _ _
   | exact LeO.none _
   | refine LeO.ite ?_ ?_
   | refine LeO.bind ?_ (fun _ => ?_)
theorem spec_l25Reached.mono : ∀ a0 a1 k, LeO (spec_l25Reached.f k a0 a1) (spec_l25Reached.f (k + 1) a0 a1) := by
 intro a0 a1 k
 obtain ⟨ih0, ih1, ih2⟩ := spec_l25Reached.mono_l k
 unfold spec_l25Reached.f
 repeat' first
   | (with_reducible exact ih0 _ _ _)
   | (with_reducible exact ih1 _ _ _ _ _)
   | (with_reducible exact ih2 _ _ _)
   | (with_reducible exact spec_l01Has.mono _ _ _)
   | (with_reducible exact spec_l03Insert.mono _ _ _)
   | (with_reducible exact spec_l25Next.mono _ _ _)
   | (with_reducible exact LeO.refl _)
   | (with_reducible exact LeO.none _)
   | (with_reducible refine LeO.ite ?_ ?_)
   | (with_reducible refine LeO.bind ?_ (fun _ => ?_))
   | exact ih0 _ _ _
   | exact ih1 _ _ _ _ _
   | exact ih2 _ _ _
   | exact spec_l01Has.mono _ _ _
   | exact spec_l03Insert.mono _ _ _
   | exact spec_l25Next.mono _ _ _
   | exact LeO.none _
   | refine LeO.ite ?_ ?_
   | refine LeO.bind ?_ (fun _ => ?_)
set_option maxHeartbeats 8000000 in
set_option maxRecDepth 100000 in
theorem spec_l25Reached.calls (k : Nat) (a0 : Int) (A1 : Option Addr) (c1 : Nat) (l1 : List Int) (r : List Int) (w : World) (hr1 : Kd.C (Kd.int .i64) w A1 l1.length l1) (hc1 : l1.length ≤ c1) (h : spec_l25Reached.f k a0 l1 = some r) :
  Calls Try.prog 74 #[.int .i64 a0, .slice A1 l1.length c1] w fun e w' => ∃ v0_ : Value, e = .returned (v0_) ∧ Kd.R (Kd.int .i64) 2 w' w.heap.size (fun _ => True) v0_ r ∧ Below w.heap.size w w' := by
 have HR1 := jA hr1
 have HC1 := jA hc1
 clear hr1 hc1
 have HB := jA (Below.refl w.heap.size w)
 have H : (spec_l25Reached.l0 k l1 (([a0] : List Int)) 0) = some r := h
 clear h
 obtain ⟨y335, hy335⟩ : ∃ y_ : List Int, y_ = (([a0] : List Int)) := ⟨_, rfl⟩
 replace H : (spec_l25Reached.l0 k l1 y335 0) = some r := by first | (rw [hy335]; with_reducible exact H) | (have H2_ := (Option.bind_some _ _).symm.trans H; rw [hy335]; with_reducible exact H2_) | (have H2_ := (Option.bind_some _ _).symm.trans H; with_reducible exact H2_) | with_reducible exact H | (rw [hy335]; exact H) | exact H
 have Ny335 := jA hy335
 clear hy335
 have H' := jA H
 clear H
 go_enter Try.func74, Try.ntmps74
 go_wp2_with (first | ((with_reducible refine jQ (N := 12) rfl ?_); refine Kd.R_lit (Kd.int .i64) _ 2 ?hg (N := 12) ?hd (xs := ([a0] : List Int)) (inner := [.int .i64 a0]) (ok := fun _ => True) (okp := fun _ => True) ?hr ?hp (fun _ hk => hk) trivial (Below.refl _ _) (Nat.le_refl _) (by simp) ?_; (case hd => rfl); (case hg => rfl); (case hr => first | (go_simp; done) | (go_simp; rfl)); (case hp => exact (Reps.one (show Kd.M (Kd.int .i64) _ _ _ a0 [.int .i64 a0] from rfl) (Reps.none _ _))); intro v336 w3 ho4 hb hg_ hnew_; clear hg_ hnew_; (first | rw [← Ny335.out] at ho4 | (simp only [Int.reduceToNat] at ho4; rw [← Ny335.out] at ho4)); have n0_ := jA (Kd.R_lower ho4 (jG (zb0 HB))); have n1_ := jA (jJ (zb0 HB) hb); clear HB; have HO337 := n0_; have HB := n1_; clear n0_ n1_; clear hb ho4))
 go_loopg [5, 6] k (fun kq v5 v6 w' => ∃ (x5_1 : List Int) (x6_1 : Int), v6 = .int .i64 x6_1 ∧ Aside0 (spec_l25Reached.l0 kq l1 x5_1 x6_1 = some r) ∧ Aside0 (kq ≤ k) ∧ Aside0 (Kd.R (Kd.int .i64) 2 w' w.heap.size (fun _ => True) v5 x5_1) ∧ Aside0 (Below w.heap.size w w'))
 case atStart => exact ⟨(y335), (0), zz, H', ⟨Nat.le_refl _⟩, ⟨by (with_reducible repeat (first | apply jZ | apply jY | apply jc)); exact HO337.out⟩, ⟨zb0 HB⟩⟩
 case round =>
  clear H'
  try clear c1
  try clear p2
  obtain ⟨x5_1, x6_1, rfl, HA, HK1, HO_5, HB⟩ := hrel
  cases gk with
  | zero => exact absurd HA.out (by simp [spec_l25Reached.l0])
  | succ k1 =>
   have H := HA.out
   clear HA
   simp only [spec_l25Reached.l0] at H
   by_cases c5 : x6_1 < (x5_1.length : Int)
   ·rw [if_pos c5] at H
    have c5b0 : decide (x6_1 < (x5_1.length : Int)) = true := jR c5
    clear c5
    by_cases c6 : 0 ≤ x6_1
    ·rw [if_pos c6] at H
     have c6b0 : decide (0 ≤ x6_1) = true := jR c6
     clear c6
     replace H := jS.mp H
     obtain ⟨t339, A70, H⟩ := H
     replace H : (spec_l25Reached.l1 k1 l1 x5_1 x6_1 t339 0) = some r := H
     have A7 := jA A70
     clear A70
     have H' := jA H
     clear H
     obtain ⟨Ao8, co8, eo8⟩ := Kd.R_slice HO_5.out
     subst eo8
     have p338 : 0 ≤ (x6_1 : Int) := jH za
     have q338 : x6_1 < (x5_1.length : Int) := jH za
     obtain ⟨ad338, e338, hx338_0⟩ := jh (je HO_5.out).2.2 x6_1 p338 q338
     cases e338
     replace p338 := eq_true p338
     replace q338 := eq_true q338
     go_wp2_with (first | ((with_reducible refine ja (f := 71) rfl ?_); refine goesL_ (some 24) rfl rfl Try.func71 zr rfl #[.int .i64 (rd x5_1 x6_1), .slice A1 l1.length c1] rfl zm ?_; (with_reducible refine (spec_l25Next.calls k1 (rd x5_1 x6_1) _ _ l1 t339 _ ?side1 ?side2 A7.out).mono ?_); (case side1 => exact zs HR1 HB); (case side2 => exact HC1.out); rintro e w9 ⟨v340, rfl, ho0, hb⟩; refine ⟨_, rfl, ?_⟩; have n0_ := jA (Kd.R_elder' (zo HO_5) (Kd.R_base ho0) hb); have n1_ := jA (Kd.R_lower (Kd.R_new' ho0 (Kd.R_lt (zo HO_5))) (jG (zb0 HB))); have n2_ := jA (jJ (zb0 HB) hb); clear HO_5; clear HB; have HO_5 := n0_; have HO341 := n1_; have HB := n2_; clear n0_ n1_ n2_; (try clear hb); (try clear hb2); (try clear hk); (try clear hi); (try clear ho0)))
     go_loopg [5, 8] k1 (fun kq v5 v8 w' => ∃ (x5_2 : List Int) (x8_2 : Int), v8 = .int .i64 x8_2 ∧ Aside0 (spec_l25Reached.l1 kq l1 x5_2 x6_1 t339 x8_2 = some r) ∧ Aside0 (kq ≤ k1) ∧ Aside0 (Kd.R (Kd.int .i64) 2 w' w.heap.size (fun k_ => some k_ ≠ (v340 : Value).ownBlock) v5 x5_2) ∧ Aside0 (Kd.R (Kd.int .i64) 2 w' w.heap.size (fun k_ => some k_ ≠ (v5 : Value).ownBlock) v340 t339) ∧ Aside0 (Below w.heap.size w w'))
     case atStart => exact ⟨(x5_1), (0), zz, H', ⟨Nat.le_refl _⟩, ⟨by (with_reducible repeat (first | apply jZ | apply jY | apply jc)); exact Kd.R_mono HO_5.out (fun _ hk => hk.2)⟩, ⟨by (with_reducible repeat (first | apply jZ | apply jY | apply jc)); exact Kd.R_mono HO341.out (fun _ hk => hk.2)⟩, ⟨zb0 HB⟩⟩
     case round =>
      clear H'
      try clear c1
      try clear p2
      try clear p3
      try clear q3
      try clear hx3
      try clear c5
      try clear c5b0
      try clear c6
      try clear c6b0
      try clear c7
      try clear hx338_0
      try clear p2
      try clear p338
      try clear q338
      obtain ⟨x5_2, x8_2, rfl, HA, HK2, HO_5, HO_7, HB⟩ := hrel
      cases gk with
      | zero => exact absurd HA.out (by simp [spec_l25Reached.l1])
      | succ k2 =>
       have H := HA.out
       clear HA
       simp only [spec_l25Reached.l1] at H
       by_cases c10 : x8_2 < (t339.length : Int)
       ·rw [if_pos c10] at H
        have c10b0 : decide (x8_2 < (t339.length : Int)) = true := jR c10
        clear c10
        by_cases c11 : 0 ≤ x8_2
        ·rw [if_pos c11] at H
         have c11b0 : decide (0 ≤ x8_2) = true := jR c11
         clear c11
         by_cases c12 : (rd t339 x8_2) ≥ 0
         ·rw [if_pos c12] at H
          have c12b0 : decide (0 ≤ (rd t339 x8_2)) = true := jR c12
          clear c12
          replace H := jS.mp H
          obtain ⟨t344, A130, H⟩ := H
          replace H : (if t344 = true then (spec_l25Reached.l1 k2 l1 x5_2 x6_1 t339 (wrap64 (x8_2 + 1))) else (if x5_2.length < 17592186044416 then (spec_l25Reached.l1 k2 l1 (x5_2 ++ [rd t339 x8_2]) x6_1 t339 (wrap64 (x8_2 + 1))) else (none))) = some r := H
          have A13 := jA A130
          clear A130
          by_cases c14 : t344 = true
          ·subst c14
           have H1 : (spec_l25Reached.l1 k2 l1 x5_2 x6_1 t339 (wrap64 (x8_2 + 1))) = some r := by rw [if_pos rfl] at H; exact H
           clear H
           have H := H1
           clear H1
           have H' := jA H
           clear H
           obtain ⟨Ao15, co15, eo15⟩ := Kd.R_slice HO_7.out
           subst eo15
           have p342 : 0 ≤ (x8_2 : Int) := jH za
           have q342 : x8_2 < (t339.length : Int) := jH za
           obtain ⟨ad342, e342, hx342_0⟩ := jh (je HO_7.out).2.2 x8_2 p342 q342
           cases e342
           replace p342 := eq_true p342
           replace q342 := eq_true q342
           have p343 : 0 ≤ (x8_2 : Int) := jH za
           have q343 : x8_2 < (t339.length : Int) := jH za
           obtain ⟨ad343, e343, hx343_0⟩ := jh (je HO_7.out).2.2 x8_2 p343 q343
           obtain rfl : ad342 = ad343 := (by injection e343)
           replace p343 := eq_true p343
           replace q343 := eq_true q343
           obtain ⟨Ao16, co16, eo16⟩ := Kd.R_slice HO_5.out
           subst eo16
           go_wp2_with (first | (go_at_call 72; (with_reducible refine (spec_l01Has.calls k2 _ _ x5_2 (rd t339 x8_2) true _ ?side1 ?side2 A13.out).mono ?_); (case side1 => repeat (first | exact (je HO_5.out).2.2 | (with_reducible refine Kd.C_alloc ?_ _) | (with_reducible refine Kd.C_drewN ?_ _) | (with_reducible refine Kd.C_drew ?_))); (case side2 => exact (je HO_5.out).2.1); rintro e w' ⟨rfl, ⟨nd, rfl⟩⟩))
           go_roundg k2
           case measure => have := HK1.out; have := HK2.out; omega
           case rel => exact ⟨(x5_2), (wrap64 (x8_2 + 1)), zz, H', ⟨by have := HK1.out; have := HK2.out; omega⟩, ⟨by (with_reducible repeat (first | apply jZ | apply jY | apply jc)); exact HO_5.out⟩, ⟨by (with_reducible repeat (first | apply jZ | apply jY | apply jc)); exact HO_7.out⟩, ⟨zb0 HB⟩⟩
          ·replace c14 := Bool.eq_false_iff.mpr c14
           subst c14
           have H1 : (if x5_2.length < 17592186044416 then (spec_l25Reached.l1 k2 l1 (x5_2 ++ [rd t339 x8_2]) x6_1 t339 (wrap64 (x8_2 + 1))) else (none)) = some r := by rw [if_neg (show ¬ (false = true) by decide)] at H; exact H
           clear H
           have H := H1
           clear H1
           by_cases c17 : x5_2.length < 17592186044416
           ·rw [if_pos c17] at H
            have LMc17 := jA c17
            clear c17
            obtain ⟨y346, hy346⟩ : ∃ y_ : List Int, y_ = (x5_2 ++ [rd t339 x8_2]) := ⟨_, rfl⟩
            replace H : (spec_l25Reached.l1 k2 l1 y346 x6_1 t339 (wrap64 (x8_2 + 1))) = some r := by first | (rw [hy346]; with_reducible exact H) | (have H2_ := (Option.bind_some _ _).symm.trans H; rw [hy346]; with_reducible exact H2_) | (have H2_ := (Option.bind_some _ _).symm.trans H; with_reducible exact H2_) | with_reducible exact H | (rw [hy346]; exact H) | exact H
            have Ny346 := jA hy346
            clear hy346
            have H' := jA H
            clear H
            obtain ⟨Ao18, co18, eo18⟩ := Kd.R_slice HO_7.out
            subst eo18
            have p342 : 0 ≤ (x8_2 : Int) := jH za
            have q342 : x8_2 < (t339.length : Int) := jH za
            obtain ⟨ad342, e342, hx342_0⟩ := jh (je HO_7.out).2.2 x8_2 p342 q342
            cases e342
            replace p342 := eq_true p342
            replace q342 := eq_true q342
            have p343 : 0 ≤ (x8_2 : Int) := jH za
            have q343 : x8_2 < (t339.length : Int) := jH za
            obtain ⟨ad343, e343, hx343_0⟩ := jh (je HO_7.out).2.2 x8_2 p343 q343
            obtain rfl : ad342 = ad343 := (by injection e343)
            replace p343 := eq_true p343
            replace q343 := eq_true q343
            obtain ⟨Ao19, co19, eo19⟩ := Kd.R_slice HO_5.out
            subst eo19
            go_wp2_with (first | (go_at_call 72; (with_reducible refine (spec_l01Has.calls k2 _ _ x5_2 (rd t339 x8_2) false _ ?side1 ?side2 A13.out).mono ?_); (case side1 => repeat (first | exact (je HO_5.out).2.2 | (with_reducible refine Kd.C_alloc ?_ _) | (with_reducible refine Kd.C_drewN ?_ _) | (with_reducible refine Kd.C_drew ?_))); (case side2 => exact (je HO_5.out).2.1); rintro e w' ⟨rfl, ⟨nd, rfl⟩⟩; have p345 : 0 ≤ (x8_2 : Int) := jH za; have q345 : x8_2 < (t339.length : Int) := jH za; obtain ⟨ad345, e345, hx345_0⟩ := jh (je HO_7.out).2.2 x8_2 p345 q345; obtain rfl : ad342 = ad345 := (by injection e345); replace p345 := eq_true p345; replace q345 := eq_true q345) | ((with_reducible refine gate_builtin (b := .append) (xs := #[.tmp 45, .tmp 50]) rfl ?_); at_builtin; refine Kd.R_append (Kd.int .i64) (w0 := w) w.heap.size rfl (.tmp 45) (.tmp 50) 35 2 (.int .i64 0) 8 rfl Try.underlying35 info2 rfl (by decide) (by omega) (.slice Ao19 x5_2.length co19) x5_2 (rd t339 x8_2) [.int .i64 (rd t339 x8_2)] (fun k_ => some k_ ≠ (.slice (some ad342) t339.length co18 : Value).ownBlock) (fun _ => False) rfl rfl ?aP (fun _ hk => hk.elim) ?aF ?aO ?aB ?aS ?aL ?_; (case aP => exact rfl); (case aB => exact (zb0 HB)); (case aF => exact (fun k_ hk => Kd.fresh' (Kd.R_lt (zo HO_7)) k_ hk)); (case aO => exact (zo HO_5)); (case aS => exact (jG (zb0 HB))); (case aL => have := LMc17.out; omega); intro v347 w20 ho hb hg hat; rw [← Ny346.out] at ho; have n0_ := jA (Kd.R_after (ok := (fun _ => True)) (by (with_reducible repeat (first | apply jZ | apply jY | apply jc)); exact Kd.R_mono HO_7.out (fun _ hk => ⟨trivial, hk⟩)) hg hat); have n1_ := jA (hb); have n2_ := jA (ho); clear HO_7; clear HB; clear HO_5; have HO_7 := n0_; have HB := n1_; have HO348 := n2_; clear n0_ n1_ n2_; clear ho hb hg hat))
            go_roundg k2
            case measure => have := HK1.out; have := HK2.out; omega
            case rel => exact ⟨(y346), (wrap64 (x8_2 + 1)), zz, H', ⟨by have := HK1.out; have := HK2.out; omega⟩, ⟨by (with_reducible repeat (first | apply jZ | apply jY | apply jc)); exact HO348.out⟩, ⟨by (with_reducible repeat (first | apply jZ | apply jY | apply jc)); exact Kd.R_mono HO_7.out (fun _ hk => hk.2)⟩, ⟨zb0 HB⟩⟩
           ·rw [if_neg c17] at H
            exact absurd H (by simp)
         ·rw [if_neg c12] at H
          have c12b0 : decide (0 ≤ (rd t339 x8_2)) = false := ji c12
          clear c12
          have H' := jA H
          clear H
          obtain ⟨Ao21, co21, eo21⟩ := Kd.R_slice HO_7.out
          subst eo21
          have p342 : 0 ≤ (x8_2 : Int) := jH za
          have q342 : x8_2 < (t339.length : Int) := jH za
          obtain ⟨ad342, e342, hx342_0⟩ := jh (je HO_7.out).2.2 x8_2 p342 q342
          cases e342
          replace p342 := eq_true p342
          replace q342 := eq_true q342
          go_wp2
          go_roundg k2
          case measure => have := HK1.out; have := HK2.out; omega
          case rel => exact ⟨(x5_2), (wrap64 (x8_2 + 1)), zz, H', ⟨by have := HK1.out; have := HK2.out; omega⟩, ⟨by (with_reducible repeat (first | apply jZ | apply jY | apply jc)); exact HO_5.out⟩, ⟨by (with_reducible repeat (first | apply jZ | apply jY | apply jc)); exact HO_7.out⟩, ⟨zb0 HB⟩⟩
        ·rw [if_neg c11] at H
         exact absurd H (by simp)
       ·rw [if_neg c10] at H
        have c10b0 : decide (x8_2 < (t339.length : Int)) = false := ji c10
        clear c10
        have H' := jA H
        clear H
        obtain ⟨Ao22, co22, eo22⟩ := Kd.R_slice HO_7.out
        subst eo22
        go_wp2
        go_roundg k2
        case measure => have := HK1.out; have := HK2.out; omega
        case rel => exact ⟨(x5_2), (wrap64 (x6_1 + 1)), zz, H', ⟨by have := HK1.out; have := HK2.out; omega⟩, ⟨by (with_reducible repeat (first | apply jZ | apply jY | apply jc)); exact Kd.R_mono HO_5.out (fun _ hk => trivial)⟩, ⟨zb0 HB⟩⟩
    ·rw [if_neg c6] at H
     exact absurd H (by simp)
   ·rw [if_neg c5] at H
    have c5b0 : decide (x6_1 < (x5_1.length : Int)) = false := ji c5
    clear c5
    obtain ⟨y349, hy349⟩ : ∃ y_ : List Int, y_ = (([] : List Int)) := ⟨_, rfl⟩
    replace H : (spec_l25Reached.l2 k1 x5_1 y349 0) = some r := by first | (rw [hy349]; with_reducible exact H) | (have H2_ := (Option.bind_some _ _).symm.trans H; rw [hy349]; with_reducible exact H2_) | (have H2_ := (Option.bind_some _ _).symm.trans H; with_reducible exact H2_) | with_reducible exact H | (rw [hy349]; exact H) | exact H
    have Ny349 := jA hy349
    clear hy349
    have H' := jA H
    clear H
    obtain ⟨Ao23, co23, eo23⟩ := Kd.R_slice HO_5.out
    subst eo23
    go_wp2_with (first | ((with_reducible refine jQ (N := 52) rfl ?_); refine Kd.R_lit (Kd.int .i64) _ 2 ?hg (N := 52) ?hd (xs := ([] : List Int)) (inner := []) (ok := fun _ => True) (okp := fun _ => True) ?hr ?hp (fun _ hk => hk) trivial (Below.refl _ _) (Nat.le_refl _) (by simp) ?_; (case hd => rfl); (case hg => rfl); (case hr => first | (go_simp; done) | (go_simp; rfl)); (case hp => exact (Reps.none _ _)); intro v350 w24 ho25 hb hg_ hnew_; clear hg_ hnew_; (first | rw [← Ny349.out] at ho25 | (simp only [Int.reduceToNat] at ho25; rw [← Ny349.out] at ho25)); have n0_ := jA (Kd.R_elder' (zo HO_5) (Kd.R_base ho25) hb); have n1_ := jA (Kd.R_lower (Kd.R_new' ho25 (Kd.R_lt (zo HO_5))) (jG (zb0 HB))); have n2_ := jA (jJ (zb0 HB) hb); clear HO_5; clear HB; have HO_5 := n0_; have HO351 := n1_; have HB := n2_; clear n0_ n1_ n2_; clear hb ho25))
    go_loopg [9, 10] k1 (fun kq v9 v10 w' => ∃ (x9_2 : List Int) (x10_2 : Int), v10 = .int .i64 x10_2 ∧ Aside0 (spec_l25Reached.l2 kq x5_1 x9_2 x10_2 = some r) ∧ Aside0 (kq ≤ k1) ∧ Aside0 (Kd.R (Kd.int .i64) 2 w' w.heap.size (fun k_ => some k_ ≠ (v9 : Value).ownBlock) (.slice Ao23 x5_1.length co23) x5_1) ∧ Aside0 (Kd.R (Kd.int .i64) 2 w' w.heap.size (fun k_ => some k_ ≠ ((.slice Ao23 x5_1.length co23) : Value).ownBlock) v9 x9_2) ∧ Aside0 (Below w.heap.size w w'))
    case atStart => exact ⟨(y349), (0), zz, H', ⟨Nat.le_refl _⟩, ⟨by (with_reducible repeat (first | apply jZ | apply jY | apply jc)); exact Kd.R_mono HO_5.out (fun _ hk => hk.2)⟩, ⟨by (with_reducible repeat (first | apply jZ | apply jY | apply jc)); exact Kd.R_mono HO351.out (fun _ hk => hk.2)⟩, ⟨zb0 HB⟩⟩
    case round =>
     clear H'
     try clear c1
     try clear p2
     try clear p3
     try clear q3
     try clear hx3
     try clear c5
     try clear c5b0
     try clear c6
     try clear c6b0
     try clear p6
     try clear c7
     try clear c10
     try clear c10b0
     try clear c11
     try clear c11b0
     try clear c12
     try clear c12b0
     try clear c14
     try clear c17
     try clear hx338_0
     try clear hx342_0
     try clear hx343_0
     try clear hx345_0
     try clear p2
     try clear p3
     try clear p338
     try clear p342
     try clear p343
     try clear p345
     try clear q3
     try clear q338
     try clear q342
     try clear q343
     try clear q345
     obtain ⟨x9_2, x10_2, rfl, HA, HK2, HO_5, HO_9, HB⟩ := hrel
     cases gk with
     | zero => exact absurd HA.out (by simp [spec_l25Reached.l2])
     | succ k2 =>
      have H := HA.out
      clear HA
      simp only [spec_l25Reached.l2] at H
      by_cases c26 : x10_2 < (x5_1.length : Int)
      ·rw [if_pos c26] at H
       have c26b0 : decide (x10_2 < (x5_1.length : Int)) = true := jR c26
       clear c26
       by_cases c27 : 0 ≤ x10_2
       ·rw [if_pos c27] at H
        have c27b0 : decide (0 ≤ x10_2) = true := jR c27
        clear c27
        replace H := jS.mp H
        obtain ⟨t353, A280, H⟩ := H
        replace H : (spec_l25Reached.l2 k2 x5_1 t353 (wrap64 (x10_2 + 1))) = some r := H
        have A28 := jA A280
        clear A280
        have H' := jA H
        clear H
        have p352 : 0 ≤ (x10_2 : Int) := jH za
        have q352 : x10_2 < (x5_1.length : Int) := jH za
        obtain ⟨ad352, e352, hx352_0⟩ := jh (je HO_5.out).2.2 x10_2 p352 q352
        cases e352
        replace p352 := eq_true p352
        replace q352 := eq_true q352
        obtain ⟨Ao29, co29, eo29⟩ := Kd.R_slice HO_9.out
        subst eo29
        go_wp2_with (first | ((with_reducible refine ja (f := 88) rfl ?_); refine goesL_ (some 64) rfl rfl Try.func88 zr rfl #[.slice Ao29 x9_2.length co29, .int .i64 (rd x5_1 x10_2)] rfl zm ?_; (with_reducible refine (spec_l03Insert.calls k2 (fun k_ => some k_ = (.slice Ao29 x9_2.length co29 : Value).ownBlock) (.slice Ao29 x9_2.length co29) x9_2 (rd x5_1 x10_2) t353 w _ ?side1 ?side2 A28.out).mono ?_); (case side1 => repeat (first | (with_reducible first | exact HB.out | apply below_alloc | apply pw_below_drewN | apply below_drew1) | exact HB.out)); (case side2 => exact Kd.R_tight rfl HO_9.out); rintro e w30 ⟨v354, rfl, ho0, hb, hkp⟩; refine ⟨_, rfl, ?_⟩; have n0_ := jA (Kd.R_mono (ok' := fun k_ => some k_ ≠ (v354 : Value).ownBlock) (Kd.R_keptB (HO_5.out) hkp (fun k_ hk_ hs_ => (hk_) hs_)) (fun k_ hk_ => fun e_ => Or.elim (ho0.1 k_ e_.symm) (fun hs_ => hk_.2.1 hs_) (fun hn_ => Nat.not_le.2 hk_.2.2 hn_))); have n1_ := jA (Kd.R_mono (ok' := fun k_ => some k_ ≠ (.slice (some ad352) x5_1.length co23 : Value).ownBlock) ho0 (fun k_ hk_ => Or.elim hk_ (fun hs_ => fun e_ => (((HO_5.out).1 k_ e_.symm)) hs_) (fun hn_ => (Kd.fresh' (Kd.R_lt (zo HO_5)) k_ hn_)))); have n2_ := jA (hb); clear HO_5; clear HB; clear HO_9; have HO_5 := n0_; have HO355 := n1_; have HB := n2_; clear n0_ n1_ n2_; (try clear hb); (try clear hkp); (try clear ho0)))
        go_roundg k2
        case measure => have := HK1.out; have := HK2.out; omega
        case rel => exact ⟨(t353), (wrap64 (x10_2 + 1)), zz, H', ⟨by have := HK1.out; have := HK2.out; omega⟩, ⟨by (with_reducible repeat (first | apply jZ | apply jY | apply jc)); exact HO_5.out⟩, ⟨by (with_reducible repeat (first | apply jZ | apply jY | apply jc)); exact HO355.out⟩, ⟨zb0 HB⟩⟩
       ·rw [if_neg c27] at H
        exact absurd H (by simp)
      ·rw [if_neg c26] at H
       have c26b0 : decide (x10_2 < (x5_1.length : Int)) = false := ji c26
       clear c26
       obtain rfl := jU H
       go_wp2
       go_ret
       exact ⟨_, by first | rfl | (simp [errW_none, errW_some] <;> rfl) | (simp [*, errW_none, errW_some] <;> rfl), by (with_reducible repeat (first | apply jZ | apply jY | apply jc)); exact Kd.R_mono HO_9.out (fun _ hk => trivial), zb0 HB⟩

/-! ### spec_l25Fires: function 76 -/
def spec_l25Fires.l0 : Nat → List Int → Int → Option (Bool)
 | 0, _, _ => none
 | k + 1, x5, x6 => if x6 < (x5.length : Int) then (if 0 ≤ x6 then ((spec_l25With.f (rd x5 x6)).bind fun bt360 => (if bt360.2.2.1 = true then (if bt360.2.2.2.1 = true then (spec_l25Fires.l0 k x5 (wrap64 (x6 + 1))) else (some true)) else (spec_l25Fires.l0 k x5 (wrap64 (x6 + 1))))) else (none)) else (some false)
def spec_l25Fires.f (k : Nat) (a0 : Int) (l1 : List Int) : Option (Bool) := (spec_l25Reached.f k a0 l1).bind fun t356 => (spec_l25Fires.l0 k t356 0)
theorem spec_l25Fires.mono_l : ∀ k, (∀ y0 y1, LeO (spec_l25Fires.l0 k y0 y1) (spec_l25Fires.l0 (k + 1) y0 y1))
 | 0 => fun _ _ r h => by simp [spec_l25Fires.l0] at h
 | k + 1 => by
  have ih0 := spec_l25Fires.mono_l k
  ·intro y0 y1
   unfold spec_l25Fires.l0
   repeat' first
   | (with_reducible exact ih0 _ _)
   | (with_reducible exact spec_l25Reached.mono _ _ _)
   | (with_reducible exact LeO.refl _)
   | (with_reducible exact LeO.none _)
   | (with_reducible refine LeO.ite ?_ ?_)
   | (with_reducible refine LeO.bind ?_ (fun _ => ?_))
   | exact ih0 _ _
   | exact spec_l25Reached.mono _ _ _
   | exact LeO.none _
   | refine LeO.ite ?_ ?_
   | refine LeO.bind ?_ (fun _ => ?_)
theorem spec_l25Fires.mono : ∀ a0 a1 k, LeO (spec_l25Fires.f k a0 a1) (spec_l25Fires.f (k + 1) a0 a1) := by
 intro a0 a1 k
 have ih0 := spec_l25Fires.mono_l k
 unfold spec_l25Fires.f
 repeat' first
   | (with_reducible exact ih0 _ _)
   | (with_reducible exact spec_l25Reached.mono _ _ _)
   | (with_reducible exact LeO.refl _)
   | (with_reducible exact LeO.none _)
   | (with_reducible refine LeO.ite ?_ ?_)
   | (with_reducible refine LeO.bind ?_ (fun _ => ?_))
   | exact ih0 _ _
   | exact spec_l25Reached.mono _ _ _
   | exact LeO.none _
   | refine LeO.ite ?_ ?_
   | refine LeO.bind ?_ (fun _ => ?_)
set_option maxHeartbeats 8000000 in
set_option maxRecDepth 100000 in
theorem spec_l25Fires.calls (k : Nat) (a0 : Int) (A1 : Option Addr) (c1 : Nat) (l1 : List Int) (r : Bool) (w : World) (hr1 : Kd.C (Kd.int .i64) w A1 l1.length l1) (hc1 : l1.length ≤ c1) (h : spec_l25Fires.f k a0 l1 = some r) :
  Calls Try.prog 76 #[.int .i64 a0, .slice A1 l1.length c1] w fun e w' => e = .returned (.bool r) ∧ Below w.heap.size w w' := by
 have hu23 := Try.underlying23
 have HR1 := jA hr1
 have HC1 := jA hc1
 clear hr1 hc1
 have HB := jA (Below.refl w.heap.size w)
 have H : ((spec_l25Reached.f k a0 l1).bind fun t356 => (spec_l25Fires.l0 k t356 0)) = some r := h
 clear h
 replace H := jS.mp H
 obtain ⟨t356, A30, H⟩ := H
 replace H : (spec_l25Fires.l0 k t356 0) = some r := H
 have A3 := jA A30
 clear A30
 have H' := jA H
 clear H
 go_enter Try.func76, Try.ntmps76
 go_wp2_with (first | ((with_reducible refine ja (f := 74) rfl ?_); refine goesL_ (some 10) rfl rfl Try.func74 zr rfl #[.int .i64 a0, .slice A1 l1.length c1] rfl zm ?_; (with_reducible refine (spec_l25Reached.calls k a0 _ _ l1 t356 _ ?side1 ?side2 A3.out).mono ?_); (case side1 => repeat (first | exact HR1.out | (with_reducible refine Kd.C_alloc ?_ _) | (with_reducible refine Kd.C_drewN ?_ _) | (with_reducible refine Kd.C_drew ?_))); (case side2 => exact HC1.out); rintro e w4 ⟨v357, rfl, ho0, hb⟩; refine ⟨_, rfl, ?_⟩; have n0_ := jA (Kd.R_lower ho0 (jG (zb0 HB))); have n1_ := jA (jJ (zb0 HB) hb); clear HB; have HO358 := n0_; have HB := n1_; clear n0_ n1_; (try clear hb); (try clear hb2); (try clear hk); (try clear hi); (try clear ho0)))
 go_loopg [6] k (fun kq v6 w' => ∃ (x6_1 : Int), v6 = .int .i64 x6_1 ∧ Aside0 (spec_l25Fires.l0 kq t356 x6_1 = some r) ∧ Aside0 (kq ≤ k) ∧ Aside0 (Kd.R (Kd.int .i64) 2 w' w.heap.size (fun _ => True) v357 t356) ∧ Aside0 (Below w.heap.size w w'))
 case atStart => exact ⟨(0), zz, H', ⟨Nat.le_refl _⟩, ⟨by (with_reducible repeat (first | apply jZ | apply jY | apply jc)); exact HO358.out⟩, ⟨zb0 HB⟩⟩
 case round =>
  clear H'
  try clear c1
  try clear p2
  obtain ⟨x6_1, rfl, HA, HK1, HO_5, HB⟩ := hrel
  cases gk with
  | zero => exact absurd HA.out (by simp [spec_l25Fires.l0])
  | succ k1 =>
   have H := HA.out
   clear HA
   simp only [spec_l25Fires.l0] at H
   by_cases c5 : x6_1 < (t356.length : Int)
   ·rw [if_pos c5] at H
    have c5b0 : decide (x6_1 < (t356.length : Int)) = true := jR c5
    clear c5
    by_cases c6 : 0 ≤ x6_1
    ·rw [if_pos c6] at H
     have c6b0 : decide (0 ≤ x6_1) = true := jR c6
     clear c6
     replace H := jS.mp H
     obtain ⟨⟨t360, t361, t362, t363, t364, t365⟩, A70, H⟩ := H
     replace H : (if t362 = true then (if t363 = true then (spec_l25Fires.l0 k1 t356 (wrap64 (x6_1 + 1))) else (some true)) else (spec_l25Fires.l0 k1 t356 (wrap64 (x6_1 + 1)))) = some r := H
     have A7 := jA A70
     clear A70
     by_cases c8 : t362 = true
     ·subst c8
      have H1 : (if t363 = true then (spec_l25Fires.l0 k1 t356 (wrap64 (x6_1 + 1))) else (some true)) = some r := by rw [if_pos rfl] at H; exact H
      clear H
      have H := H1
      clear H1
      by_cases c9 : t363 = true
      ·subst c9
       have H1 : (spec_l25Fires.l0 k1 t356 (wrap64 (x6_1 + 1))) = some r := by rw [if_pos rfl] at H; exact H
       clear H
       have H := H1
       clear H1
       have H' := jA H
       clear H
       obtain ⟨Ao10, co10, eo10⟩ := Kd.R_slice HO_5.out
       subst eo10
       have p359 : 0 ≤ (x6_1 : Int) := jH za
       have q359 : x6_1 < (t356.length : Int) := jH za
       obtain ⟨ad359, e359, hx359_0⟩ := jh (je HO_5.out).2.2 x6_1 p359 q359
       cases e359
       replace p359 := eq_true p359
       replace q359 := eq_true q359
       go_wp2_with (first | ((with_reducible refine ja (f := 48) rfl ?_); refine goesL_ (some 21) rfl rfl Try.func48 zr rfl #[.int .i64 (rd t356 x6_1)] rfl zm ?_; (with_reducible refine (spec_l25With.calls (rd t356 x6_1) t360 t361 true true t364 t365 _ A7.out).mono ?_); rintro e w11 ⟨rfl, hb⟩; refine ⟨_, rfl, ?_⟩; have n0_ := jA (jg (zo HO_5) hb); have n1_ := jA (jJ (zb0 HB) hb); clear HO_5; clear HB; have HO_5 := n0_; have HB := n1_; clear n0_ n1_; (try clear hb); (try clear hb2); (try clear hk); (try clear hi)) | ((with_reducible refine jQ (N := 7) rfl ?_); refine jO ?hg (N := 7) ?hd (cs := #[.bool false, .bool false, .bool false, .bool false, .bool false, .int .i64 0]) (t := 23) ?hr ?_; (case hd => rfl); (case hg => rfl); (case hr => first | (go_simp; done) | (go_simp; rfl)); intro gb366 hg w12 hbox hb; have n0_ := jA (jg (zo HO_5) hb); have n1_ := jA (jJ (zb0 HB) hb); have n2_ := jA (hbox); have n3_ := jA ((by rw [hg]; exact (jG (zb0 HB)) : w.heap.size ≤ gb366)); have n4_ := jA ((by rw [hg]; exact (jG (zb0 HB)) : w.heap.size ≤ gb366)); clear HO_5; clear HB; have HO_5 := n0_; have HB := n1_; have BK366 := n2_; have GW366 := n3_; have GE366 := n4_; clear n0_ n1_ n2_ n3_ n4_; clear hb hbox hg; have hcz13_0 : w12.cell? ⟨gb366, 0, none⟩ = some (.bool false) := (jC BK366.out 0).trans rfl; have hcz13_1 : w12.cell? ⟨gb366, 1, none⟩ = some (.bool false) := (jC BK366.out 1).trans rfl; have hcz13_2 : w12.cell? ⟨gb366, 2, none⟩ = some (.bool false) := (jC BK366.out 2).trans rfl; have hcz13_3 : w12.cell? ⟨gb366, 3, none⟩ = some (.bool false) := (jC BK366.out 3).trans rfl; have hcz13_4 : w12.cell? ⟨gb366, 4, none⟩ = some (.bool false) := (jC BK366.out 4).trans rfl; have hcz13_5 : w12.cell? ⟨gb366, 5, none⟩ = some (.int .i64 0) := (jC BK366.out 5).trans rfl; have hfz13_0 := jB BK366.out 0; have hfz13_1 := jB BK366.out 1; have hfz13_2 := jB BK366.out 2; have hfz13_3 := jB BK366.out 3; have hfz13_4 := jB BK366.out 4; have hfz13_5 := jB BK366.out 5))
       go_roundg k1
       case measure => have := HK1.out; omega
       case rel => exact ⟨(wrap64 (x6_1 + 1)), zz, H', ⟨by have := HK1.out; omega⟩, ⟨by (with_reducible repeat (first | apply jZ | apply jY | apply jc)); exact Kd.R_mono (Kd.R_far (p := ⟨gb366, 5, none⟩) (Kd.R_far (p := ⟨gb366, 4, none⟩) (Kd.R_far (p := ⟨gb366, 3, none⟩) (Kd.R_far (p := ⟨gb366, 2, none⟩) (Kd.R_far (p := ⟨gb366, 1, none⟩) (Kd.R_far (p := ⟨gb366, 0, none⟩) (Kd.R_types HO_5.out BK366.out (by decide)) (fun _ hk => hk.2) (.bool t360)) (fun _ hk => hk.2) (.bool t361)) (fun _ hk => hk.2) (.bool true)) (fun _ hk => hk.2) (.bool true)) (fun _ hk => hk.2) (.bool t364)) (fun _ hk => hk.2) (.int .i64 t365)) (fun _ hk => trivial)⟩, ⟨zb1 HB GE366⟩⟩
      ·replace c9 := Bool.eq_false_iff.mpr c9
       subst c9
       have H1 : (some true) = some r := by rw [if_neg (show ¬ (false = true) by decide)] at H; exact H
       clear H
       have H := H1
       clear H1
       obtain rfl := jU H
       obtain ⟨Ao14, co14, eo14⟩ := Kd.R_slice HO_5.out
       subst eo14
       have p359 : 0 ≤ (x6_1 : Int) := jH za
       have q359 : x6_1 < (t356.length : Int) := jH za
       obtain ⟨ad359, e359, hx359_0⟩ := jh (je HO_5.out).2.2 x6_1 p359 q359
       cases e359
       replace p359 := eq_true p359
       replace q359 := eq_true q359
       go_wp2_with (first | ((with_reducible refine ja (f := 48) rfl ?_); refine goesL_ (some 21) rfl rfl Try.func48 zr rfl #[.int .i64 (rd t356 x6_1)] rfl zm ?_; (with_reducible refine (spec_l25With.calls (rd t356 x6_1) t360 t361 true false t364 t365 _ A7.out).mono ?_); rintro e w15 ⟨rfl, hb⟩; refine ⟨_, rfl, ?_⟩; have n0_ := jA (jg (zo HO_5) hb); have n1_ := jA (jJ (zb0 HB) hb); clear HO_5; clear HB; have HO_5 := n0_; have HB := n1_; clear n0_ n1_; (try clear hb); (try clear hb2); (try clear hk); (try clear hi)) | ((with_reducible refine jQ (N := 7) rfl ?_); refine jO ?hg (N := 7) ?hd (cs := #[.bool false, .bool false, .bool false, .bool false, .bool false, .int .i64 0]) (t := 23) ?hr ?_; (case hd => rfl); (case hg => rfl); (case hr => first | (go_simp; done) | (go_simp; rfl)); intro gb366 hg w16 hbox hb; have n0_ := jA (jg (zo HO_5) hb); have n1_ := jA (jJ (zb0 HB) hb); have n2_ := jA (hbox); have n3_ := jA ((by rw [hg]; exact (jG (zb0 HB)) : w.heap.size ≤ gb366)); have n4_ := jA ((by rw [hg]; exact (jG (zb0 HB)) : w.heap.size ≤ gb366)); clear HO_5; clear HB; have HO_5 := n0_; have HB := n1_; have BK366 := n2_; have GW366 := n3_; have GE366 := n4_; clear n0_ n1_ n2_ n3_ n4_; clear hb hbox hg; have hcz17_0 : w16.cell? ⟨gb366, 0, none⟩ = some (.bool false) := (jC BK366.out 0).trans rfl; have hcz17_1 : w16.cell? ⟨gb366, 1, none⟩ = some (.bool false) := (jC BK366.out 1).trans rfl; have hcz17_2 : w16.cell? ⟨gb366, 2, none⟩ = some (.bool false) := (jC BK366.out 2).trans rfl; have hcz17_3 : w16.cell? ⟨gb366, 3, none⟩ = some (.bool false) := (jC BK366.out 3).trans rfl; have hcz17_4 : w16.cell? ⟨gb366, 4, none⟩ = some (.bool false) := (jC BK366.out 4).trans rfl; have hcz17_5 : w16.cell? ⟨gb366, 5, none⟩ = some (.int .i64 0) := (jC BK366.out 5).trans rfl; have hfz17_0 := jB BK366.out 0; have hfz17_1 := jB BK366.out 1; have hfz17_2 := jB BK366.out 2; have hfz17_3 := jB BK366.out 3; have hfz17_4 := jB BK366.out 4; have hfz17_5 := jB BK366.out 5))
       go_ret
       exact ⟨by first | rfl | (simp [errW_none, errW_some] <;> rfl) | (simp [*, errW_none, errW_some] <;> rfl), zb1 HB GE366⟩
     ·replace c8 := Bool.eq_false_iff.mpr c8
      subst c8
      have H1 : (spec_l25Fires.l0 k1 t356 (wrap64 (x6_1 + 1))) = some r := by rw [if_neg (show ¬ (false = true) by decide)] at H; exact H
      clear H
      have H := H1
      clear H1
      have H' := jA H
      clear H
      obtain ⟨Ao18, co18, eo18⟩ := Kd.R_slice HO_5.out
      subst eo18
      have p359 : 0 ≤ (x6_1 : Int) := jH za
      have q359 : x6_1 < (t356.length : Int) := jH za
      obtain ⟨ad359, e359, hx359_0⟩ := jh (je HO_5.out).2.2 x6_1 p359 q359
      cases e359
      replace p359 := eq_true p359
      replace q359 := eq_true q359
      go_wp2_with (first | ((with_reducible refine ja (f := 48) rfl ?_); refine goesL_ (some 21) rfl rfl Try.func48 zr rfl #[.int .i64 (rd t356 x6_1)] rfl zm ?_; (with_reducible refine (spec_l25With.calls (rd t356 x6_1) t360 t361 false t363 t364 t365 _ A7.out).mono ?_); rintro e w19 ⟨rfl, hb⟩; refine ⟨_, rfl, ?_⟩; have n0_ := jA (jg (zo HO_5) hb); have n1_ := jA (jJ (zb0 HB) hb); clear HO_5; clear HB; have HO_5 := n0_; have HB := n1_; clear n0_ n1_; (try clear hb); (try clear hb2); (try clear hk); (try clear hi)) | ((with_reducible refine jQ (N := 7) rfl ?_); refine jO ?hg (N := 7) ?hd (cs := #[.bool false, .bool false, .bool false, .bool false, .bool false, .int .i64 0]) (t := 23) ?hr ?_; (case hd => rfl); (case hg => rfl); (case hr => first | (go_simp; done) | (go_simp; rfl)); intro gb366 hg w20 hbox hb; have n0_ := jA (jg (zo HO_5) hb); have n1_ := jA (jJ (zb0 HB) hb); have n2_ := jA (hbox); have n3_ := jA ((by rw [hg]; exact (jG (zb0 HB)) : w.heap.size ≤ gb366)); have n4_ := jA ((by rw [hg]; exact (jG (zb0 HB)) : w.heap.size ≤ gb366)); clear HO_5; clear HB; have HO_5 := n0_; have HB := n1_; have BK366 := n2_; have GW366 := n3_; have GE366 := n4_; clear n0_ n1_ n2_ n3_ n4_; clear hb hbox hg; have hcz21_0 : w20.cell? ⟨gb366, 0, none⟩ = some (.bool false) := (jC BK366.out 0).trans rfl; have hcz21_1 : w20.cell? ⟨gb366, 1, none⟩ = some (.bool false) := (jC BK366.out 1).trans rfl; have hcz21_2 : w20.cell? ⟨gb366, 2, none⟩ = some (.bool false) := (jC BK366.out 2).trans rfl; have hcz21_3 : w20.cell? ⟨gb366, 3, none⟩ = some (.bool false) := (jC BK366.out 3).trans rfl; have hcz21_4 : w20.cell? ⟨gb366, 4, none⟩ = some (.bool false) := (jC BK366.out 4).trans rfl; have hcz21_5 : w20.cell? ⟨gb366, 5, none⟩ = some (.int .i64 0) := (jC BK366.out 5).trans rfl; have hfz21_0 := jB BK366.out 0; have hfz21_1 := jB BK366.out 1; have hfz21_2 := jB BK366.out 2; have hfz21_3 := jB BK366.out 3; have hfz21_4 := jB BK366.out 4; have hfz21_5 := jB BK366.out 5))
      go_roundg k1
      case measure => have := HK1.out; omega
      case rel => exact ⟨(wrap64 (x6_1 + 1)), zz, H', ⟨by have := HK1.out; omega⟩, ⟨by (with_reducible repeat (first | apply jZ | apply jY | apply jc)); exact Kd.R_mono (Kd.R_far (p := ⟨gb366, 5, none⟩) (Kd.R_far (p := ⟨gb366, 4, none⟩) (Kd.R_far (p := ⟨gb366, 3, none⟩) (Kd.R_far (p := ⟨gb366, 2, none⟩) (Kd.R_far (p := ⟨gb366, 1, none⟩) (Kd.R_far (p := ⟨gb366, 0, none⟩) (Kd.R_types HO_5.out BK366.out (by decide)) (fun _ hk => hk.2) (.bool t360)) (fun _ hk => hk.2) (.bool t361)) (fun _ hk => hk.2) (.bool false)) (fun _ hk => hk.2) (.bool t363)) (fun _ hk => hk.2) (.bool t364)) (fun _ hk => hk.2) (.int .i64 t365)) (fun _ hk => trivial)⟩, ⟨zb1 HB GE366⟩⟩
    ·rw [if_neg c6] at H
     exact absurd H (by simp)
   ·rw [if_neg c5] at H
    have c5b0 : decide (x6_1 < (t356.length : Int)) = false := ji c5
    clear c5
    obtain rfl := jU H
    obtain ⟨Ao22, co22, eo22⟩ := Kd.R_slice HO_5.out
    subst eo22
    go_wp2
    go_ret
    exact ⟨by first | rfl | (simp [errW_none, errW_some] <;> rfl) | (simp [*, errW_none, errW_some] <;> rfl), zb0 HB⟩

/-! ### spec_DeadEnds: function 40 -/
def spec_DeadEnds.l0 : Nat → List Int → List Int → List Int → Int → Option (List Int × Int)
 | 0, _, _, _, _ => none
 | k + 1, x1, x7, x8, x9 => if x9 < (x8.length : Int) then (if 0 ≤ x9 then ((spec_l25Fires.f k (rd x8 x9) x1).bind fun t377 => (if t377 = true then (spec_DeadEnds.l0 k x1 x7 x8 (wrap64 (x9 + 1))) else (if x7.length < 17592186044416 then (spec_DeadEnds.l0 k x1 (x7 ++ [rd x8 x9]) x8 (wrap64 (x9 + 1))) else (none)))) else (none)) else (some (x7, 0))
def spec_DeadEnds.f (k : Nat) (a0_0 : Bool) (a0_1 : Bool) (a0_2 : Bool) (a0_3 : Bool) (a0_4 : Bool) (a0_5 : Int) (l1 : List Int) : Option (List Int × Int) := (spec_l25Code.f k a0_0 a0_1 a0_2 a0_3 a0_4 a0_5 l1).bind fun t368 => (if t368 = 0 then ((spec_l25Number.f k a0_0 a0_1 a0_2 a0_3 a0_4 a0_5).bind fun t372 => ((spec_l25Reached.f k t372 l1).bind fun t373 => (spec_DeadEnds.l0 k l1 (([] : List Int)) t373 0))) else (some (([] : List Int), t368)))
theorem spec_DeadEnds.mono_l : ∀ k, (∀ y0 y1 y2 y3, LeO (spec_DeadEnds.l0 k y0 y1 y2 y3) (spec_DeadEnds.l0 (k + 1) y0 y1 y2 y3))
 | 0 => fun _ _ _ _ r h => by simp [spec_DeadEnds.l0] at h
 | k + 1 => by
  have ih0 := spec_DeadEnds.mono_l k
  ·intro y0 y1 y2 y3
   unfold spec_DeadEnds.l0
   repeat' first
   | (with_reducible exact ih0 _ _ _ _)
   | (with_reducible exact spec_l25Code.mono _ _ _ _ _ _ _ _)
   | (with_reducible exact spec_l25Fires.mono _ _ _)
   | (with_reducible exact spec_l25Number.mono _ _ _ _ _ _ _)
   | (with_reducible exact spec_l25Reached.mono _ _ _)
   | (with_reducible exact LeO.refl _)
   | (with_reducible exact LeO.none _)
   | (with_reducible refine LeO.ite ?_ ?_)
   | (with_reducible refine LeO.bind ?_ (fun _ => ?_))
   | exact ih0 _ _ _ _
   | exact spec_l25Code.mono _ _ _ _ _ _ _ _
   | exact spec_l25Fires.mono _ _ _
   | exact spec_l25Number.mono _ _ _ _ _ _ _
   | exact spec_l25Reached.mono _ _ _
   | exact LeO.none _
   | refine LeO.ite ?_ ?_
   | refine LeO.bind ?_ (fun _ => ?_)
theorem spec_DeadEnds.mono : ∀ a0 a1 a2 a3 a4 a5 a6 k, LeO (spec_DeadEnds.f k a0 a1 a2 a3 a4 a5 a6) (spec_DeadEnds.f (k + 1) a0 a1 a2 a3 a4 a5 a6) := by
 intro a0 a1 a2 a3 a4 a5 a6 k
 have ih0 := spec_DeadEnds.mono_l k
 unfold spec_DeadEnds.f
 repeat' first
   | (with_reducible exact ih0 _ _ _ _)
   | (with_reducible exact spec_l25Code.mono _ _ _ _ _ _ _ _)
   | (with_reducible exact spec_l25Fires.mono _ _ _)
   | (with_reducible exact spec_l25Number.mono _ _ _ _ _ _ _)
   | (with_reducible exact spec_l25Reached.mono _ _ _)
   | (with_reducible exact LeO.refl _)
   | (with_reducible exact LeO.none _)
   | (with_reducible refine LeO.ite ?_ ?_)
   | (with_reducible refine LeO.bind ?_ (fun _ => ?_))
   | exact ih0 _ _ _ _
   | exact spec_l25Code.mono _ _ _ _ _ _ _ _
   | exact spec_l25Fires.mono _ _ _
   | exact spec_l25Number.mono _ _ _ _ _ _ _
   | exact spec_l25Reached.mono _ _ _
   | exact LeO.none _
   | refine LeO.ite ?_ ?_
   | refine LeO.bind ?_ (fun _ => ?_)
set_option maxHeartbeats 8000000 in
set_option maxRecDepth 100000 in
theorem spec_DeadEnds.calls (k : Nat) (a0_0 : Bool) (a0_1 : Bool) (a0_2 : Bool) (a0_3 : Bool) (a0_4 : Bool) (a0_5 : Int) (A1 : Option Addr) (c1 : Nat) (l1 : List Int) (r1 : List Int) (r2 : Int) (w : World) (hr1 : Kd.C (Kd.int .i64) w A1 l1.length l1) (hc1 : l1.length ≤ c1) (h : spec_DeadEnds.f k a0_0 a0_1 a0_2 a0_3 a0_4 a0_5 l1 = some (r1, r2)) :
  Calls Try.prog 40 #[.agg #[.bool a0_0, .bool a0_1, .bool a0_2, .bool a0_3, .bool a0_4, .int .i64 a0_5], .slice A1 l1.length c1] w fun e w' => ∃ v0_ : Value, e = .returned (.tuple #[v0_, .int .i64 r2]) ∧ Kd.R (Kd.int .i64) 2 w' w.heap.size (fun _ => True) v0_ r1 ∧ Below w.heap.size w w' := by
 have hu23 := Try.underlying23
 have HR1 := jA hr1
 have HC1 := jA hc1
 clear hr1 hc1
 have HB := jA (Below.refl w.heap.size w)
 have H : ((spec_l25Code.f k a0_0 a0_1 a0_2 a0_3 a0_4 a0_5 l1).bind fun t368 => (if t368 = 0 then ((spec_l25Number.f k a0_0 a0_1 a0_2 a0_3 a0_4 a0_5).bind fun t372 => ((spec_l25Reached.f k t372 l1).bind fun t373 => (spec_DeadEnds.l0 k l1 (([] : List Int)) t373 0))) else (some (([] : List Int), t368)))) = some (r1, r2) := h
 clear h
 replace H := jS.mp H
 obtain ⟨t368, A30, H⟩ := H
 replace H : (if t368 = 0 then ((spec_l25Number.f k a0_0 a0_1 a0_2 a0_3 a0_4 a0_5).bind fun t372 => ((spec_l25Reached.f k t372 l1).bind fun t373 => (spec_DeadEnds.l0 k l1 (([] : List Int)) t373 0))) else (some (([] : List Int), t368))) = some (r1, r2) := H
 have A3 := jA A30
 clear A30
 by_cases c4 : t368 = 0
 ·rw [if_pos c4] at H
  have c4b0 : (t368 == 0) = true := beq_iff_eq.mpr c4
  have c4b1 : (t368 != 0) = false := bne_eq_false_iff_eq.mpr c4
  clear c4
  obtain ⟨y369, hy369⟩ : ∃ y_ : List Int, y_ = (([] : List Int)) := ⟨_, rfl⟩
  replace H : ((spec_l25Number.f k a0_0 a0_1 a0_2 a0_3 a0_4 a0_5).bind fun t372 => ((spec_l25Reached.f k t372 l1).bind fun t373 => (spec_DeadEnds.l0 k l1 y369 t373 0))) = some (r1, r2) := by first | (rw [hy369]; with_reducible exact H) | (have H2_ := (Option.bind_some _ _).symm.trans H; rw [hy369]; with_reducible exact H2_) | (have H2_ := (Option.bind_some _ _).symm.trans H; with_reducible exact H2_) | with_reducible exact H | (rw [hy369]; exact H) | exact H
  have Ny369 := jA hy369
  clear hy369
  replace H := jS.mp H
  obtain ⟨t372, A50, H⟩ := H
  replace H : ((spec_l25Reached.f k t372 l1).bind fun t373 => (spec_DeadEnds.l0 k l1 y369 t373 0)) = some (r1, r2) := H
  have A5 := jA A50
  clear A50
  replace H := jS.mp H
  obtain ⟨t373, A60, H⟩ := H
  replace H : (spec_DeadEnds.l0 k l1 y369 t373 0) = some (r1, r2) := H
  have A6 := jA A60
  clear A60
  have H' := jA H
  clear H
  go_enter Try.func40, Try.ntmps40
  go_wp2_with (first | ((with_reducible refine jQ (N := 2) rfl ?_); refine jO ?hg (N := 2) ?hd (cs := #[.bool a0_0, .bool a0_1, .bool a0_2, .bool a0_3, .bool a0_4, .int .i64 a0_5]) (t := 23) ?hr ?_; (case hd => rfl); (case hg => rfl); (case hr => first | (go_simp; done) | (go_simp; rfl)); intro gb367 hg w7 hbox hb; have n0_ := jA (jJ (zb0 HB) hb); have n1_ := jA (hbox); have n2_ := jA ((by rw [hg]; exact (jG (zb0 HB)) : w.heap.size ≤ gb367)); have n3_ := jA ((by rw [hg]; exact (jG (zb0 HB)) : w.heap.size ≤ gb367)); clear HB; have HB := n0_; have BK367 := n1_; have GW367 := n2_; have GE367 := n3_; clear n0_ n1_ n2_ n3_; clear hb hbox hg; have hcz8_0 : w7.cell? ⟨gb367, 0, none⟩ = some (.bool a0_0) := (jC BK367.out 0).trans rfl; have hcz8_1 : w7.cell? ⟨gb367, 1, none⟩ = some (.bool a0_1) := (jC BK367.out 1).trans rfl; have hcz8_2 : w7.cell? ⟨gb367, 2, none⟩ = some (.bool a0_2) := (jC BK367.out 2).trans rfl; have hcz8_3 : w7.cell? ⟨gb367, 3, none⟩ = some (.bool a0_3) := (jC BK367.out 3).trans rfl; have hcz8_4 : w7.cell? ⟨gb367, 4, none⟩ = some (.bool a0_4) := (jC BK367.out 4).trans rfl; have hcz8_5 : w7.cell? ⟨gb367, 5, none⟩ = some (.int .i64 a0_5) := (jC BK367.out 5).trans rfl; have hfz8_0 := jB BK367.out 0; have hfz8_1 := jB BK367.out 1; have hfz8_2 := jB BK367.out 2; have hfz8_3 := jB BK367.out 3; have hfz8_4 := jB BK367.out 4; have hfz8_5 := jB BK367.out 5) | ((with_reducible refine ja (f := 70) rfl ?_); refine goesL_ (some 12) rfl rfl Try.func70 zr rfl #[.agg #[.bool a0_0, .bool a0_1, .bool a0_2, .bool a0_3, .bool a0_4, .int .i64 a0_5], .slice A1 l1.length c1] rfl zm ?_; (with_reducible refine (spec_l25Code.calls k a0_0 a0_1 a0_2 a0_3 a0_4 a0_5 _ _ l1 t368 _ ?side1 ?side2 A3.out).mono ?_); (case side1 => exact zs HR1 HB); (case side2 => exact HC1.out); rintro e w9 ⟨rfl, hb⟩; refine ⟨_, rfl, ?_⟩; have n0_ := jA (jT (g := gb367) (o := .cells #[.bool a0_0, .bool a0_1, .bool a0_2, .bool a0_3, .bool a0_4, .int .i64 a0_5] 23 (0, 0)) (zk BK367) hb); have n1_ := jA (jJ (zb1 HB GE367) hb); clear BK367; clear HB; have BK367 := n0_; have HB := n1_; clear n0_ n1_; (try clear hb); (try clear hb2); (try clear hk); (try clear hi)) | ((with_reducible refine jQ (N := 16) rfl ?_); refine Kd.R_lit (Kd.int .i64) _ 2 ?hg (N := 16) ?hd (xs := ([] : List Int)) (inner := []) (ok := fun _ => True) (okp := fun _ => True) ?hr ?hp (fun _ hk => hk) trivial (Below.refl _ _) (Nat.le_refl _) (by simp) ?_; (case hd => rfl); (case hg => rfl); (case hr => first | (go_simp; done) | (go_simp; rfl)); (case hp => exact (Reps.none _ _)); intro v370 w10 ho11 hb hg_ hnew_; clear hg_ hnew_; (first | rw [← Ny369.out] at ho11 | (simp only [Int.reduceToNat] at ho11; rw [← Ny369.out] at ho11)); have n0_ := jA (Kd.R_lower ho11 (jG (zb1 HB GE367))); have n1_ := jA (jT (g := gb367) (o := .cells #[.bool a0_0, .bool a0_1, .bool a0_2, .bool a0_3, .bool a0_4, .int .i64 a0_5] 23 (0, 0)) (zk BK367) hb); have n2_ := jA (jJ (zb1 HB GE367) hb); clear BK367; clear HB; have HO371 := n0_; have BK367 := n1_; have HB := n2_; clear n0_ n1_ n2_; clear hb ho11; have hcz12_0 : w10.cell? ⟨gb367, 0, none⟩ = some (.bool a0_0) := (jC BK367.out 0).trans rfl; have hcz12_1 : w10.cell? ⟨gb367, 1, none⟩ = some (.bool a0_1) := (jC BK367.out 1).trans rfl; have hcz12_2 : w10.cell? ⟨gb367, 2, none⟩ = some (.bool a0_2) := (jC BK367.out 2).trans rfl; have hcz12_3 : w10.cell? ⟨gb367, 3, none⟩ = some (.bool a0_3) := (jC BK367.out 3).trans rfl; have hcz12_4 : w10.cell? ⟨gb367, 4, none⟩ = some (.bool a0_4) := (jC BK367.out 4).trans rfl; have hcz12_5 : w10.cell? ⟨gb367, 5, none⟩ = some (.int .i64 a0_5) := (jC BK367.out 5).trans rfl; have hfz12_0 := jB BK367.out 0; have hfz12_1 := jB BK367.out 1; have hfz12_2 := jB BK367.out 2; have hfz12_3 := jB BK367.out 3; have hfz12_4 := jB BK367.out 4; have hfz12_5 := jB BK367.out 5) | ((with_reducible refine ja (f := 52) rfl ?_); refine goesL_ (some 18) rfl rfl Try.func52 zr rfl #[.agg #[.bool a0_0, .bool a0_1, .bool a0_2, .bool a0_3, .bool a0_4, .int .i64 a0_5]] rfl zm ?_; (with_reducible refine (spec_l25Number.calls k a0_0 a0_1 a0_2 a0_3 a0_4 a0_5 t372 _ A5.out).mono ?_); rintro e w13 ⟨rfl, hb⟩; refine ⟨_, rfl, ?_⟩; have n0_ := jA (jg (zo HO371) hb); have n1_ := jA (jT (g := gb367) (o := .cells #[.bool a0_0, .bool a0_1, .bool a0_2, .bool a0_3, .bool a0_4, .int .i64 a0_5] 23 (0, 0)) (zk BK367) hb); have n2_ := jA (jJ (zb1 HB GE367) hb); clear HO371; clear BK367; clear HB; have HO371 := n0_; have BK367 := n1_; have HB := n2_; clear n0_ n1_ n2_; (try clear hb); (try clear hb2); (try clear hk); (try clear hi)) | ((with_reducible refine ja (f := 74) rfl ?_); refine goesL_ (some 20) rfl rfl Try.func74 zr rfl #[.int .i64 t372, .slice A1 l1.length c1] rfl zm ?_; (with_reducible refine (spec_l25Reached.calls k t372 _ _ l1 t373 _ ?side1 ?side2 A6.out).mono ?_); (case side1 => exact zs HR1 HB); (case side2 => exact HC1.out); rintro e w14 ⟨v374, rfl, ho0, hb⟩; refine ⟨_, rfl, ?_⟩; have n0_ := jA (Kd.R_elder' (zo HO371) (Kd.R_base ho0) hb); have n1_ := jA (Kd.R_lower (Kd.R_new' ho0 (Kd.R_lt (zo HO371))) (jG (zb1 HB GE367))); have n2_ := jA (jT (g := gb367) (o := .cells #[.bool a0_0, .bool a0_1, .bool a0_2, .bool a0_3, .bool a0_4, .int .i64 a0_5] 23 (0, 0)) (zk BK367) hb); have n3_ := jA (jJ (zb1 HB GE367) hb); clear HO371; clear BK367; clear HB; have HO371 := n0_; have HO375 := n1_; have BK367 := n2_; have HB := n3_; clear n0_ n1_ n2_ n3_; (try clear hb); (try clear hb2); (try clear hk); (try clear hi); (try clear ho0)))
  go_loopg [7, 9] k (fun kq v7 v9 w' => ∃ (x7_1 : List Int) (x9_1 : Int), v9 = .int .i64 x9_1 ∧ Aside0 (spec_DeadEnds.l0 kq l1 x7_1 t373 x9_1 = some (r1, r2)) ∧ Aside0 (kq ≤ k) ∧ Aside0 (Kd.R (Kd.int .i64) 2 w' w.heap.size (fun k_ => some k_ ≠ (v374 : Value).ownBlock) v7 x7_1) ∧ Aside0 (Kd.R (Kd.int .i64) 2 w' w.heap.size (fun k_ => some k_ ≠ (v7 : Value).ownBlock) v374 t373) ∧ Aside0 (w'.heap[gb367]? = some (.cells #[.bool a0_0, .bool a0_1, .bool a0_2, .bool a0_3, .bool a0_4, .int .i64 a0_5] 23 (0, 0))) ∧ Aside0 (Below w.heap.size w w'))
  case atStart => exact ⟨(y369), (0), zz, H', ⟨Nat.le_refl _⟩, ⟨by (with_reducible repeat (first | apply jZ | apply jY | apply jc)); exact Kd.R_mono HO371.out (fun _ hk => hk.2)⟩, ⟨by (with_reducible repeat (first | apply jZ | apply jY | apply jc)); exact Kd.R_mono HO375.out (fun _ hk => hk.2)⟩, ⟨by (with_reducible repeat (first | refine jD ?_ _ | refine jF ?_ | refine jE ?_ _)); exact BK367.out⟩, ⟨zb1 HB GE367⟩⟩
  case round =>
   clear H'
   try clear c1
   try clear p2
   try clear c4
   try clear c4b0
   try clear c4b1
   try clear c5
   try clear c7
   try clear hcz12_0
   try clear hcz12_1
   try clear hcz12_2
   try clear hcz12_3
   try clear hcz12_4
   try clear hcz12_5
   try clear hcz8_0
   try clear hcz8_1
   try clear hcz8_2
   try clear hcz8_3
   try clear hcz8_4
   try clear hcz8_5
   try clear hfz12_0
   try clear hfz12_1
   try clear hfz12_2
   try clear hfz12_3
   try clear hfz12_4
   try clear hfz12_5
   try clear hfz8_0
   try clear hfz8_1
   try clear hfz8_2
   try clear hfz8_3
   try clear hfz8_4
   try clear hfz8_5
   obtain ⟨x7_1, x9_1, rfl, HA, HK1, HO_7, HO_8, BK367, HB⟩ := hrel
   cases gk with
   | zero => exact absurd HA.out (by simp [spec_DeadEnds.l0])
   | succ k1 =>
    have H := HA.out
    clear HA
    simp only [spec_DeadEnds.l0] at H
    by_cases c15 : x9_1 < (t373.length : Int)
    ·rw [if_pos c15] at H
     have c15b0 : decide (x9_1 < (t373.length : Int)) = true := jR c15
     clear c15
     by_cases c16 : 0 ≤ x9_1
     ·rw [if_pos c16] at H
      have c16b0 : decide (0 ≤ x9_1) = true := jR c16
      clear c16
      replace H := jS.mp H
      obtain ⟨t377, A170, H⟩ := H
      replace H : (if t377 = true then (spec_DeadEnds.l0 k1 l1 x7_1 t373 (wrap64 (x9_1 + 1))) else (if x7_1.length < 17592186044416 then (spec_DeadEnds.l0 k1 l1 (x7_1 ++ [rd t373 x9_1]) t373 (wrap64 (x9_1 + 1))) else (none))) = some (r1, r2) := H
      have A17 := jA A170
      clear A170
      by_cases c18 : t377 = true
      ·subst c18
       have H1 : (spec_DeadEnds.l0 k1 l1 x7_1 t373 (wrap64 (x9_1 + 1))) = some (r1, r2) := by rw [if_pos rfl] at H; exact H
       clear H
       have H := H1
       clear H1
       have H' := jA H
       clear H
       obtain ⟨Ao19, co19, eo19⟩ := Kd.R_slice HO_8.out
       subst eo19
       have p376 : 0 ≤ (x9_1 : Int) := jH za
       have q376 : x9_1 < (t373.length : Int) := jH za
       obtain ⟨ad376, e376, hx376_0⟩ := jh (je HO_8.out).2.2 x9_1 p376 q376
       cases e376
       replace p376 := eq_true p376
       replace q376 := eq_true q376
       go_wp2_with (first | ((with_reducible refine ja (f := 76) rfl ?_); refine goesL_ (some 32) rfl rfl Try.func76 zr rfl #[.int .i64 (rd t373 x9_1), .slice A1 l1.length c1] rfl zm ?_; (with_reducible refine (spec_l25Fires.calls k1 (rd t373 x9_1) _ _ l1 true _ ?side1 ?side2 A17.out).mono ?_); (case side1 => exact zs HR1 HB); (case side2 => exact HC1.out); rintro e w20 ⟨rfl, hb⟩; refine ⟨_, rfl, ?_⟩; have n0_ := jA (jg (zo HO_7) hb); have n1_ := jA (jg (zo HO_8) hb); have n2_ := jA (jT (g := gb367) (o := .cells #[.bool a0_0, .bool a0_1, .bool a0_2, .bool a0_3, .bool a0_4, .int .i64 a0_5] 23 (0, 0)) (zk BK367) hb); have n3_ := jA (jJ (zb1 HB GE367) hb); clear HO_7; clear HO_8; clear BK367; clear HB; have HO_7 := n0_; have HO_8 := n1_; have BK367 := n2_; have HB := n3_; clear n0_ n1_ n2_ n3_; (try clear hb); (try clear hb2); (try clear hk); (try clear hi)))
       go_roundg k1
       case measure => have := HK1.out; omega
       case rel => exact ⟨(x7_1), (wrap64 (x9_1 + 1)), zz, H', ⟨by have := HK1.out; omega⟩, ⟨by (with_reducible repeat (first | apply jZ | apply jY | apply jc)); exact HO_7.out⟩, ⟨by (with_reducible repeat (first | apply jZ | apply jY | apply jc)); exact HO_8.out⟩, ⟨by (with_reducible repeat (first | refine jD ?_ _ | refine jF ?_ | refine jE ?_ _)); exact BK367.out⟩, ⟨zb1 HB GE367⟩⟩
      ·replace c18 := Bool.eq_false_iff.mpr c18
       subst c18
       have H1 : (if x7_1.length < 17592186044416 then (spec_DeadEnds.l0 k1 l1 (x7_1 ++ [rd t373 x9_1]) t373 (wrap64 (x9_1 + 1))) else (none)) = some (r1, r2) := by rw [if_neg (show ¬ (false = true) by decide)] at H; exact H
       clear H
       have H := H1
       clear H1
       by_cases c21 : x7_1.length < 17592186044416
       ·rw [if_pos c21] at H
        have LMc21 := jA c21
        clear c21
        obtain ⟨y379, hy379⟩ : ∃ y_ : List Int, y_ = (x7_1 ++ [rd t373 x9_1]) := ⟨_, rfl⟩
        replace H : (spec_DeadEnds.l0 k1 l1 y379 t373 (wrap64 (x9_1 + 1))) = some (r1, r2) := by first | (rw [hy379]; with_reducible exact H) | (have H2_ := (Option.bind_some _ _).symm.trans H; rw [hy379]; with_reducible exact H2_) | (have H2_ := (Option.bind_some _ _).symm.trans H; with_reducible exact H2_) | with_reducible exact H | (rw [hy379]; exact H) | exact H
        have Ny379 := jA hy379
        clear hy379
        have H' := jA H
        clear H
        obtain ⟨Ao22, co22, eo22⟩ := Kd.R_slice HO_8.out
        subst eo22
        have p376 : 0 ≤ (x9_1 : Int) := jH za
        have q376 : x9_1 < (t373.length : Int) := jH za
        obtain ⟨ad376, e376, hx376_0⟩ := jh (je HO_8.out).2.2 x9_1 p376 q376
        cases e376
        replace p376 := eq_true p376
        replace q376 := eq_true q376
        go_wp2_with (first | ((with_reducible refine ja (f := 76) rfl ?_); refine goesL_ (some 32) rfl rfl Try.func76 zr rfl #[.int .i64 (rd t373 x9_1), .slice A1 l1.length c1] rfl zm ?_; (with_reducible refine (spec_l25Fires.calls k1 (rd t373 x9_1) _ _ l1 false _ ?side1 ?side2 A17.out).mono ?_); (case side1 => exact zs HR1 HB); (case side2 => exact HC1.out); rintro e w23 ⟨rfl, hb⟩; refine ⟨_, rfl, ?_⟩; have n0_ := jA (jg (zo HO_7) hb); have n1_ := jA (jg (zo HO_8) hb); have n2_ := jA (jT (g := gb367) (o := .cells #[.bool a0_0, .bool a0_1, .bool a0_2, .bool a0_3, .bool a0_4, .int .i64 a0_5] 23 (0, 0)) (zk BK367) hb); have n3_ := jA (jJ (zb1 HB GE367) hb); clear HO_7; clear HO_8; clear BK367; clear HB; have HO_7 := n0_; have HO_8 := n1_; have BK367 := n2_; have HB := n3_; clear n0_ n1_ n2_ n3_; (try clear hb); (try clear hb2); (try clear hk); (try clear hi); have p378 : 0 ≤ (x9_1 : Int) := jH za; have q378 : x9_1 < (t373.length : Int) := jH za; obtain ⟨ad378, e378, hx378_0⟩ := jh (je HO_8.out).2.2 x9_1 p378 q378; obtain rfl : ad376 = ad378 := (by injection e378); replace p378 := eq_true p378; replace q378 := eq_true q378) | ((with_reducible refine gate_builtin (b := .append) (xs := #[.tmp 34, .tmp 39]) rfl ?_); at_builtin; refine Kd.R_append (Kd.int .i64) (w0 := w) w.heap.size rfl (.tmp 34) (.tmp 39) 35 2 (.int .i64 0) 8 rfl Try.underlying35 info2 rfl (by decide) (by omega) u7 x7_1 (rd t373 x9_1) [.int .i64 (rd t373 x9_1)] (fun k_ => some k_ ≠ (.slice (some ad376) t373.length co22 : Value).ownBlock) (fun _ => False) rfl rfl ?aP (fun _ hk => hk.elim) ?aF ?aO ?aB ?aS ?aL ?_; (case aP => exact rfl); (case aB => exact (zb1 HB GE367)); (case aF => exact (fun k_ hk => Kd.fresh' (Kd.R_lt (zo HO_8)) k_ hk)); (case aO => exact (zo HO_7)); (case aS => exact (jG (zb1 HB GE367))); (case aL => have := LMc21.out; omega); intro v380 w24 ho hb hg hat; rw [← Ny379.out] at ho; have n0_ := jA (Kd.R_after (ok := (fun _ => True)) (by (with_reducible repeat (first | apply jZ | apply jY | apply jc)); exact Kd.R_mono HO_8.out (fun _ hk => ⟨trivial, hk⟩)) hg hat); have n1_ := jA (blk_grown (g := gb367) (o := .cells #[.bool a0_0, .bool a0_1, .bool a0_2, .bool a0_3, .bool a0_4, .int .i64 a0_5] 23 (0, 0)) (zk BK367) hg (Kd.R_ne HO_7.out BK367.out (by decide))); have n2_ := jA (hb); have n3_ := jA (ho); clear HO_8; clear BK367; clear HB; clear HO_7; have HO_8 := n0_; have BK367 := n1_; have HB := n2_; have HO381 := n3_; clear n0_ n1_ n2_ n3_; clear ho hb hg hat))
        go_roundg k1
        case measure => have := HK1.out; omega
        case rel => exact ⟨(y379), (wrap64 (x9_1 + 1)), zz, H', ⟨by have := HK1.out; omega⟩, ⟨by (with_reducible repeat (first | apply jZ | apply jY | apply jc)); exact HO381.out⟩, ⟨by (with_reducible repeat (first | apply jZ | apply jY | apply jc)); exact Kd.R_mono HO_8.out (fun _ hk => hk.2)⟩, ⟨by (with_reducible repeat (first | refine jD ?_ _ | refine jF ?_ | refine jE ?_ _)); exact BK367.out⟩, ⟨zb1 HB GE367⟩⟩
       ·rw [if_neg c21] at H
        exact absurd H (by simp)
     ·rw [if_neg c16] at H
      exact absurd H (by simp)
    ·rw [if_neg c15] at H
     have c15b0 : decide (x9_1 < (t373.length : Int)) = false := ji c15
     clear c15
     simp only [jV, jb] at H
     obtain ⟨rfl, rfl⟩ := H
     obtain ⟨Ao25, co25, eo25⟩ := Kd.R_slice HO_8.out
     subst eo25
     go_wp2
     go_ret2
     exact ⟨_, by first | rfl | (simp [errW_none, errW_some] <;> rfl) | (simp [*, errW_none, errW_some] <;> rfl), by (with_reducible repeat (first | apply jZ | apply jY | apply jc)); exact Kd.R_mono HO_7.out (fun _ hk => trivial), zb1 HB GE367⟩
 ·rw [if_neg c4] at H
  have c4b0 : (t368 == 0) = false := beq_eq_false_iff_ne.mpr c4
  have c4b1 : (t368 != 0) = true := bne_iff_ne.mpr c4
  simp only [jV, jb] at H
  obtain ⟨rfl, rfl⟩ := H
  go_enter Try.func40, Try.ntmps40
  go_wp2_with (first | ((with_reducible refine jQ (N := 2) rfl ?_); refine jO ?hg (N := 2) ?hd (cs := #[.bool a0_0, .bool a0_1, .bool a0_2, .bool a0_3, .bool a0_4, .int .i64 a0_5]) (t := 23) ?hr ?_; (case hd => rfl); (case hg => rfl); (case hr => first | (go_simp; done) | (go_simp; rfl)); intro gb367 hg w26 hbox hb; have n0_ := jA (jJ (zb0 HB) hb); have n1_ := jA (hbox); have n2_ := jA ((by rw [hg]; exact (jG (zb0 HB)) : w.heap.size ≤ gb367)); have n3_ := jA ((by rw [hg]; exact (jG (zb0 HB)) : w.heap.size ≤ gb367)); clear HB; have HB := n0_; have BK367 := n1_; have GW367 := n2_; have GE367 := n3_; clear n0_ n1_ n2_ n3_; clear hb hbox hg; have hcz27_0 : w26.cell? ⟨gb367, 0, none⟩ = some (.bool a0_0) := (jC BK367.out 0).trans rfl; have hcz27_1 : w26.cell? ⟨gb367, 1, none⟩ = some (.bool a0_1) := (jC BK367.out 1).trans rfl; have hcz27_2 : w26.cell? ⟨gb367, 2, none⟩ = some (.bool a0_2) := (jC BK367.out 2).trans rfl; have hcz27_3 : w26.cell? ⟨gb367, 3, none⟩ = some (.bool a0_3) := (jC BK367.out 3).trans rfl; have hcz27_4 : w26.cell? ⟨gb367, 4, none⟩ = some (.bool a0_4) := (jC BK367.out 4).trans rfl; have hcz27_5 : w26.cell? ⟨gb367, 5, none⟩ = some (.int .i64 a0_5) := (jC BK367.out 5).trans rfl; have hfz27_0 := jB BK367.out 0; have hfz27_1 := jB BK367.out 1; have hfz27_2 := jB BK367.out 2; have hfz27_3 := jB BK367.out 3; have hfz27_4 := jB BK367.out 4; have hfz27_5 := jB BK367.out 5) | ((with_reducible refine ja (f := 70) rfl ?_); refine goesL_ (some 12) rfl rfl Try.func70 zr rfl #[.agg #[.bool a0_0, .bool a0_1, .bool a0_2, .bool a0_3, .bool a0_4, .int .i64 a0_5], .slice A1 l1.length c1] rfl zm ?_; (with_reducible refine (spec_l25Code.calls k a0_0 a0_1 a0_2 a0_3 a0_4 a0_5 _ _ l1 t368 _ ?side1 ?side2 A3.out).mono ?_); (case side1 => exact zs HR1 HB); (case side2 => exact HC1.out); rintro e w28 ⟨rfl, hb⟩; refine ⟨_, rfl, ?_⟩; have n0_ := jA (jT (g := gb367) (o := .cells #[.bool a0_0, .bool a0_1, .bool a0_2, .bool a0_3, .bool a0_4, .int .i64 a0_5] 23 (0, 0)) (zk BK367) hb); have n1_ := jA (jJ (zb1 HB GE367) hb); clear BK367; clear HB; have BK367 := n0_; have HB := n1_; clear n0_ n1_; (try clear hb); (try clear hb2); (try clear hk); (try clear hi)))
  go_ret2
  exact ⟨_, by first | rfl | (simp [errW_none, errW_some] <;> rfl) | (simp [*, errW_none, errW_some] <;> rfl), by first | exact Kd.R_nil _ _ _ _ _ | exact Kd.N_nil _ _ _ _ _ | exact Kd.V_nil _ _ _ _ _ | exact Kd.Q_nil _ _ _ _ _ | exact Kd.S_nil _ _ _ _ _, zb1 HB GE367⟩

/-! ### laws_roomBehind: function 77 -/
def laws_roomBehind.f (a0 : Int) : Option (Int) := if (Int.tmod a0 6) = 5 then (some 0) else (if (Int.tmod a0 3) = 0 then (some 1) else (some a0))
set_option maxHeartbeats 8000000 in
set_option maxRecDepth 100000 in
theorem laws_roomBehind.calls (a0 : Int) (r : Int) (w : World) (h : laws_roomBehind.f a0 = some r) :
  Calls Try.prog 77 #[.int .i64 a0] w fun e w' => e = .returned (.int .i64 r) ∧ Drawn0 w w' := by
 have H : (if (Int.tmod a0 6) = 5 then (some 0) else (if (Int.tmod a0 3) = 0 then (some 1) else (some a0))) = some r := h
 clear h
 by_cases c2 : (Int.tmod a0 6) = 5
 ·rw [if_pos c2] at H
  have c2b0 : ((Int.tmod a0 6) == 5) = true := beq_iff_eq.mpr c2
  have c2b1 : ((Int.tmod a0 6) != 5) = false := bne_eq_false_iff_eq.mpr c2
  clear c2
  obtain rfl := jU H
  go_enter Try.func77, Try.ntmps77
  go_wp2
  go_ret
  exact ⟨by first | rfl | (simp; done) | (simp [*]; done), by repeat (first | exact Drawn0.refl _ | apply Drawn0.step)⟩
 ·rw [if_neg c2] at H
  have c2b0 : ((Int.tmod a0 6) == 5) = false := beq_eq_false_iff_ne.mpr c2
  have c2b1 : ((Int.tmod a0 6) != 5) = true := bne_iff_ne.mpr c2
  by_cases c3 : (Int.tmod a0 3) = 0
  ·rw [if_pos c3] at H
   have c3b0 : ((Int.tmod a0 3) == 0) = true := beq_iff_eq.mpr c3
   have c3b1 : ((Int.tmod a0 3) != 0) = false := bne_eq_false_iff_eq.mpr c3
   clear c3
   obtain rfl := jU H
   go_enter Try.func77, Try.ntmps77
   go_wp2
   go_ret
   exact ⟨by first | rfl | (simp; done) | (simp [*]; done), by repeat (first | exact Drawn0.refl _ | apply Drawn0.step)⟩
  ·rw [if_neg c3] at H
   have c3b0 : ((Int.tmod a0 3) == 0) = false := beq_eq_false_iff_ne.mpr c3
   have c3b1 : ((Int.tmod a0 3) != 0) = true := bne_iff_ne.mpr c3
   obtain rfl := jU H
   go_enter Try.func77, Try.ntmps77
   go_wp2
   go_ret
   exact ⟨by first | rfl | (simp; done) | (simp [*]; done), by repeat (first | exact Drawn0.refl _ | apply Drawn0.step)⟩

end Go.Proofs.Ythieppjmjgijfaa.PFnExactDeadEnds
