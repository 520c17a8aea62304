/- Functions and contracts that FnExactCanFire reaches (11 of 12). -/
import Derived.Test.YthieppjmjgijfaaQFnExactCanFirex9
namespace Go.Proofs.Ythieppjmjgijfaa.PFnExactCanFire
open Go.RowKit Go.Proofs.YthieppjmjgijfaaW.PrintWords Go.Proofs.YthieppjmjgijfaaW.PrintLast Go.Proofs.YthieppjmjgijfaaW.PrintMore
attribute [local go_sem] max2_int min2_int max_two min_two max_three min_three max_four min_four   -- for this text's walks alone
set_option linter.unusedVariables false
set_option linter.unusedSimpArgs false
open Go.Proofs.YthieppjmjgijfaaX

/-! ### spec_l25Reached: function 74 -/
mutual
def spec_l25Reached.l0 : Nat → List Int → List Int → Int → Option (List Int)
 | 0, _, _, _ => none
 | k + 1, x1, x5, x6 => if x6 < (x5.length : Int) then (if 0 ≤ x6 then ((spec_l25Next.f k (rd x5 x6) x1).bind fun t326 => (spec_l25Reached.l1 k x1 x5 x6 t326 0)) else (none)) else (spec_l25Reached.l2 k x5 (([] : List Int)) 0)
def spec_l25Reached.l1 : Nat → List Int → List Int → Int → List Int → Int → Option (List Int)
 | 0, _, _, _, _, _ => none
 | k + 1, x1, x5, x6, x7, x8 => if x8 < (x7.length : Int) then (if 0 ≤ x8 then (if (rd x7 x8) ≥ 0 then ((spec_l01Has.f k x5 (rd x7 x8)).bind fun t331 => (if t331 = true then (spec_l25Reached.l1 k x1 x5 x6 x7 (wrap64 (x8 + 1))) else (if x5.length < 17592186044416 then (spec_l25Reached.l1 k x1 (x5 ++ [rd x7 x8]) x6 x7 (wrap64 (x8 + 1))) else (none)))) else (spec_l25Reached.l1 k x1 x5 x6 x7 (wrap64 (x8 + 1)))) else (none)) else (spec_l25Reached.l0 k x1 x5 (wrap64 (x6 + 1)))
def spec_l25Reached.l2 : Nat → List Int → List Int → Int → Option (List Int)
 | 0, _, _, _ => none
 | k + 1, x5, x9, x10 => if x10 < (x5.length : Int) then (if 0 ≤ x10 then ((spec_l03Insert.f k x9 (rd x5 x10)).bind fun t340 => (spec_l25Reached.l2 k x5 t340 (wrap64 (x10 + 1)))) else (none)) else (some x9)
end
def spec_l25Reached.f (k : Nat) (a0 : Int) (l1 : List Int) : Option (List Int) := spec_l25Reached.l0 k l1 (([a0] : List Int)) 0
theorem spec_l25Reached.mono_l : ∀ k, (∀ y0 y1 y2, LeO (spec_l25Reached.l0 k y0 y1 y2) (spec_l25Reached.l0 (k + 1) y0 y1 y2)) ∧ (∀ y0 y1 y2 y3 y4, LeO (spec_l25Reached.l1 k y0 y1 y2 y3 y4) (spec_l25Reached.l1 (k + 1) y0 y1 y2 y3 y4)) ∧ (∀ y0 y1 y2, LeO (spec_l25Reached.l2 k y0 y1 y2) (spec_l25Reached.l2 (k + 1) y0 y1 y2))
 | 0 => ⟨fun _ _ _ r h => by simp [spec_l25Reached.l0] at h, fun _ _ _ _ _ r h => by simp [spec_l25Reached.l1] at h, fun _ _ _ r h => by simp [spec_l25Reached.l2] at h⟩
 | k + 1 => by
  obtain ⟨ih0, ih1, ih2⟩ := spec_l25Reached.mono_l k
  refine ⟨?_, ?_, ?_⟩
  ·intro y0 y1 y2
   unfold spec_l25Reached.l0
   repeat' first
   | (with_reducible exact ih0 _ _ _)
   | (with_reducible exact ih1 _ _ _ _ _)
   | (with_reducible exact ih2 _ _ _)
   | (with_reducible exact spec_l01Has.mono _ _ _)
   | (with_reducible exact spec_l03Insert.mono _ _ _)
   | (with_reducible exact spec_l25Next.mono _ _ _)
   | (with_reducible exact LeO.refl _)
   | (with_reducible exact LeO.none _)
   | (with_reducible refine LeO.ite ?_ ?_)
   | (with_reducible refine LeO.bind ?_ (fun _ => ?_))
   | exact ih0 _ _ _
   | exact ih1 _ _ _ _ _
   | exact ih2 _ _ _
   | exact spec_l01Has.mono _ _ _
   | exact spec_l03Insert.mono _ _ _
   | exact spec_l25Next.mono _ _ _
   | exact LeO.none _
   | refine LeO.ite ?_ ?_
   | refine LeO.bind ?_ (fun _ => ?_)
  ·intro y0 y1 y2 y3 y4
   unfold spec_l25Reached.l1
   repeat' first
   | (with_reducible exact ih0 _ _ _)
   | (with_reducible exact ih1 _ _ _ _ _)
   | (with_reducible exact ih2 _ _ _)
   | (with_reducible exact spec_l01Has.mono _ _ _)
   | (with_reducible exact spec_l03Insert.mono _ _ _)
   | (with_reducible exact spec_l25Next.mono _ _ _)
   | (with_reducible exact LeO.refl _)
   | (with_reducible exact LeO.none _)
   | (with_reducible refine LeO.ite ?_ ?_)
   | (with_reducible refine LeO.bind ?_ (fun _ => ?_))
   | exact ih0 _ _ _
   | exact ih1 _ _ _ _ _
   | exact ih2 _ _ _
   | exact spec_l01Has.mono _ _ _
   | exact spec_l03Insert.mono _ _ _
   | exact spec_l25Next.mono _ _ _
   | exact LeO.none _
   | refine LeO.ite ?_ ?_
   | refine LeO.bind ?_ (fun _ => ?_)
  ·intro y0 y1 y2
   unfold spec_l25Reached.l2
   repeat' first
   | (with_reducible exact ih0 _ _ _)
   | (with_reducible exact ih1 _ _ _ _ _)
   | (with_reducible exact ih2 _ _ _)
   | (with_reducible exact spec_l01Has.mono _ _ _)
   | (with_reducible exact spec_l03Insert.mono _ _ _)
   | (with_reducible exact spec_l25Next.mono _ _ _)
   | (with_reducible exact LeO.refl _)
   | (with_reducible exact LeO.none _)
   | (with_reducible refine LeO.ite ?_ ?_)
   | (with_reducible refine LeO.bind ?_ (fun _ => ?_))
   | exact ih0 _ _ _
   | exact ih1 _ _ _ _ _
   | exact ih2 _ _ _
   | exact spec_l01Has.mono _ _ _
   | exact spec_l03Insert.mono _ _ _
   | exact spec_l25Next.mono _ _ _
   | exact LeO.none _
   | refine LeO.ite ?_ ?_
   | refine LeO.bind ?_ (fun _ => ?_)
theorem spec_l25Reached.mono : ∀ a0 a1 k, LeO (spec_l25Reached.f k a0 a1) (spec_l25Reached.f (k + 1) a0 a1) := by
 intro a0 a1 k
 obtain ⟨ih0, ih1, ih2⟩ := spec_l25Reached.mono_l k
 unfold spec_l25Reached.f
 repeat' first
   | (with_reducible exact ih0 _ _ _)
   | (with_reducible exact ih1 _ _ _ _ _)
   | (with_reducible exact ih2 _ _ _)
   | (with_reducible exact spec_l01Has.mono _ _ _)
   | (with_reducible exact spec_l03Insert.mono _ _ _)
   | (with_reducible exact spec_l25Next.mono _ _ _)
   | (with_reducible exact LeO.refl _)
   | (with_reducible exact LeO.none _)
   | (with_reducible refine LeO.ite ?_ ?_)
   | (with_reducible refine LeO.bind ?_ (fun _ => ?_))
   | exact ih0 _ _ _
   | exact ih1 _ _ _ _ _
   | exact ih2 _ _ _
   | exact spec_l01Has.mono _ _ _
   | exact spec_l03Insert.mono _ _ _
   | exact spec_l25Next.mono _ _ _
   | exact LeO.none _
   | refine LeO.ite ?_ ?_
   | refine LeO.bind ?_ (fun _ => ?_)
set_option maxHeartbeats 8000000 in
set_option maxRecDepth 100000 in
theorem spec_l25Reached.calls (k : Nat) (a0 : Int) (A1 : Option Addr) (c1 : Nat) (l1 : List Int) (r : List Int) (w : World) (hr1 : Kd.C (Kd.int .i64) w A1 l1.length l1) (hc1 : l1.length ≤ c1) (h : spec_l25Reached.f k a0 l1 = some r) :
  Calls Try.prog 74 #[.int .i64 a0, .slice A1 l1.length c1] w fun e w' => ∃ v0_ : Value, e = .returned (v0_) ∧ Kd.R (Kd.int .i64) 2 w' w.heap.size (fun _ => True) v0_ r ∧ Below w.heap.size w w' := by
 have HR1 := jA hr1
 have HC1 := jA hc1
 clear hr1 hc1
 have HB := jA (Below.refl w.heap.size w)
 have H : (spec_l25Reached.l0 k l1 (([a0] : List Int)) 0) = some r := h
 clear h
 obtain ⟨y322, hy322⟩ : ∃ y_ : List Int, y_ = (([a0] : List Int)) := ⟨_, rfl⟩
 replace H : (spec_l25Reached.l0 k l1 y322 0) = some r := by first | (rw [hy322]; with_reducible exact H) | (have H2_ := (Option.bind_some _ _).symm.trans H; rw [hy322]; with_reducible exact H2_) | (have H2_ := (Option.bind_some _ _).symm.trans H; with_reducible exact H2_) | with_reducible exact H | (rw [hy322]; exact H) | exact H
 have Ny322 := jA hy322
 clear hy322
 have H' := jA H
 clear H
 go_enter Try.func74, Try.ntmps74
 go_wp2_with (first | ((with_reducible refine jQ (N := 12) rfl ?_); refine Kd.R_lit (Kd.int .i64) _ 2 ?hg (N := 12) ?hd (xs := ([a0] : List Int)) (inner := [.int .i64 a0]) (ok := fun _ => True) (okp := fun _ => True) ?hr ?hp (fun _ hk => hk) trivial (Below.refl _ _) (Nat.le_refl _) (by simp) ?_; (case hd => rfl); (case hg => rfl); (case hr => first | (go_simp; done) | (go_simp; rfl)); (case hp => exact (Reps.one (show Kd.M (Kd.int .i64) _ _ _ a0 [.int .i64 a0] from rfl) (Reps.none _ _))); intro v323 w3 ho4 hb hg_ hnew_; clear hg_ hnew_; (first | rw [← Ny322.out] at ho4 | (simp only [Int.reduceToNat] at ho4; rw [← Ny322.out] at ho4)); have n0_ := jA (Kd.R_lower ho4 (jG (zb0 HB))); have n1_ := jA (jJ (zb0 HB) hb); clear HB; have HO324 := n0_; have HB := n1_; clear n0_ n1_; clear hb ho4))
 go_loopg [5, 6] k (fun kq v5 v6 w' => ∃ (x5_1 : List Int) (x6_1 : Int), v6 = .int .i64 x6_1 ∧ Aside0 (spec_l25Reached.l0 kq l1 x5_1 x6_1 = some r) ∧ Aside0 (kq ≤ k) ∧ Aside0 (Kd.R (Kd.int .i64) 2 w' w.heap.size (fun _ => True) v5 x5_1) ∧ Aside0 (Below w.heap.size w w'))
 case atStart => exact ⟨(y322), (0), zz, H', ⟨Nat.le_refl _⟩, ⟨by (with_reducible repeat (first | apply jd | apply jc | apply jf)); exact HO324.out⟩, ⟨zb0 HB⟩⟩
 case round =>
  clear H'
  try clear c1
  try clear p2
  obtain ⟨x5_1, x6_1, rfl, HA, HK1, HO_5, HB⟩ := hrel
  cases gk with
  | zero => exact absurd HA.out (by simp [spec_l25Reached.l0])
  | succ k1 =>
   have H := HA.out
   clear HA
   simp only [spec_l25Reached.l0] at H
   by_cases c5 : x6_1 < (x5_1.length : Int)
   ·rw [if_pos c5] at H
    have c5b0 : decide (x6_1 < (x5_1.length : Int)) = true := jT c5
    clear c5
    by_cases c6 : 0 ≤ x6_1
    ·rw [if_pos c6] at H
     have c6b0 : decide (0 ≤ x6_1) = true := jT c6
     clear c6
     replace H := jR.mp H
     obtain ⟨t326, A70, H⟩ := H
     replace H : (spec_l25Reached.l1 k1 l1 x5_1 x6_1 t326 0) = some r := H
     have A7 := jA A70
     clear A70
     have H' := jA H
     clear H
     obtain ⟨Ao8, co8, eo8⟩ := Kd.R_slice HO_5.out
     subst eo8
     have p325 : 0 ≤ (x6_1 : Int) := jH za
     have q325 : x6_1 < (x5_1.length : Int) := jH za
     obtain ⟨ad325, e325, hx325_0⟩ := jg (je HO_5.out).2.2 x6_1 p325 q325
     cases e325
     replace p325 := eq_true p325
     replace q325 := eq_true q325
     go_wp2_with (first | ((with_reducible refine jZ (f := 71) rfl ?_); refine goesL_ (some 24) rfl rfl Try.func71 zr rfl #[.int .i64 (rd x5_1 x6_1), .slice A1 l1.length c1] rfl zm ?_; (with_reducible refine (spec_l25Next.calls k1 (rd x5_1 x6_1) _ _ l1 t326 _ ?side1 ?side2 A7.out).mono ?_); (case side1 => exact zs HR1 HB); (case side2 => exact HC1.out); rintro e w9 ⟨v327, rfl, ho0, hb⟩; refine ⟨_, rfl, ?_⟩; have n0_ := jA (Kd.R_elder' (zo HO_5) (Kd.R_base ho0) hb); have n1_ := jA (Kd.R_lower (Kd.R_new' ho0 (Kd.R_lt (zo HO_5))) (jG (zb0 HB))); have n2_ := jA (jJ (zb0 HB) hb); clear HO_5; clear HB; have HO_5 := n0_; have HO328 := n1_; have HB := n2_; clear n0_ n1_ n2_; (try clear hb); (try clear hb2); (try clear hk); (try clear hi); (try clear ho0)))
     go_loopg [5, 8] k1 (fun kq v5 v8 w' => ∃ (x5_2 : List Int) (x8_2 : Int), v8 = .int .i64 x8_2 ∧ Aside0 (spec_l25Reached.l1 kq l1 x5_2 x6_1 t326 x8_2 = some r) ∧ Aside0 (kq ≤ k1) ∧ Aside0 (Kd.R (Kd.int .i64) 2 w' w.heap.size (fun k_ => some k_ ≠ (v327 : Value).ownBlock) v5 x5_2) ∧ Aside0 (Kd.R (Kd.int .i64) 2 w' w.heap.size (fun k_ => some k_ ≠ (v5 : Value).ownBlock) v327 t326) ∧ Aside0 (Below w.heap.size w w'))
     case atStart => exact ⟨(x5_1), (0), zz, H', ⟨Nat.le_refl _⟩, ⟨by (with_reducible repeat (first | apply jd | apply jc | apply jf)); exact Kd.R_mono HO_5.out (fun _ hk => hk.2)⟩, ⟨by (with_reducible repeat (first | apply jd | apply jc | apply jf)); exact Kd.R_mono HO328.out (fun _ hk => hk.2)⟩, ⟨zb0 HB⟩⟩
     case round =>
      clear H'
      try clear c1
      try clear p2
      try clear p3
      try clear q3
      try clear hx3
      try clear c5
      try clear c5b0
      try clear c6
      try clear c6b0
      try clear c7
      try clear hx325_0
      try clear p2
      try clear p325
      try clear q325
      obtain ⟨x5_2, x8_2, rfl, HA, HK2, HO_5, HO_7, HB⟩ := hrel
      cases gk with
      | zero => exact absurd HA.out (by simp [spec_l25Reached.l1])
      | succ k2 =>
       have H := HA.out
       clear HA
       simp only [spec_l25Reached.l1] at H
       by_cases c10 : x8_2 < (t326.length : Int)
       ·rw [if_pos c10] at H
        have c10b0 : decide (x8_2 < (t326.length : Int)) = true := jT c10
        clear c10
        by_cases c11 : 0 ≤ x8_2
        ·rw [if_pos c11] at H
         have c11b0 : decide (0 ≤ x8_2) = true := jT c11
         clear c11
         by_cases c12 : (rd t326 x8_2) ≥ 0
         ·rw [if_pos c12] at H
          have c12b0 : decide (0 ≤ (rd t326 x8_2)) = true := jT c12
          clear c12
          replace H := jR.mp H
          obtain ⟨t331, A130, H⟩ := H
          replace H : (if t331 = true then (spec_l25Reached.l1 k2 l1 x5_2 x6_1 t326 (wrap64 (x8_2 + 1))) else (if x5_2.length < 17592186044416 then (spec_l25Reached.l1 k2 l1 (x5_2 ++ [rd t326 x8_2]) x6_1 t326 (wrap64 (x8_2 + 1))) else (none))) = some r := H
          have A13 := jA A130
          clear A130
          by_cases c14 : t331 = true
          ·subst c14
           have H1 : (spec_l25Reached.l1 k2 l1 x5_2 x6_1 t326 (wrap64 (x8_2 + 1))) = some r := by rw [if_pos rfl] at H; exact H
           clear H
           have H := H1
           clear H1
           have H' := jA H
           clear H
           obtain ⟨Ao15, co15, eo15⟩ := Kd.R_slice HO_7.out
           subst eo15
           have p329 : 0 ≤ (x8_2 : Int) := jH za
           have q329 : x8_2 < (t326.length : Int) := jH za
           obtain ⟨ad329, e329, hx329_0⟩ := jg (je HO_7.out).2.2 x8_2 p329 q329
           cases e329
           replace p329 := eq_true p329
           replace q329 := eq_true q329
           have p330 : 0 ≤ (x8_2 : Int) := jH za
           have q330 : x8_2 < (t326.length : Int) := jH za
           obtain ⟨ad330, e330, hx330_0⟩ := jg (je HO_7.out).2.2 x8_2 p330 q330
           obtain rfl : ad329 = ad330 := (by injection e330)
           replace p330 := eq_true p330
           replace q330 := eq_true q330
           obtain ⟨Ao16, co16, eo16⟩ := Kd.R_slice HO_5.out
           subst eo16
           go_wp2_with (first | (go_at_call 72; (with_reducible refine (spec_l01Has.calls k2 _ _ x5_2 (rd t326 x8_2) true _ ?side1 ?side2 A13.out).mono ?_); (case side1 => repeat (first | exact (je HO_5.out).2.2 | (with_reducible refine Kd.C_alloc ?_ _) | (with_reducible refine Kd.C_drewN ?_ _) | (with_reducible refine Kd.C_drew ?_))); (case side2 => exact (je HO_5.out).2.1); rintro e w' ⟨rfl, ⟨nd, rfl⟩⟩))
           go_roundg k2
           case measure => have := HK1.out; have := HK2.out; omega
           case rel => exact ⟨(x5_2), (wrap64 (x8_2 + 1)), zz, H', ⟨by have := HK1.out; have := HK2.out; omega⟩, ⟨by (with_reducible repeat (first | apply jd | apply jc | apply jf)); exact HO_5.out⟩, ⟨by (with_reducible repeat (first | apply jd | apply jc | apply jf)); exact HO_7.out⟩, ⟨zb0 HB⟩⟩
          ·replace c14 := Bool.eq_false_iff.mpr c14
           subst c14
           have H1 : (if x5_2.length < 17592186044416 then (spec_l25Reached.l1 k2 l1 (x5_2 ++ [rd t326 x8_2]) x6_1 t326 (wrap64 (x8_2 + 1))) else (none)) = some r := by rw [if_neg (show ¬ (false = true) by decide)] at H; exact H
           clear H
           have H := H1
           clear H1
           by_cases c17 : x5_2.length < 17592186044416
           ·rw [if_pos c17] at H
            have LMc17 := jA c17
            clear c17
            obtain ⟨y333, hy333⟩ : ∃ y_ : List Int, y_ = (x5_2 ++ [rd t326 x8_2]) := ⟨_, rfl⟩
            replace H : (spec_l25Reached.l1 k2 l1 y333 x6_1 t326 (wrap64 (x8_2 + 1))) = some r := by first | (rw [hy333]; with_reducible exact H) | (have H2_ := (Option.bind_some _ _).symm.trans H; rw [hy333]; with_reducible exact H2_) | (have H2_ := (Option.bind_some _ _).symm.trans H; with_reducible exact H2_) | with_reducible exact H | (rw [hy333]; exact H) | exact H
            have Ny333 := jA hy333
            clear hy333
            have H' := jA H
            clear H
            obtain ⟨Ao18, co18, eo18⟩ := Kd.R_slice HO_7.out
            subst eo18
            have p329 : 0 ≤ (x8_2 : Int) := jH za
            have q329 : x8_2 < (t326.length : Int) := jH za
            obtain ⟨ad329, e329, hx329_0⟩ := jg (je HO_7.out).2.2 x8_2 p329 q329
            cases e329
            replace p329 := eq_true p329
            replace q329 := eq_true q329
            have p330 : 0 ≤ (x8_2 : Int) := jH za
            have q330 : x8_2 < (t326.length : Int) := jH za
            obtain ⟨ad330, e330, hx330_0⟩ := jg (je HO_7.out).2.2 x8_2 p330 q330
            obtain rfl : ad329 = ad330 := (by injection e330)
            replace p330 := eq_true p330
            replace q330 := eq_true q330
            obtain ⟨Ao19, co19, eo19⟩ := Kd.R_slice HO_5.out
            subst eo19
            go_wp2_with (first | (go_at_call 72; (with_reducible refine (spec_l01Has.calls k2 _ _ x5_2 (rd t326 x8_2) false _ ?side1 ?side2 A13.out).mono ?_); (case side1 => repeat (first | exact (je HO_5.out).2.2 | (with_reducible refine Kd.C_alloc ?_ _) | (with_reducible refine Kd.C_drewN ?_ _) | (with_reducible refine Kd.C_drew ?_))); (case side2 => exact (je HO_5.out).2.1); rintro e w' ⟨rfl, ⟨nd, rfl⟩⟩; have p332 : 0 ≤ (x8_2 : Int) := jH za; have q332 : x8_2 < (t326.length : Int) := jH za; obtain ⟨ad332, e332, hx332_0⟩ := jg (je HO_7.out).2.2 x8_2 p332 q332; obtain rfl : ad329 = ad332 := (by injection e332); replace p332 := eq_true p332; replace q332 := eq_true q332) | ((with_reducible refine gate_builtin (b := .append) (xs := #[.tmp 45, .tmp 50]) rfl ?_); at_builtin; refine Kd.R_append (Kd.int .i64) (w0 := w) w.heap.size rfl (.tmp 45) (.tmp 50) 35 2 (.int .i64 0) 8 rfl Try.underlying35 info2 rfl (by decide) (by omega) (.slice Ao19 x5_2.length co19) x5_2 (rd t326 x8_2) [.int .i64 (rd t326 x8_2)] (fun k_ => some k_ ≠ (.slice (some ad329) t326.length co18 : Value).ownBlock) (fun _ => False) rfl rfl ?aP (fun _ hk => hk.elim) ?aF ?aO ?aB ?aS ?aL ?_; (case aP => exact rfl); (case aB => exact (zb0 HB)); (case aF => exact (fun k_ hk => Kd.fresh' (Kd.R_lt (zo HO_7)) k_ hk)); (case aO => exact (zo HO_5)); (case aS => exact (jG (zb0 HB))); (case aL => have := LMc17.out; omega); intro v334 w20 ho hb hg hat; rw [← Ny333.out] at ho; have n0_ := jA (Kd.R_after (ok := (fun _ => True)) (by (with_reducible repeat (first | apply jd | apply jc | apply jf)); exact Kd.R_mono HO_7.out (fun _ hk => ⟨trivial, hk⟩)) hg hat); have n1_ := jA (hb); have n2_ := jA (ho); clear HO_7; clear HB; clear HO_5; have HO_7 := n0_; have HB := n1_; have HO335 := n2_; clear n0_ n1_ n2_; clear ho hb hg hat))
            go_roundg k2
            case measure => have := HK1.out; have := HK2.out; omega
            case rel => exact ⟨(y333), (wrap64 (x8_2 + 1)), zz, H', ⟨by have := HK1.out; have := HK2.out; omega⟩, ⟨by (with_reducible repeat (first | apply jd | apply jc | apply jf)); exact HO335.out⟩, ⟨by (with_reducible repeat (first | apply jd | apply jc | apply jf)); exact Kd.R_mono HO_7.out (fun _ hk => hk.2)⟩, ⟨zb0 HB⟩⟩
           ·rw [if_neg c17] at H
            exact absurd H (by simp)
         ·rw [if_neg c12] at H
          have c12b0 : decide (0 ≤ (rd t326 x8_2)) = false := jh c12
          clear c12
          have H' := jA H
          clear H
          obtain ⟨Ao21, co21, eo21⟩ := Kd.R_slice HO_7.out
          subst eo21
          have p329 : 0 ≤ (x8_2 : Int) := jH za
          have q329 : x8_2 < (t326.length : Int) := jH za
          obtain ⟨ad329, e329, hx329_0⟩ := jg (je HO_7.out).2.2 x8_2 p329 q329
          cases e329
          replace p329 := eq_true p329
          replace q329 := eq_true q329
          go_wp2
          go_roundg k2
          case measure => have := HK1.out; have := HK2.out; omega
          case rel => exact ⟨(x5_2), (wrap64 (x8_2 + 1)), zz, H', ⟨by have := HK1.out; have := HK2.out; omega⟩, ⟨by (with_reducible repeat (first | apply jd | apply jc | apply jf)); exact HO_5.out⟩, ⟨by (with_reducible repeat (first | apply jd | apply jc | apply jf)); exact HO_7.out⟩, ⟨zb0 HB⟩⟩
        ·rw [if_neg c11] at H
         exact absurd H (by simp)
       ·rw [if_neg c10] at H
        have c10b0 : decide (x8_2 < (t326.length : Int)) = false := jh c10
        clear c10
        have H' := jA H
        clear H
        obtain ⟨Ao22, co22, eo22⟩ := Kd.R_slice HO_7.out
        subst eo22
        go_wp2
        go_roundg k2
        case measure => have := HK1.out; have := HK2.out; omega
        case rel => exact ⟨(x5_2), (wrap64 (x6_1 + 1)), zz, H', ⟨by have := HK1.out; have := HK2.out; omega⟩, ⟨by (with_reducible repeat (first | apply jd | apply jc | apply jf)); exact Kd.R_mono HO_5.out (fun _ hk => trivial)⟩, ⟨zb0 HB⟩⟩
    ·rw [if_neg c6] at H
     exact absurd H (by simp)
   ·rw [if_neg c5] at H
    have c5b0 : decide (x6_1 < (x5_1.length : Int)) = false := jh c5
    clear c5
    obtain ⟨y336, hy336⟩ : ∃ y_ : List Int, y_ = (([] : List Int)) := ⟨_, rfl⟩
    replace H : (spec_l25Reached.l2 k1 x5_1 y336 0) = some r := by first | (rw [hy336]; with_reducible exact H) | (have H2_ := (Option.bind_some _ _).symm.trans H; rw [hy336]; with_reducible exact H2_) | (have H2_ := (Option.bind_some _ _).symm.trans H; with_reducible exact H2_) | with_reducible exact H | (rw [hy336]; exact H) | exact H
    have Ny336 := jA hy336
    clear hy336
    have H' := jA H
    clear H
    obtain ⟨Ao23, co23, eo23⟩ := Kd.R_slice HO_5.out
    subst eo23
    go_wp2_with (first | ((with_reducible refine jQ (N := 52) rfl ?_); refine Kd.R_lit (Kd.int .i64) _ 2 ?hg (N := 52) ?hd (xs := ([] : List Int)) (inner := []) (ok := fun _ => True) (okp := fun _ => True) ?hr ?hp (fun _ hk => hk) trivial (Below.refl _ _) (Nat.le_refl _) (by simp) ?_; (case hd => rfl); (case hg => rfl); (case hr => first | (go_simp; done) | (go_simp; rfl)); (case hp => exact (Reps.none _ _)); intro v337 w24 ho25 hb hg_ hnew_; clear hg_ hnew_; (first | rw [← Ny336.out] at ho25 | (simp only [Int.reduceToNat] at ho25; rw [← Ny336.out] at ho25)); have n0_ := jA (Kd.R_elder' (zo HO_5) (Kd.R_base ho25) hb); have n1_ := jA (Kd.R_lower (Kd.R_new' ho25 (Kd.R_lt (zo HO_5))) (jG (zb0 HB))); have n2_ := jA (jJ (zb0 HB) hb); clear HO_5; clear HB; have HO_5 := n0_; have HO338 := n1_; have HB := n2_; clear n0_ n1_ n2_; clear hb ho25))
    go_loopg [9, 10] k1 (fun kq v9 v10 w' => ∃ (x9_2 : List Int) (x10_2 : Int), v10 = .int .i64 x10_2 ∧ Aside0 (spec_l25Reached.l2 kq x5_1 x9_2 x10_2 = some r) ∧ Aside0 (kq ≤ k1) ∧ Aside0 (Kd.R (Kd.int .i64) 2 w' w.heap.size (fun k_ => some k_ ≠ (v9 : Value).ownBlock) (.slice Ao23 x5_1.length co23) x5_1) ∧ Aside0 (Kd.R (Kd.int .i64) 2 w' w.heap.size (fun k_ => some k_ ≠ ((.slice Ao23 x5_1.length co23) : Value).ownBlock) v9 x9_2) ∧ Aside0 (Below w.heap.size w w'))
    case atStart => exact ⟨(y336), (0), zz, H', ⟨Nat.le_refl _⟩, ⟨by (with_reducible repeat (first | apply jd | apply jc | apply jf)); exact Kd.R_mono HO_5.out (fun _ hk => hk.2)⟩, ⟨by (with_reducible repeat (first | apply jd | apply jc | apply jf)); exact Kd.R_mono HO338.out (fun _ hk => hk.2)⟩, ⟨zb0 HB⟩⟩
    case round =>
     clear H'
     try clear c1
     try clear p2
     try clear p3
     try clear q3
     try clear hx3
     try clear c5
     try clear c5b0
     try clear c6
     try clear c6b0
     try clear p6
     try clear c7
     try clear c10
     try clear c10b0
     try clear c11
     try clear c11b0
     try clear c12
     try clear c12b0
     try clear c14
     try clear c17
     try clear hx325_0
     try clear hx329_0
     try clear hx330_0
     try clear hx332_0
     try clear p2
     try clear p3
     try clear p325
     try clear p329
     try clear p330
     try clear p332
     try clear q3
     try clear q325
     try clear q329
     try clear q330
     try clear q332
     obtain ⟨x9_2, x10_2, rfl, HA, HK2, HO_5, HO_9, HB⟩ := hrel
     cases gk with
     | zero => exact absurd HA.out (by simp [spec_l25Reached.l2])
     | succ k2 =>
      have H := HA.out
      clear HA
      simp only [spec_l25Reached.l2] at H
      by_cases c26 : x10_2 < (x5_1.length : Int)
      ·rw [if_pos c26] at H
       have c26b0 : decide (x10_2 < (x5_1.length : Int)) = true := jT c26
       clear c26
       by_cases c27 : 0 ≤ x10_2
       ·rw [if_pos c27] at H
        have c27b0 : decide (0 ≤ x10_2) = true := jT c27
        clear c27
        replace H := jR.mp H
        obtain ⟨t340, A280, H⟩ := H
        replace H : (spec_l25Reached.l2 k2 x5_1 t340 (wrap64 (x10_2 + 1))) = some r := H
        have A28 := jA A280
        clear A280
        have H' := jA H
        clear H
        have p339 : 0 ≤ (x10_2 : Int) := jH za
        have q339 : x10_2 < (x5_1.length : Int) := jH za
        obtain ⟨ad339, e339, hx339_0⟩ := jg (je HO_5.out).2.2 x10_2 p339 q339
        cases e339
        replace p339 := eq_true p339
        replace q339 := eq_true q339
        obtain ⟨Ao29, co29, eo29⟩ := Kd.R_slice HO_9.out
        subst eo29
        go_wp2_with (first | ((with_reducible refine jZ (f := 88) rfl ?_); refine goesL_ (some 64) rfl rfl Try.func88 zr rfl #[.slice Ao29 x9_2.length co29, .int .i64 (rd x5_1 x10_2)] rfl zm ?_; (with_reducible refine (spec_l03Insert.calls k2 (fun k_ => some k_ = (.slice Ao29 x9_2.length co29 : Value).ownBlock) (.slice Ao29 x9_2.length co29) x9_2 (rd x5_1 x10_2) t340 w _ ?side1 ?side2 A28.out).mono ?_); (case side1 => repeat (first | (with_reducible first | exact HB.out | apply below_alloc | apply pw_below_drewN | apply below_drew1) | exact HB.out)); (case side2 => exact Kd.R_tight rfl HO_9.out); rintro e w30 ⟨v341, rfl, ho0, hb, hkp⟩; refine ⟨_, rfl, ?_⟩; have n0_ := jA (Kd.R_mono (ok' := fun k_ => some k_ ≠ (v341 : Value).ownBlock) (Kd.R_keptB (HO_5.out) hkp (fun k_ hk_ hs_ => (hk_) hs_)) (fun k_ hk_ => fun e_ => Or.elim (ho0.1 k_ e_.symm) (fun hs_ => hk_.2.1 hs_) (fun hn_ => Nat.not_le.2 hk_.2.2 hn_))); have n1_ := jA (Kd.R_mono (ok' := fun k_ => some k_ ≠ (.slice (some ad339) x5_1.length co23 : Value).ownBlock) ho0 (fun k_ hk_ => Or.elim hk_ (fun hs_ => fun e_ => (((HO_5.out).1 k_ e_.symm)) hs_) (fun hn_ => (Kd.fresh' (Kd.R_lt (zo HO_5)) k_ hn_)))); have n2_ := jA (hb); clear HO_5; clear HB; clear HO_9; have HO_5 := n0_; have HO342 := n1_; have HB := n2_; clear n0_ n1_ n2_; (try clear hb); (try clear hkp); (try clear ho0)))
        go_roundg k2
        case measure => have := HK1.out; have := HK2.out; omega
        case rel => exact ⟨(t340), (wrap64 (x10_2 + 1)), zz, H', ⟨by have := HK1.out; have := HK2.out; omega⟩, ⟨by (with_reducible repeat (first | apply jd | apply jc | apply jf)); exact HO_5.out⟩, ⟨by (with_reducible repeat (first | apply jd | apply jc | apply jf)); exact HO342.out⟩, ⟨zb0 HB⟩⟩
       ·rw [if_neg c27] at H
        exact absurd H (by simp)
      ·rw [if_neg c26] at H
       have c26b0 : decide (x10_2 < (x5_1.length : Int)) = false := jh c26
       clear c26
       obtain rfl := jV H
       go_wp2
       go_ret
       exact ⟨_, by first | rfl | (simp [errW_none, errW_some] <;> rfl) | (simp [*, errW_none, errW_some] <;> rfl), by (with_reducible repeat (first | apply jd | apply jc | apply jf)); exact Kd.R_mono HO_9.out (fun _ hk => trivial), zb0 HB⟩

/-! ### spec_l25Fires: function 76 -/
def spec_l25Fires.l0 : Nat → List Int → Int → Option (Bool)
 | 0, _, _ => none
 | k + 1, x5, x6 => if x6 < (x5.length : Int) then (if 0 ≤ x6 then ((spec_l25With.f (rd x5 x6)).bind fun bt347 => (if bt347.2.2.1 = true then (if bt347.2.2.2.1 = true then (spec_l25Fires.l0 k x5 (wrap64 (x6 + 1))) else (some true)) else (spec_l25Fires.l0 k x5 (wrap64 (x6 + 1))))) else (none)) else (some false)
def spec_l25Fires.f (k : Nat) (a0 : Int) (l1 : List Int) : Option (Bool) := (spec_l25Reached.f k a0 l1).bind fun t343 => (spec_l25Fires.l0 k t343 0)
theorem spec_l25Fires.mono_l : ∀ k, (∀ y0 y1, LeO (spec_l25Fires.l0 k y0 y1) (spec_l25Fires.l0 (k + 1) y0 y1))
 | 0 => fun _ _ r h => by simp [spec_l25Fires.l0] at h
 | k + 1 => by
  have ih0 := spec_l25Fires.mono_l k
  ·intro y0 y1
   unfold spec_l25Fires.l0
   repeat' first
   | (with_reducible exact ih0 _ _)
   | (with_reducible exact spec_l25Reached.mono _ _ _)
   | (with_reducible exact LeO.refl _)
   | (with_reducible exact LeO.none _)
   | (with_reducible refine LeO.ite ?_ ?_)
   | (with_reducible refine LeO.bind ?_ (fun _ => ?_))
   | exact ih0 _ _
   | exact spec_l25Reached.mono _ _ _
   | exact LeO.none _
   | refine LeO.ite ?_ ?_
   | refine LeO.bind ?_ (fun _ => ?_)
theorem spec_l25Fires.mono : ∀ a0 a1 k, LeO (spec_l25Fires.f k a0 a1) (spec_l25Fires.f (k + 1) a0 a1) := by
 intro a0 a1 k
 have ih0 := spec_l25Fires.mono_l k
 unfold spec_l25Fires.f
 repeat' first
   | (with_reducible exact ih0 _ _)
   | (with_reducible exact spec_l25Reached.mono _ _ _)
   | (with_reducible exact LeO.refl _)
   | (with_reducible exact LeO.none _)
   | (with_reducible refine LeO.ite ?_ ?_)
   | (with_reducible refine LeO.bind ?_ (fun _ => ?_))
   | exact ih0 _ _
   | exact spec_l25Reached.mono _ _ _
   | exact LeO.none _
   | refine LeO.ite ?_ ?_
   | refine LeO.bind ?_ (fun _ => ?_)
set_option maxHeartbeats 8000000 in
set_option maxRecDepth 100000 in
theorem spec_l25Fires.calls (k : Nat) (a0 : Int) (A1 : Option Addr) (c1 : Nat) (l1 : List Int) (r : Bool) (w : World) (hr1 : Kd.C (Kd.int .i64) w A1 l1.length l1) (hc1 : l1.length ≤ c1) (h : spec_l25Fires.f k a0 l1 = some r) :
  Calls Try.prog 76 #[.int .i64 a0, .slice A1 l1.length c1] w fun e w' => e = .returned (.bool r) ∧ Below w.heap.size w w' := by
 have hu23 := Try.underlying23
 have HR1 := jA hr1
 have HC1 := jA hc1
 clear hr1 hc1
 have HB := jA (Below.refl w.heap.size w)
 have H : ((spec_l25Reached.f k a0 l1).bind fun t343 => (spec_l25Fires.l0 k t343 0)) = some r := h
 clear h
 replace H := jR.mp H
 obtain ⟨t343, A30, H⟩ := H
 replace H : (spec_l25Fires.l0 k t343 0) = some r := H
 have A3 := jA A30
 clear A30
 have H' := jA H
 clear H
 go_enter Try.func76, Try.ntmps76
 go_wp2_with (first | ((with_reducible refine jZ (f := 74) rfl ?_); refine goesL_ (some 10) rfl rfl Try.func74 zr rfl #[.int .i64 a0, .slice A1 l1.length c1] rfl zm ?_; (with_reducible refine (spec_l25Reached.calls k a0 _ _ l1 t343 _ ?side1 ?side2 A3.out).mono ?_); (case side1 => repeat (first | exact HR1.out | (with_reducible refine Kd.C_alloc ?_ _) | (with_reducible refine Kd.C_drewN ?_ _) | (with_reducible refine Kd.C_drew ?_))); (case side2 => exact HC1.out); rintro e w4 ⟨v344, rfl, ho0, hb⟩; refine ⟨_, rfl, ?_⟩; have n0_ := jA (Kd.R_lower ho0 (jG (zb0 HB))); have n1_ := jA (jJ (zb0 HB) hb); clear HB; have HO345 := n0_; have HB := n1_; clear n0_ n1_; (try clear hb); (try clear hb2); (try clear hk); (try clear hi); (try clear ho0)))
 go_loopg [6] k (fun kq v6 w' => ∃ (x6_1 : Int), v6 = .int .i64 x6_1 ∧ Aside0 (spec_l25Fires.l0 kq t343 x6_1 = some r) ∧ Aside0 (kq ≤ k) ∧ Aside0 (Kd.R (Kd.int .i64) 2 w' w.heap.size (fun _ => True) v344 t343) ∧ Aside0 (Below w.heap.size w w'))
 case atStart => exact ⟨(0), zz, H', ⟨Nat.le_refl _⟩, ⟨by (with_reducible repeat (first | apply jd | apply jc | apply jf)); exact HO345.out⟩, ⟨zb0 HB⟩⟩
 case round =>
  clear H'
  try clear c1
  try clear p2
  obtain ⟨x6_1, rfl, HA, HK1, HO_5, HB⟩ := hrel
  cases gk with
  | zero => exact absurd HA.out (by simp [spec_l25Fires.l0])
  | succ k1 =>
   have H := HA.out
   clear HA
   simp only [spec_l25Fires.l0] at H
   by_cases c5 : x6_1 < (t343.length : Int)
   ·rw [if_pos c5] at H
    have c5b0 : decide (x6_1 < (t343.length : Int)) = true := jT c5
    clear c5
    by_cases c6 : 0 ≤ x6_1
    ·rw [if_pos c6] at H
     have c6b0 : decide (0 ≤ x6_1) = true := jT c6
     clear c6
     replace H := jR.mp H
     obtain ⟨⟨t347, t348, t349, t350, t351, t352⟩, A70, H⟩ := H
     replace H : (if t349 = true then (if t350 = true then (spec_l25Fires.l0 k1 t343 (wrap64 (x6_1 + 1))) else (some true)) else (spec_l25Fires.l0 k1 t343 (wrap64 (x6_1 + 1)))) = some r := H
     have A7 := jA A70
     clear A70
     by_cases c8 : t349 = true
     ·subst c8
      have H1 : (if t350 = true then (spec_l25Fires.l0 k1 t343 (wrap64 (x6_1 + 1))) else (some true)) = some r := by rw [if_pos rfl] at H; exact H
      clear H
      have H := H1
      clear H1
      by_cases c9 : t350 = true
      ·subst c9
       have H1 : (spec_l25Fires.l0 k1 t343 (wrap64 (x6_1 + 1))) = some r := by rw [if_pos rfl] at H; exact H
       clear H
       have H := H1
       clear H1
       have H' := jA H
       clear H
       obtain ⟨Ao10, co10, eo10⟩ := Kd.R_slice HO_5.out
       subst eo10
       have p346 : 0 ≤ (x6_1 : Int) := jH za
       have q346 : x6_1 < (t343.length : Int) := jH za
       obtain ⟨ad346, e346, hx346_0⟩ := jg (je HO_5.out).2.2 x6_1 p346 q346
       cases e346
       replace p346 := eq_true p346
       replace q346 := eq_true q346
       go_wp2_with (first | ((with_reducible refine jZ (f := 48) rfl ?_); refine goesL_ (some 21) rfl rfl Try.func48 zr rfl #[.int .i64 (rd t343 x6_1)] rfl zm ?_; (with_reducible refine (spec_l25With.calls (rd t343 x6_1) t347 t348 true true t351 t352 _ A7.out).mono ?_); rintro e w11 ⟨rfl, hb⟩; refine ⟨_, rfl, ?_⟩; have n0_ := jA (ji (zo HO_5) hb); have n1_ := jA (jJ (zb0 HB) hb); clear HO_5; clear HB; have HO_5 := n0_; have HB := n1_; clear n0_ n1_; (try clear hb); (try clear hb2); (try clear hk); (try clear hi)) | ((with_reducible refine jQ (N := 7) rfl ?_); refine jO ?hg (N := 7) ?hd (cs := #[.bool false, .bool false, .bool false, .bool false, .bool false, .int .i64 0]) (t := 23) ?hr ?_; (case hd => rfl); (case hg => rfl); (case hr => first | (go_simp; done) | (go_simp; rfl)); intro gb353 hg w12 hbox hb; have n0_ := jA (ji (zo HO_5) hb); have n1_ := jA (jJ (zb0 HB) hb); have n2_ := jA (hbox); have n3_ := jA ((by rw [hg]; exact (jG (zb0 HB)) : w.heap.size ≤ gb353)); have n4_ := jA ((by rw [hg]; exact (jG (zb0 HB)) : w.heap.size ≤ gb353)); clear HO_5; clear HB; have HO_5 := n0_; have HB := n1_; have BK353 := n2_; have GW353 := n3_; have GE353 := n4_; clear n0_ n1_ n2_ n3_ n4_; clear hb hbox hg; have hcz13_0 : w12.cell? ⟨gb353, 0, none⟩ = some (.bool false) := (jC BK353.out 0).trans rfl; have hcz13_1 : w12.cell? ⟨gb353, 1, none⟩ = some (.bool false) := (jC BK353.out 1).trans rfl; have hcz13_2 : w12.cell? ⟨gb353, 2, none⟩ = some (.bool false) := (jC BK353.out 2).trans rfl; have hcz13_3 : w12.cell? ⟨gb353, 3, none⟩ = some (.bool false) := (jC BK353.out 3).trans rfl; have hcz13_4 : w12.cell? ⟨gb353, 4, none⟩ = some (.bool false) := (jC BK353.out 4).trans rfl; have hcz13_5 : w12.cell? ⟨gb353, 5, none⟩ = some (.int .i64 0) := (jC BK353.out 5).trans rfl; have hfz13_0 := jB BK353.out 0; have hfz13_1 := jB BK353.out 1; have hfz13_2 := jB BK353.out 2; have hfz13_3 := jB BK353.out 3; have hfz13_4 := jB BK353.out 4; have hfz13_5 := jB BK353.out 5))
       go_roundg k1
       case measure => have := HK1.out; omega
       case rel => exact ⟨(wrap64 (x6_1 + 1)), zz, H', ⟨by have := HK1.out; omega⟩, ⟨by (with_reducible repeat (first | apply jd | apply jc | apply jf)); exact Kd.R_mono (Kd.R_far (p := ⟨gb353, 5, none⟩) (Kd.R_far (p := ⟨gb353, 4, none⟩) (Kd.R_far (p := ⟨gb353, 3, none⟩) (Kd.R_far (p := ⟨gb353, 2, none⟩) (Kd.R_far (p := ⟨gb353, 1, none⟩) (Kd.R_far (p := ⟨gb353, 0, none⟩) (Kd.R_types HO_5.out BK353.out (by decide)) (fun _ hk => hk.2) (.bool t347)) (fun _ hk => hk.2) (.bool t348)) (fun _ hk => hk.2) (.bool true)) (fun _ hk => hk.2) (.bool true)) (fun _ hk => hk.2) (.bool t351)) (fun _ hk => hk.2) (.int .i64 t352)) (fun _ hk => trivial)⟩, ⟨zb1 HB GE353⟩⟩
      ·replace c9 := Bool.eq_false_iff.mpr c9
       subst c9
       have H1 : (some true) = some r := by rw [if_neg (show ¬ (false = true) by decide)] at H; exact H
       clear H
       have H := H1
       clear H1
       obtain rfl := jV H
       obtain ⟨Ao14, co14, eo14⟩ := Kd.R_slice HO_5.out
       subst eo14
       have p346 : 0 ≤ (x6_1 : Int) := jH za
       have q346 : x6_1 < (t343.length : Int) := jH za
       obtain ⟨ad346, e346, hx346_0⟩ := jg (je HO_5.out).2.2 x6_1 p346 q346
       cases e346
       replace p346 := eq_true p346
       replace q346 := eq_true q346
       go_wp2_with (first | ((with_reducible refine jZ (f := 48) rfl ?_); refine goesL_ (some 21) rfl rfl Try.func48 zr rfl #[.int .i64 (rd t343 x6_1)] rfl zm ?_; (with_reducible refine (spec_l25With.calls (rd t343 x6_1) t347 t348 true false t351 t352 _ A7.out).mono ?_); rintro e w15 ⟨rfl, hb⟩; refine ⟨_, rfl, ?_⟩; have n0_ := jA (ji (zo HO_5) hb); have n1_ := jA (jJ (zb0 HB) hb); clear HO_5; clear HB; have HO_5 := n0_; have HB := n1_; clear n0_ n1_; (try clear hb); (try clear hb2); (try clear hk); (try clear hi)) | ((with_reducible refine jQ (N := 7) rfl ?_); refine jO ?hg (N := 7) ?hd (cs := #[.bool false, .bool false, .bool false, .bool false, .bool false, .int .i64 0]) (t := 23) ?hr ?_; (case hd => rfl); (case hg => rfl); (case hr => first | (go_simp; done) | (go_simp; rfl)); intro gb353 hg w16 hbox hb; have n0_ := jA (ji (zo HO_5) hb); have n1_ := jA (jJ (zb0 HB) hb); have n2_ := jA (hbox); have n3_ := jA ((by rw [hg]; exact (jG (zb0 HB)) : w.heap.size ≤ gb353)); have n4_ := jA ((by rw [hg]; exact (jG (zb0 HB)) : w.heap.size ≤ gb353)); clear HO_5; clear HB; have HO_5 := n0_; have HB := n1_; have BK353 := n2_; have GW353 := n3_; have GE353 := n4_; clear n0_ n1_ n2_ n3_ n4_; clear hb hbox hg; have hcz17_0 : w16.cell? ⟨gb353, 0, none⟩ = some (.bool false) := (jC BK353.out 0).trans rfl; have hcz17_1 : w16.cell? ⟨gb353, 1, none⟩ = some (.bool false) := (jC BK353.out 1).trans rfl; have hcz17_2 : w16.cell? ⟨gb353, 2, none⟩ = some (.bool false) := (jC BK353.out 2).trans rfl; have hcz17_3 : w16.cell? ⟨gb353, 3, none⟩ = some (.bool false) := (jC BK353.out 3).trans rfl; have hcz17_4 : w16.cell? ⟨gb353, 4, none⟩ = some (.bool false) := (jC BK353.out 4).trans rfl; have hcz17_5 : w16.cell? ⟨gb353, 5, none⟩ = some (.int .i64 0) := (jC BK353.out 5).trans rfl; have hfz17_0 := jB BK353.out 0; have hfz17_1 := jB BK353.out 1; have hfz17_2 := jB BK353.out 2; have hfz17_3 := jB BK353.out 3; have hfz17_4 := jB BK353.out 4; have hfz17_5 := jB BK353.out 5))
       go_ret
       exact ⟨by first | rfl | (simp [errW_none, errW_some] <;> rfl) | (simp [*, errW_none, errW_some] <;> rfl), zb1 HB GE353⟩
     ·replace c8 := Bool.eq_false_iff.mpr c8
      subst c8
      have H1 : (spec_l25Fires.l0 k1 t343 (wrap64 (x6_1 + 1))) = some r := by rw [if_neg (show ¬ (false = true) by decide)] at H; exact H
      clear H
      have H := H1
      clear H1
      have H' := jA H
      clear H
      obtain ⟨Ao18, co18, eo18⟩ := Kd.R_slice HO_5.out
      subst eo18
      have p346 : 0 ≤ (x6_1 : Int) := jH za
      have q346 : x6_1 < (t343.length : Int) := jH za
      obtain ⟨ad346, e346, hx346_0⟩ := jg (je HO_5.out).2.2 x6_1 p346 q346
      cases e346
      replace p346 := eq_true p346
      replace q346 := eq_true q346
      go_wp2_with (first | ((with_reducible refine jZ (f := 48) rfl ?_); refine goesL_ (some 21) rfl rfl Try.func48 zr rfl #[.int .i64 (rd t343 x6_1)] rfl zm ?_; (with_reducible refine (spec_l25With.calls (rd t343 x6_1) t347 t348 false t350 t351 t352 _ A7.out).mono ?_); rintro e w19 ⟨rfl, hb⟩; refine ⟨_, rfl, ?_⟩; have n0_ := jA (ji (zo HO_5) hb); have n1_ := jA (jJ (zb0 HB) hb); clear HO_5; clear HB; have HO_5 := n0_; have HB := n1_; clear n0_ n1_; (try clear hb); (try clear hb2); (try clear hk); (try clear hi)) | ((with_reducible refine jQ (N := 7) rfl ?_); refine jO ?hg (N := 7) ?hd (cs := #[.bool false, .bool false, .bool false, .bool false, .bool false, .int .i64 0]) (t := 23) ?hr ?_; (case hd => rfl); (case hg => rfl); (case hr => first | (go_simp; done) | (go_simp; rfl)); intro gb353 hg w20 hbox hb; have n0_ := jA (ji (zo HO_5) hb); have n1_ := jA (jJ (zb0 HB) hb); have n2_ := jA (hbox); have n3_ := jA ((by rw [hg]; exact (jG (zb0 HB)) : w.heap.size ≤ gb353)); have n4_ := jA ((by rw [hg]; exact (jG (zb0 HB)) : w.heap.size ≤ gb353)); clear HO_5; clear HB; have HO_5 := n0_; have HB := n1_; have BK353 := n2_; have GW353 := n3_; have GE353 := n4_; clear n0_ n1_ n2_ n3_ n4_; clear hb hbox hg; have hcz21_0 : w20.cell? ⟨gb353, 0, none⟩ = some (.bool false) := (jC BK353.out 0).trans rfl; have hcz21_1 : w20.cell? ⟨gb353, 1, none⟩ = some (.bool false) := (jC BK353.out 1).trans rfl; have hcz21_2 : w20.cell? ⟨gb353, 2, none⟩ = some (.bool false) := (jC BK353.out 2).trans rfl; have hcz21_3 : w20.cell? ⟨gb353, 3, none⟩ = some (.bool false) := (jC BK353.out 3).trans rfl; have hcz21_4 : w20.cell? ⟨gb353, 4, none⟩ = some (.bool false) := (jC BK353.out 4).trans rfl; have hcz21_5 : w20.cell? ⟨gb353, 5, none⟩ = some (.int .i64 0) := (jC BK353.out 5).trans rfl; have hfz21_0 := jB BK353.out 0; have hfz21_1 := jB BK353.out 1; have hfz21_2 := jB BK353.out 2; have hfz21_3 := jB BK353.out 3; have hfz21_4 := jB BK353.out 4; have hfz21_5 := jB BK353.out 5))
      go_roundg k1
      case measure => have := HK1.out; omega
      case rel => exact ⟨(wrap64 (x6_1 + 1)), zz, H', ⟨by have := HK1.out; omega⟩, ⟨by (with_reducible repeat (first | apply jd | apply jc | apply jf)); exact Kd.R_mono (Kd.R_far (p := ⟨gb353, 5, none⟩) (Kd.R_far (p := ⟨gb353, 4, none⟩) (Kd.R_far (p := ⟨gb353, 3, none⟩) (Kd.R_far (p := ⟨gb353, 2, none⟩) (Kd.R_far (p := ⟨gb353, 1, none⟩) (Kd.R_far (p := ⟨gb353, 0, none⟩) (Kd.R_types HO_5.out BK353.out (by decide)) (fun _ hk => hk.2) (.bool t347)) (fun _ hk => hk.2) (.bool t348)) (fun _ hk => hk.2) (.bool false)) (fun _ hk => hk.2) (.bool t350)) (fun _ hk => hk.2) (.bool t351)) (fun _ hk => hk.2) (.int .i64 t352)) (fun _ hk => trivial)⟩, ⟨zb1 HB GE353⟩⟩
    ·rw [if_neg c6] at H
     exact absurd H (by simp)
   ·rw [if_neg c5] at H
    have c5b0 : decide (x6_1 < (t343.length : Int)) = false := jh c5
    clear c5
    obtain rfl := jV H
    obtain ⟨Ao22, co22, eo22⟩ := Kd.R_slice HO_5.out
    subst eo22
    go_wp2
    go_ret
    exact ⟨by first | rfl | (simp [errW_none, errW_some] <;> rfl) | (simp [*, errW_none, errW_some] <;> rfl), zb0 HB⟩

/-! ### spec_CanFire: function 38 -/
def spec_CanFire.f (k : Nat) (a0_0 : Bool) (a0_1 : Bool) (a0_2 : Bool) (a0_3 : Bool) (a0_4 : Bool) (a0_5 : Int) (l1 : List Int) : Option (Bool × Int) := (spec_l25Code.f k a0_0 a0_1 a0_2 a0_3 a0_4 a0_5 l1).bind fun t355 => (if t355 = 0 then ((spec_l25Number.f k a0_0 a0_1 a0_2 a0_3 a0_4 a0_5).bind fun t356 => ((spec_l25Fires.f k t356 l1).bind fun t357 => (some (t357, 0)))) else (some (false, t355)))
theorem spec_CanFire.mono : ∀ a0 a1 a2 a3 a4 a5 a6 k, LeO (spec_CanFire.f k a0 a1 a2 a3 a4 a5 a6) (spec_CanFire.f (k + 1) a0 a1 a2 a3 a4 a5 a6) := by
 intro a0 a1 a2 a3 a4 a5 a6 k
 unfold spec_CanFire.f
 repeat' first
   | (with_reducible exact spec_l25Code.mono _ _ _ _ _ _ _ _)
   | (with_reducible exact spec_l25Fires.mono _ _ _)
   | (with_reducible exact spec_l25Number.mono _ _ _ _ _ _ _)
   | (with_reducible exact LeO.refl _)
   | (with_reducible exact LeO.none _)
   | (with_reducible refine LeO.ite ?_ ?_)
   | (with_reducible refine LeO.bind ?_ (fun _ => ?_))
   | exact spec_l25Code.mono _ _ _ _ _ _ _ _
   | exact spec_l25Fires.mono _ _ _
   | exact spec_l25Number.mono _ _ _ _ _ _ _
   | exact LeO.none _
   | refine LeO.ite ?_ ?_
   | refine LeO.bind ?_ (fun _ => ?_)
set_option maxHeartbeats 8000000 in
set_option maxRecDepth 100000 in
theorem spec_CanFire.calls (k : Nat) (a0_0 : Bool) (a0_1 : Bool) (a0_2 : Bool) (a0_3 : Bool) (a0_4 : Bool) (a0_5 : Int) (A1 : Option Addr) (c1 : Nat) (l1 : List Int) (r1 : Bool) (r2 : Int) (w : World) (hr1 : Kd.C (Kd.int .i64) w A1 l1.length l1) (hc1 : l1.length ≤ c1) (h : spec_CanFire.f k a0_0 a0_1 a0_2 a0_3 a0_4 a0_5 l1 = some (r1, r2)) :
  Calls Try.prog 38 #[.agg #[.bool a0_0, .bool a0_1, .bool a0_2, .bool a0_3, .bool a0_4, .int .i64 a0_5], .slice A1 l1.length c1] w fun e w' => e = .returned (.tuple #[.bool r1, .int .i64 r2]) ∧ Below w.heap.size w w' := by
 have hu23 := Try.underlying23
 have HR1 := jA hr1
 have HC1 := jA hc1
 clear hr1 hc1
 have HB := jA (Below.refl w.heap.size w)
 have H : ((spec_l25Code.f k a0_0 a0_1 a0_2 a0_3 a0_4 a0_5 l1).bind fun t355 => (if t355 = 0 then ((spec_l25Number.f k a0_0 a0_1 a0_2 a0_3 a0_4 a0_5).bind fun t356 => ((spec_l25Fires.f k t356 l1).bind fun t357 => (some (t357, 0)))) else (some (false, t355)))) = some (r1, r2) := h
 clear h
 replace H := jR.mp H
 obtain ⟨t355, A30, H⟩ := H
 replace H : (if t355 = 0 then ((spec_l25Number.f k a0_0 a0_1 a0_2 a0_3 a0_4 a0_5).bind fun t356 => ((spec_l25Fires.f k t356 l1).bind fun t357 => (some (t357, 0)))) else (some (false, t355))) = some (r1, r2) := H
 have A3 := jA A30
 clear A30
 by_cases c4 : t355 = 0
 ·rw [if_pos c4] at H
  have c4b0 : (t355 == 0) = true := beq_iff_eq.mpr c4
  have c4b1 : (t355 != 0) = false := bne_eq_false_iff_eq.mpr c4
  clear c4
  replace H := jR.mp H
  obtain ⟨t356, A50, H⟩ := H
  replace H : ((spec_l25Fires.f k t356 l1).bind fun t357 => (some (t357, 0))) = some (r1, r2) := H
  have A5 := jA A50
  clear A50
  replace H := jR.mp H
  obtain ⟨t357, A60, H⟩ := H
  replace H : (some (t357, 0)) = some (r1, r2) := H
  have A6 := jA A60
  clear A60
  simp only [jU, jY] at H
  obtain ⟨rfl, rfl⟩ := H
  go_enter Try.func38, Try.ntmps38
  go_wp2_with (first | ((with_reducible refine jQ (N := 2) rfl ?_); refine jO ?hg (N := 2) ?hd (cs := #[.bool a0_0, .bool a0_1, .bool a0_2, .bool a0_3, .bool a0_4, .int .i64 a0_5]) (t := 23) ?hr ?_; (case hd => rfl); (case hg => rfl); (case hr => first | (go_simp; done) | (go_simp; rfl)); intro gb354 hg w7 hbox hb; have n0_ := jA (jJ (zb0 HB) hb); have n1_ := jA (hbox); have n2_ := jA ((by rw [hg]; exact (jG (zb0 HB)) : w.heap.size ≤ gb354)); have n3_ := jA ((by rw [hg]; exact (jG (zb0 HB)) : w.heap.size ≤ gb354)); clear HB; have HB := n0_; have BK354 := n1_; have GW354 := n2_; have GE354 := n3_; clear n0_ n1_ n2_ n3_; clear hb hbox hg; have hcz8_0 : w7.cell? ⟨gb354, 0, none⟩ = some (.bool a0_0) := (jC BK354.out 0).trans rfl; have hcz8_1 : w7.cell? ⟨gb354, 1, none⟩ = some (.bool a0_1) := (jC BK354.out 1).trans rfl; have hcz8_2 : w7.cell? ⟨gb354, 2, none⟩ = some (.bool a0_2) := (jC BK354.out 2).trans rfl; have hcz8_3 : w7.cell? ⟨gb354, 3, none⟩ = some (.bool a0_3) := (jC BK354.out 3).trans rfl; have hcz8_4 : w7.cell? ⟨gb354, 4, none⟩ = some (.bool a0_4) := (jC BK354.out 4).trans rfl; have hcz8_5 : w7.cell? ⟨gb354, 5, none⟩ = some (.int .i64 a0_5) := (jC BK354.out 5).trans rfl; have hfz8_0 := jB BK354.out 0; have hfz8_1 := jB BK354.out 1; have hfz8_2 := jB BK354.out 2; have hfz8_3 := jB BK354.out 3; have hfz8_4 := jB BK354.out 4; have hfz8_5 := jB BK354.out 5) | ((with_reducible refine jZ (f := 70) rfl ?_); refine goesL_ (some 9) rfl rfl Try.func70 zr rfl #[.agg #[.bool a0_0, .bool a0_1, .bool a0_2, .bool a0_3, .bool a0_4, .int .i64 a0_5], .slice A1 l1.length c1] rfl zm ?_; (with_reducible refine (spec_l25Code.calls k a0_0 a0_1 a0_2 a0_3 a0_4 a0_5 _ _ l1 t355 _ ?side1 ?side2 A3.out).mono ?_); (case side1 => exact zs HR1 HB); (case side2 => exact HC1.out); rintro e w9 ⟨rfl, hb⟩; refine ⟨_, rfl, ?_⟩; have n0_ := jA (jS (g := gb354) (o := .cells #[.bool a0_0, .bool a0_1, .bool a0_2, .bool a0_3, .bool a0_4, .int .i64 a0_5] 23 (0, 0)) (zk BK354) hb); have n1_ := jA (jJ (zb1 HB GE354) hb); clear BK354; clear HB; have BK354 := n0_; have HB := n1_; clear n0_ n1_; (try clear hb); (try clear hb2); (try clear hk); (try clear hi); have hcz10_0 : w9.cell? ⟨gb354, 0, none⟩ = some (.bool a0_0) := (jC BK354.out 0).trans rfl; have hcz10_1 : w9.cell? ⟨gb354, 1, none⟩ = some (.bool a0_1) := (jC BK354.out 1).trans rfl; have hcz10_2 : w9.cell? ⟨gb354, 2, none⟩ = some (.bool a0_2) := (jC BK354.out 2).trans rfl; have hcz10_3 : w9.cell? ⟨gb354, 3, none⟩ = some (.bool a0_3) := (jC BK354.out 3).trans rfl; have hcz10_4 : w9.cell? ⟨gb354, 4, none⟩ = some (.bool a0_4) := (jC BK354.out 4).trans rfl; have hcz10_5 : w9.cell? ⟨gb354, 5, none⟩ = some (.int .i64 a0_5) := (jC BK354.out 5).trans rfl; have hfz10_0 := jB BK354.out 0; have hfz10_1 := jB BK354.out 1; have hfz10_2 := jB BK354.out 2; have hfz10_3 := jB BK354.out 3; have hfz10_4 := jB BK354.out 4; have hfz10_5 := jB BK354.out 5) | ((with_reducible refine jZ (f := 52) rfl ?_); refine goesL_ (some 14) rfl rfl Try.func52 zr rfl #[.agg #[.bool a0_0, .bool a0_1, .bool a0_2, .bool a0_3, .bool a0_4, .int .i64 a0_5]] rfl zm ?_; (with_reducible refine (spec_l25Number.calls k a0_0 a0_1 a0_2 a0_3 a0_4 a0_5 t356 _ A5.out).mono ?_); rintro e w11 ⟨rfl, hb⟩; refine ⟨_, rfl, ?_⟩; have n0_ := jA (jS (g := gb354) (o := .cells #[.bool a0_0, .bool a0_1, .bool a0_2, .bool a0_3, .bool a0_4, .int .i64 a0_5] 23 (0, 0)) (zk BK354) hb); have n1_ := jA (jJ (zb1 HB GE354) hb); clear BK354; clear HB; have BK354 := n0_; have HB := n1_; clear n0_ n1_; (try clear hb); (try clear hb2); (try clear hk); (try clear hi)) | ((with_reducible refine jZ (f := 76) rfl ?_); refine goesL_ (some 16) rfl rfl Try.func76 zr rfl #[.int .i64 t356, .slice A1 l1.length c1] rfl zm ?_; (with_reducible refine (spec_l25Fires.calls k t356 _ _ l1 t357 _ ?side1 ?side2 A6.out).mono ?_); (case side1 => exact zs HR1 HB); (case side2 => exact HC1.out); rintro e w12 ⟨rfl, hb⟩; refine ⟨_, rfl, ?_⟩; have n0_ := jA (jS (g := gb354) (o := .cells #[.bool a0_0, .bool a0_1, .bool a0_2, .bool a0_3, .bool a0_4, .int .i64 a0_5] 23 (0, 0)) (zk BK354) hb); have n1_ := jA (jJ (zb1 HB GE354) hb); clear BK354; clear HB; have BK354 := n0_; have HB := n1_; clear n0_ n1_; (try clear hb); (try clear hb2); (try clear hk); (try clear hi)))
  go_ret2
  exact ⟨by first | rfl | (simp [errW_none, errW_some] <;> rfl) | (simp [*, errW_none, errW_some] <;> rfl), zb1 HB GE354⟩
 ·rw [if_neg c4] at H
  have c4b0 : (t355 == 0) = false := beq_eq_false_iff_ne.mpr c4
  have c4b1 : (t355 != 0) = true := bne_iff_ne.mpr c4
  simp only [jU, jY] at H
  obtain ⟨rfl, rfl⟩ := H
  go_enter Try.func38, Try.ntmps38
  go_wp2_with (first | ((with_reducible refine jQ (N := 2) rfl ?_); refine jO ?hg (N := 2) ?hd (cs := #[.bool a0_0, .bool a0_1, .bool a0_2, .bool a0_3, .bool a0_4, .int .i64 a0_5]) (t := 23) ?hr ?_; (case hd => rfl); (case hg => rfl); (case hr => first | (go_simp; done) | (go_simp; rfl)); intro gb354 hg w13 hbox hb; have n0_ := jA (jJ (zb0 HB) hb); have n1_ := jA (hbox); have n2_ := jA ((by rw [hg]; exact (jG (zb0 HB)) : w.heap.size ≤ gb354)); have n3_ := jA ((by rw [hg]; exact (jG (zb0 HB)) : w.heap.size ≤ gb354)); clear HB; have HB := n0_; have BK354 := n1_; have GW354 := n2_; have GE354 := n3_; clear n0_ n1_ n2_ n3_; clear hb hbox hg; have hcz14_0 : w13.cell? ⟨gb354, 0, none⟩ = some (.bool a0_0) := (jC BK354.out 0).trans rfl; have hcz14_1 : w13.cell? ⟨gb354, 1, none⟩ = some (.bool a0_1) := (jC BK354.out 1).trans rfl; have hcz14_2 : w13.cell? ⟨gb354, 2, none⟩ = some (.bool a0_2) := (jC BK354.out 2).trans rfl; have hcz14_3 : w13.cell? ⟨gb354, 3, none⟩ = some (.bool a0_3) := (jC BK354.out 3).trans rfl; have hcz14_4 : w13.cell? ⟨gb354, 4, none⟩ = some (.bool a0_4) := (jC BK354.out 4).trans rfl; have hcz14_5 : w13.cell? ⟨gb354, 5, none⟩ = some (.int .i64 a0_5) := (jC BK354.out 5).trans rfl; have hfz14_0 := jB BK354.out 0; have hfz14_1 := jB BK354.out 1; have hfz14_2 := jB BK354.out 2; have hfz14_3 := jB BK354.out 3; have hfz14_4 := jB BK354.out 4; have hfz14_5 := jB BK354.out 5) | ((with_reducible refine jZ (f := 70) rfl ?_); refine goesL_ (some 9) rfl rfl Try.func70 zr rfl #[.agg #[.bool a0_0, .bool a0_1, .bool a0_2, .bool a0_3, .bool a0_4, .int .i64 a0_5], .slice A1 l1.length c1] rfl zm ?_; (with_reducible refine (spec_l25Code.calls k a0_0 a0_1 a0_2 a0_3 a0_4 a0_5 _ _ l1 t355 _ ?side1 ?side2 A3.out).mono ?_); (case side1 => exact zs HR1 HB); (case side2 => exact HC1.out); rintro e w15 ⟨rfl, hb⟩; refine ⟨_, rfl, ?_⟩; have n0_ := jA (jS (g := gb354) (o := .cells #[.bool a0_0, .bool a0_1, .bool a0_2, .bool a0_3, .bool a0_4, .int .i64 a0_5] 23 (0, 0)) (zk BK354) hb); have n1_ := jA (jJ (zb1 HB GE354) hb); clear BK354; clear HB; have BK354 := n0_; have HB := n1_; clear n0_ n1_; (try clear hb); (try clear hb2); (try clear hk); (try clear hi)))
  go_ret2
  exact ⟨by first | rfl | (simp [errW_none, errW_some] <;> rfl) | (simp [*, errW_none, errW_some] <;> rfl), zb1 HB GE354⟩

/-! ### laws_roomBehind: function 77 -/
def laws_roomBehind.f (a0 : Int) : Option (Int) := if (Int.tmod a0 6) = 5 then (some 0) else (if (Int.tmod a0 3) = 0 then (some 1) else (some a0))
set_option maxHeartbeats 8000000 in
set_option maxRecDepth 100000 in
theorem laws_roomBehind.calls (a0 : Int) (r : Int) (w : World) (h : laws_roomBehind.f a0 = some r) :
  Calls Try.prog 77 #[.int .i64 a0] w fun e w' => e = .returned (.int .i64 r) ∧ Drawn0 w w' := by
 have H : (if (Int.tmod a0 6) = 5 then (some 0) else (if (Int.tmod a0 3) = 0 then (some 1) else (some a0))) = some r := h
 clear h
 by_cases c2 : (Int.tmod a0 6) = 5
 ·rw [if_pos c2] at H
  have c2b0 : ((Int.tmod a0 6) == 5) = true := beq_iff_eq.mpr c2
  have c2b1 : ((Int.tmod a0 6) != 5) = false := bne_eq_false_iff_eq.mpr c2
  clear c2
  obtain rfl := jV H
  go_enter Try.func77, Try.ntmps77
  go_wp2
  go_ret
  exact ⟨by first | rfl | (simp; done) | (simp [*]; done), by repeat (first | exact Drawn0.refl _ | apply Drawn0.step)⟩
 ·rw [if_neg c2] at H
  have c2b0 : ((Int.tmod a0 6) == 5) = false := beq_eq_false_iff_ne.mpr c2
  have c2b1 : ((Int.tmod a0 6) != 5) = true := bne_iff_ne.mpr c2
  by_cases c3 : (Int.tmod a0 3) = 0
  ·rw [if_pos c3] at H
   have c3b0 : ((Int.tmod a0 3) == 0) = true := beq_iff_eq.mpr c3
   have c3b1 : ((Int.tmod a0 3) != 0) = false := bne_eq_false_iff_eq.mpr c3
   clear c3
   obtain rfl := jV H
   go_enter Try.func77, Try.ntmps77
   go_wp2
   go_ret
   exact ⟨by first | rfl | (simp; done) | (simp [*]; done), by repeat (first | exact Drawn0.refl _ | apply Drawn0.step)⟩
  ·rw [if_neg c3] at H
   have c3b0 : ((Int.tmod a0 3) == 0) = false := beq_eq_false_iff_ne.mpr c3
   have c3b1 : ((Int.tmod a0 3) != 0) = true := bne_iff_ne.mpr c3
   obtain rfl := jV H
   go_enter Try.func77, Try.ntmps77
   go_wp2
   go_ret
   exact ⟨by first | rfl | (simp; done) | (simp [*]; done), by repeat (first | exact Drawn0.refl _ | apply Drawn0.step)⟩

end Go.Proofs.Ythieppjmjgijfaa.PFnExactCanFire
