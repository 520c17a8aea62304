/- Functions and contracts that FnCueStates reaches (5 of 11). -/
import Derived.Test.YthnpffomoaeeoaaQFnCueStatesx3
namespace Go.Proofs.Ythnpffomoaeeoaa.PFnCueStates
open Go.RowKit Go.Proofs.YthnpffomoaeeoaaW.PrintWords Go.Proofs.YthnpffomoaeeoaaW.PrintLast Go.Proofs.YthnpffomoaeeoaaW.PrintMore
attribute [local go_sem] max2_int min2_int max_two min_two max_three min_three max_four min_four   -- for this text's walks alone
set_option linter.unusedVariables false
set_option linter.unusedSimpArgs false

/-! ### impl_cueAsked: function 56 -/
def impl_cueAsked.f (k : Nat) (l0 : List (S36)) (a1 : Int) : Option (Int) := (impl_AreTries.f k l0).bind fun t166 => (if t166 = true then ((impl_isCue.f a1).bind fun t167 => (if t167 = true then (some 0) else (some 2))) else (some 1))
theorem impl_cueAsked.mono : ∀ a0 a1 k, LeO (impl_cueAsked.f k a0 a1) (impl_cueAsked.f (k + 1) a0 a1) := by
 intro a0 a1 k
 unfold impl_cueAsked.f
 repeat' first
   | (with_reducible exact impl_AreTries.mono _ _)
   | (with_reducible exact LeO.refl _)
   | (with_reducible exact LeO.none _)
   | (with_reducible refine LeO.ite ?_ ?_)
   | (with_reducible refine LeO.bind ?_ (fun _ => ?_))
   | exact impl_AreTries.mono _ _
   | exact LeO.none _
   | refine LeO.ite ?_ ?_
   | refine LeO.bind ?_ (fun _ => ?_)
set_option maxHeartbeats 8000000 in
set_option maxRecDepth 100000 in
theorem impl_cueAsked.calls (k : Nat) (A0 : Option Addr) (c0 : Nat) (l0 : List (S36)) (a1 : Int) (r : Int) (w : World) (hr0 : Kd.C k36 w A0 l0.length l0) (hc0 : l0.length ≤ c0) (h : impl_cueAsked.f k l0 a1 = some r) :
  Calls Try.prog 56 #[.slice A0 l0.length c0, .int .i64 a1] w fun e w' => e = .returned (.int .i64 r) ∧ Below w.heap.size w w' := by
 have HR0 := jA hr0
 have HC0 := jA hc0
 clear hr0 hc0
 have HB := jA (Below.refl w.heap.size w)
 have H : ((impl_AreTries.f k l0).bind fun t166 => (if t166 = true then ((impl_isCue.f a1).bind fun t167 => (if t167 = true then (some 0) else (some 2))) else (some 1))) = some r := h
 clear h
 replace H := jD.mp H
 obtain ⟨t166, A30, H⟩ := H
 replace H : (if t166 = true then ((impl_isCue.f a1).bind fun t167 => (if t167 = true then (some 0) else (some 2))) else (some 1)) = some r := H
 have A3 := jA A30
 clear A30
 by_cases c4 : t166 = true
 ·subst c4
  have H1 : ((impl_isCue.f a1).bind fun t167 => (if t167 = true then (some 0) else (some 2))) = some r := by rw [if_pos rfl] at H; exact H
  clear H
  have H := H1
  clear H1
  replace H := jD.mp H
  obtain ⟨t167, A50, H⟩ := H
  replace H : (if t167 = true then (some 0) else (some 2)) = some r := H
  have A5 := jA A50
  clear A50
  by_cases c6 : t167 = true
  ·subst c6
   have H1 : (some 0) = some r := by rw [if_pos rfl] at H; exact H
   clear H
   have H := H1
   clear H1
   obtain rfl := jV H
   go_enter Try.func56, Try.ntmps56
   go_wp2_with (first | ((with_reducible refine jL (f := 16) rfl ?_); refine goesL_ (some 6) rfl rfl Try.func16 zr rfl #[.slice A0 l0.length c0] rfl zm ?_; (with_reducible refine (impl_AreTries.calls k _ _ l0 true _ ?side1 ?side2 A3.out).mono ?_); (case side1 => repeat (first | exact HR0.out | (with_reducible refine jP ?_ _) | (with_reducible refine jO ?_ _) | (with_reducible refine jU ?_))); (case side2 => exact HC0.out); rintro e w7 ⟨rfl, hb⟩; refine ⟨_, rfl, ?_⟩; have n0_ := jA (jM (zb0 HB) hb); clear HB; have HB := n0_; clear n0_; (try clear hb); (try clear hb2); (try clear hk); (try clear hi)) | ((with_reducible refine jL (f := 51) rfl ?_); refine goesL_ (some 9) rfl rfl Try.func51 zr rfl #[.int .i64 a1] rfl zm ?_; (with_reducible refine (impl_isCue.calls a1 true _ A5.out).mono ?_); rintro e w' ⟨rfl, ⟨nd, rfl⟩⟩; refine ⟨_, rfl, ?_⟩))
   go_ret
   exact ⟨by first | rfl | (simp [errW_none, errW_some] <;> rfl) | (simp [*, errW_none, errW_some] <;> rfl), zb0 HB⟩
  ·replace c6 := Bool.eq_false_iff.mpr c6
   subst c6
   have H1 : (some 2) = some r := by rw [if_neg (show ¬ (false = true) by decide)] at H; exact H
   clear H
   have H := H1
   clear H1
   obtain rfl := jV H
   go_enter Try.func56, Try.ntmps56
   go_wp2_with (first | ((with_reducible refine jL (f := 16) rfl ?_); refine goesL_ (some 6) rfl rfl Try.func16 zr rfl #[.slice A0 l0.length c0] rfl zm ?_; (with_reducible refine (impl_AreTries.calls k _ _ l0 true _ ?side1 ?side2 A3.out).mono ?_); (case side1 => repeat (first | exact HR0.out | (with_reducible refine jP ?_ _) | (with_reducible refine jO ?_ _) | (with_reducible refine jU ?_))); (case side2 => exact HC0.out); rintro e w8 ⟨rfl, hb⟩; refine ⟨_, rfl, ?_⟩; have n0_ := jA (jM (zb0 HB) hb); clear HB; have HB := n0_; clear n0_; (try clear hb); (try clear hb2); (try clear hk); (try clear hi)) | ((with_reducible refine jL (f := 51) rfl ?_); refine goesL_ (some 9) rfl rfl Try.func51 zr rfl #[.int .i64 a1] rfl zm ?_; (with_reducible refine (impl_isCue.calls a1 false _ A5.out).mono ?_); rintro e w' ⟨rfl, ⟨nd, rfl⟩⟩; refine ⟨_, rfl, ?_⟩))
   go_ret
   exact ⟨by first | rfl | (simp [errW_none, errW_some] <;> rfl) | (simp [*, errW_none, errW_some] <;> rfl), zb0 HB⟩
 ·replace c4 := Bool.eq_false_iff.mpr c4
  subst c4
  have H1 : (some 1) = some r := by rw [if_neg (show ¬ (false = true) by decide)] at H; exact H
  clear H
  have H := H1
  clear H1
  obtain rfl := jV H
  go_enter Try.func56, Try.ntmps56
  go_wp2_with (first | ((with_reducible refine jL (f := 16) rfl ?_); refine goesL_ (some 6) rfl rfl Try.func16 zr rfl #[.slice A0 l0.length c0] rfl zm ?_; (with_reducible refine (impl_AreTries.calls k _ _ l0 false _ ?side1 ?side2 A3.out).mono ?_); (case side1 => repeat (first | exact HR0.out | (with_reducible refine jP ?_ _) | (with_reducible refine jO ?_ _) | (with_reducible refine jU ?_))); (case side2 => exact HC0.out); rintro e w9 ⟨rfl, hb⟩; refine ⟨_, rfl, ?_⟩; have n0_ := jA (jM (zb0 HB) hb); clear HB; have HB := n0_; clear n0_; (try clear hb); (try clear hb2); (try clear hk); (try clear hi)))
  go_ret
  exact ⟨by first | rfl | (simp [errW_none, errW_some] <;> rfl) | (simp [*, errW_none, errW_some] <;> rfl), zb0 HB⟩

/-! ### impl_FiredIn: function 19 -/
def impl_FiredIn.l0 : Nat → List (S36) → Int → Int → Option (Int × Int)
 | 0, _, _, _ => none
 | k + 1, x17, x18, x19 => if x19 < x18 then (if 0 ≤ x19 then (if x19 < (x17.length : Int) then (if (rd_T36 x17 x19).f2 = true then (some ((rd_T36 x17 x19).f1, 0)) else (impl_FiredIn.l0 k x17 x18 (wrap64 (x19 + 1)))) else (none)) else (none)) else (some (0, 4))
def impl_FiredIn.f (k : Nat) (l0 : List (S36)) (a1 : Int) : Option (Int × Int) := (impl_cueAsked.f k l0 a1).bind fun t168 => (if t168 = 0 then ((impl_triesOf.f k l0 a1).bind fun t169 => (impl_FiredIn.l0 k t169 (t169.length : Int) 0)) else (some (0, t168)))
theorem impl_FiredIn.mono_l : ∀ k, (∀ y0 y1 y2, LeO (impl_FiredIn.l0 k y0 y1 y2) (impl_FiredIn.l0 (k + 1) y0 y1 y2))
 | 0 => fun _ _ _ r h => by simp [impl_FiredIn.l0] at h
 | k + 1 => by
  have ih0 := impl_FiredIn.mono_l k
  ·intro y0 y1 y2
   unfold impl_FiredIn.l0
   repeat' first
   | (with_reducible exact ih0 _ _ _)
   | (with_reducible exact impl_cueAsked.mono _ _ _)
   | (with_reducible exact impl_triesOf.mono _ _ _)
   | (with_reducible exact LeO.refl _)
   | (with_reducible exact LeO.none _)
   | (with_reducible refine LeO.ite ?_ ?_)
   | (with_reducible refine LeO.bind ?_ (fun _ => ?_))
   | exact ih0 _ _ _
   | exact impl_cueAsked.mono _ _ _
   | exact impl_triesOf.mono _ _ _
   | exact LeO.none _
   | refine LeO.ite ?_ ?_
   | refine LeO.bind ?_ (fun _ => ?_)
theorem impl_FiredIn.mono : ∀ a0 a1 k, LeO (impl_FiredIn.f k a0 a1) (impl_FiredIn.f (k + 1) a0 a1) := by
 intro a0 a1 k
 have ih0 := impl_FiredIn.mono_l k
 unfold impl_FiredIn.f
 repeat' first
   | (with_reducible exact ih0 _ _ _)
   | (with_reducible exact impl_cueAsked.mono _ _ _)
   | (with_reducible exact impl_triesOf.mono _ _ _)
   | (with_reducible exact LeO.refl _)
   | (with_reducible exact LeO.none _)
   | (with_reducible refine LeO.ite ?_ ?_)
   | (with_reducible refine LeO.bind ?_ (fun _ => ?_))
   | exact ih0 _ _ _
   | exact impl_cueAsked.mono _ _ _
   | exact impl_triesOf.mono _ _ _
   | exact LeO.none _
   | refine LeO.ite ?_ ?_
   | refine LeO.bind ?_ (fun _ => ?_)
set_option maxHeartbeats 8000000 in
set_option maxRecDepth 100000 in
theorem impl_FiredIn.calls (k : Nat) (A0 : Option Addr) (c0 : Nat) (l0 : List (S36)) (a1 : Int) (r1 : Int) (r2 : Int) (w : World) (hr0 : Kd.C k36 w A0 l0.length l0) (hc0 : l0.length ≤ c0) (h : impl_FiredIn.f k l0 a1 = some (r1, r2)) :
  Calls Try.prog 19 #[.slice A0 l0.length c0, .int .i64 a1] w fun e w' => e = .returned (.tuple #[.int .i64 r1, .int .i64 r2]) ∧ Below w.heap.size w w' := by
 have hu36 := Try.underlying36
 have HR0 := jA hr0
 have HC0 := jA hc0
 clear hr0 hc0
 have HB := jA (Below.refl w.heap.size w)
 have H : ((impl_cueAsked.f k l0 a1).bind fun t168 => (if t168 = 0 then ((impl_triesOf.f k l0 a1).bind fun t169 => (impl_FiredIn.l0 k t169 (t169.length : Int) 0)) else (some (0, t168)))) = some (r1, r2) := h
 clear h
 replace H := jD.mp H
 obtain ⟨t168, A30, H⟩ := H
 replace H : (if t168 = 0 then ((impl_triesOf.f k l0 a1).bind fun t169 => (impl_FiredIn.l0 k t169 (t169.length : Int) 0)) else (some (0, t168))) = some (r1, r2) := H
 have A3 := jA A30
 clear A30
 by_cases c4 : t168 = 0
 ·rw [if_pos c4] at H
  have c4b0 : (t168 == 0) = true := beq_iff_eq.mpr c4
  have c4b1 : (t168 != 0) = false := bne_eq_false_iff_eq.mpr c4
  clear c4
  replace H := jD.mp H
  obtain ⟨t169, A50, H⟩ := H
  replace H : (impl_FiredIn.l0 k t169 (t169.length : Int) 0) = some (r1, r2) := H
  have A5 := jA A50
  clear A50
  have H' := jA H
  clear H
  go_enter Try.func19, Try.ntmps19
  go_wp2_with (first | ((with_reducible refine jL (f := 56) rfl ?_); refine goesL_ (some 11) rfl rfl Try.func56 zr rfl #[.slice A0 l0.length c0, .int .i64 a1] rfl zm ?_; (with_reducible refine (impl_cueAsked.calls k _ _ l0 a1 t168 _ ?side1 ?side2 A3.out).mono ?_); (case side1 => repeat (first | exact HR0.out | (with_reducible refine jP ?_ _) | (with_reducible refine jO ?_ _) | (with_reducible refine jU ?_))); (case side2 => exact HC0.out); rintro e w6 ⟨rfl, hb⟩; refine ⟨_, rfl, ?_⟩; have n0_ := jA (jM (zb0 HB) hb); clear HB; have HB := n0_; clear n0_; (try clear hb); (try clear hb2); (try clear hk); (try clear hi)) | ((with_reducible refine jL (f := 57) rfl ?_); refine goesL_ (some 17) rfl rfl Try.func57 zr rfl #[.slice A0 l0.length c0, .int .i64 a1] rfl zm ?_; (with_reducible refine (impl_triesOf.calls k _ _ l0 a1 t169 _ ?side1 ?side2 A5.out).mono ?_); (case side1 => exact zs HR0 HB); (case side2 => exact HC0.out); rintro e w7 ⟨v170, rfl, ho0, hb⟩; refine ⟨_, rfl, ?_⟩; have n0_ := jA (jZ ho0 (jT (zb0 HB))); have n1_ := jA (jM (zb0 HB) hb); clear HB; have HO171 := n0_; have HB := n1_; clear n0_ n1_; (try clear hb); (try clear hb2); (try clear hk); (try clear hi); (try clear ho0); obtain ⟨Ao8, co8, eo8⟩ := Kd.R_slice HO171.out; subst eo8))
  go_loopg [19] k (fun kq v19 w' => ∃ (x19_1 : Int), v19 = .int .i64 x19_1 ∧ Aside0 (impl_FiredIn.l0 kq t169 (t169.length : Int) x19_1 = some (r1, r2)) ∧ Aside0 (kq ≤ k) ∧ Aside0 (Kd.R k36 36 w' w.heap.size (fun _ => True) (.slice Ao8 t169.length co8) t169) ∧ Aside0 (Below w.heap.size w w'))
  case atStart => exact ⟨(0), zz, H', ⟨Nat.le_refl _⟩, ⟨by (with_reducible repeat (first | apply jG | apply jF | apply jK)); exact HO171.out⟩, ⟨zb0 HB⟩⟩
  case round =>
   clear H'
   try clear c1
   try clear p2
   try clear c4
   try clear c4b0
   try clear c4b1
   try clear c5
   obtain ⟨x19_1, rfl, HA, HK1, HO_17, HB⟩ := hrel
   cases gk with
   | zero => exact absurd HA.out (by simp [impl_FiredIn.l0])
   | succ k1 =>
    have H := HA.out
    clear HA
    simp only [impl_FiredIn.l0] at H
    by_cases c9 : x19_1 < (t169.length : Int)
    ·rw [if_pos c9] at H
     have c9b0 : decide (x19_1 < (t169.length : Int)) = true := jN c9
     clear c9
     by_cases c10 : 0 ≤ x19_1
     ·rw [if_pos c10] at H
      have c10b0 : decide (0 ≤ x19_1) = true := jN c10
      clear c10
      by_cases c11 : x19_1 < (t169.length : Int)
      ·rw [if_pos c11] at H
       have c11b0 : decide (x19_1 < (t169.length : Int)) = true := jN c11
       clear c11
       obtain ⟨bq12, hbq12⟩ : ∃ b_ : Bool, b_ = ((rd_T36 t169 x19_1).f2) := ⟨_, rfl⟩
       replace H : (if bq12 = true then (some ((rd_T36 t169 x19_1).f1, 0)) else (impl_FiredIn.l0 k1 t169 (t169.length : Int) (wrap64 (x19_1 + 1)))) = some (r1, r2) := by rw [← hbq12] at H; exact H
       have Nbq12 := jA hbq12
       clear hbq12
       by_cases c13 : bq12 = true
       ·subst c13
        have H1 : (some ((rd_T36 t169 x19_1).f1, 0)) = some (r1, r2) := by rw [if_pos rfl] at H; exact H
        clear H
        have H := H1
        clear H1
        simp only [jY, jc] at H
        obtain ⟨rfl, rfl⟩ := H
        have p172 : 0 ≤ (x19_1 : Int) := jC za
        have q172 : x19_1 < (t169.length : Int) := jC za
        obtain ⟨ad172, e172, hx172_0, hx172_1, hx172_2⟩ := at_T36 (jH HO_17.out).2.2 x19_1 p172 q172
        (try rw [← Nbq12.out] at hx172_2)
        cases e172
        replace p172 := eq_true p172
        replace q172 := eq_true q172
        go_wp2_with (first | ((with_reducible refine gate_dst (N := 8) rfl ?_); refine box_event ?hg (N := 8) ?hd (cs := #[.int .i64 0, .int .i64 0, .bool false]) (t := 36) ?hr ?_; (case hd => rfl); (case hg => rfl); (case hr => first | (go_simp; done) | (go_simp; rfl)); intro gb173 hg w14 hbox hb; have n0_ := jA (jX (Kd.R_elderB (zo HO_17) gb173 (Nat.le_of_eq hg.symm)) hb); have n1_ := jA (jM (zb0 HB) hb); have n2_ := jA (hbox); have n3_ := jA ((by rw [hg]; exact (jT (zb0 HB)) : w.heap.size ≤ gb173)); have n4_ := jA ((by rw [hg]; exact (jT (zb0 HB)) : w.heap.size ≤ gb173)); clear HO_17; clear HB; have HO_17 := n0_; have HB := n1_; have BK173 := n2_; have GW173 := n3_; have GE173 := n4_; clear n0_ n1_ n2_ n3_ n4_; clear hb hbox hg; have hcz15_0 : w14.cell? ⟨gb173, 0, none⟩ = some (.int .i64 0) := (jE BK173.out 0).trans rfl; have hcz15_1 : w14.cell? ⟨gb173, 1, none⟩ = some (.int .i64 0) := (jE BK173.out 1).trans rfl; have hcz15_2 : w14.cell? ⟨gb173, 2, none⟩ = some (.bool false) := (jE BK173.out 2).trans rfl; have hfz15_0 := je BK173.out 0; have hfz15_1 := je BK173.out 1; have hfz15_2 := je BK173.out 2))
        go_ret2
        exact ⟨by first | rfl | (simp [errW_none, errW_some] <;> rfl) | (simp [*, errW_none, errW_some] <;> rfl), zb1 HB GE173⟩
       ·replace c13 := Bool.eq_false_iff.mpr c13
        subst c13
        have H1 : (impl_FiredIn.l0 k1 t169 (t169.length : Int) (wrap64 (x19_1 + 1))) = some (r1, r2) := by rw [if_neg (show ¬ (false = true) by decide)] at H; exact H
        clear H
        have H := H1
        clear H1
        have H' := jA H
        clear H
        have p172 : 0 ≤ (x19_1 : Int) := jC za
        have q172 : x19_1 < (t169.length : Int) := jC za
        obtain ⟨ad172, e172, hx172_0, hx172_1, hx172_2⟩ := at_T36 (jH HO_17.out).2.2 x19_1 p172 q172
        (try rw [← Nbq12.out] at hx172_2)
        cases e172
        replace p172 := eq_true p172
        replace q172 := eq_true q172
        go_wp2_with (first | ((with_reducible refine gate_dst (N := 8) rfl ?_); refine box_event ?hg (N := 8) ?hd (cs := #[.int .i64 0, .int .i64 0, .bool false]) (t := 36) ?hr ?_; (case hd => rfl); (case hg => rfl); (case hr => first | (go_simp; done) | (go_simp; rfl)); intro gb173 hg w16 hbox hb; have n0_ := jA (jX (Kd.R_elderB (zo HO_17) gb173 (Nat.le_of_eq hg.symm)) hb); have n1_ := jA (jM (zb0 HB) hb); have n2_ := jA (hbox); have n3_ := jA ((by rw [hg]; exact (jT (zb0 HB)) : w.heap.size ≤ gb173)); have n4_ := jA ((by rw [hg]; exact (jT (zb0 HB)) : w.heap.size ≤ gb173)); clear HO_17; clear HB; have HO_17 := n0_; have HB := n1_; have BK173 := n2_; have GW173 := n3_; have GE173 := n4_; clear n0_ n1_ n2_ n3_ n4_; clear hb hbox hg; have hcz17_0 : w16.cell? ⟨gb173, 0, none⟩ = some (.int .i64 0) := (jE BK173.out 0).trans rfl; have hcz17_1 : w16.cell? ⟨gb173, 1, none⟩ = some (.int .i64 0) := (jE BK173.out 1).trans rfl; have hcz17_2 : w16.cell? ⟨gb173, 2, none⟩ = some (.bool false) := (jE BK173.out 2).trans rfl; have hfz17_0 := je BK173.out 0; have hfz17_1 := je BK173.out 1; have hfz17_2 := je BK173.out 2))
        go_roundg k1
        case measure => have := HK1.out; omega
        case rel => exact ⟨(wrap64 (x19_1 + 1)), zz, H', ⟨by have := HK1.out; omega⟩, ⟨by (with_reducible repeat (first | apply jG | apply jF | apply jK)); exact Kd.R_mono (Kd.R_far (p := ⟨gb173, 2, none⟩) (Kd.R_far (p := ⟨gb173, 1, none⟩) (Kd.R_far (p := ⟨gb173, 0, none⟩) (Kd.R_mono HO_17.out (fun k_ hk => (⟨hk, hk.2⟩ : _ ∧ k_ ≠ gb173))) (fun _ hk => hk.2) (.int .i64 ((rd_T36 t169 x19_1).f0))) (fun _ hk => hk.2) (.int .i64 ((rd_T36 t169 x19_1).f1))) (fun _ hk => hk.2) (.bool false)) (fun _ hk => trivial)⟩, ⟨zb1 HB GE173⟩⟩
      ·rw [if_neg c11] at H
       exact absurd H (by simp)
     ·rw [if_neg c10] at H
      exact absurd H (by simp)
    ·rw [if_neg c9] at H
     have c9b0 : decide (x19_1 < (t169.length : Int)) = false := jd c9
     clear c9
     simp only [jY, jc] at H
     obtain ⟨rfl, rfl⟩ := H
     go_wp2
     go_ret2
     exact ⟨by first | rfl | (simp [errW_none, errW_some] <;> rfl) | (simp [*, errW_none, errW_some] <;> rfl), zb0 HB⟩
 ·rw [if_neg c4] at H
  have c4b0 : (t168 == 0) = false := beq_eq_false_iff_ne.mpr c4
  have c4b1 : (t168 != 0) = true := bne_iff_ne.mpr c4
  simp only [jY, jc] at H
  obtain ⟨rfl, rfl⟩ := H
  go_enter Try.func19, Try.ntmps19
  go_wp2_with (first | ((with_reducible refine jL (f := 56) rfl ?_); refine goesL_ (some 11) rfl rfl Try.func56 zr rfl #[.slice A0 l0.length c0, .int .i64 a1] rfl zm ?_; (with_reducible refine (impl_cueAsked.calls k _ _ l0 a1 t168 _ ?side1 ?side2 A3.out).mono ?_); (case side1 => repeat (first | exact HR0.out | (with_reducible refine jP ?_ _) | (with_reducible refine jO ?_ _) | (with_reducible refine jU ?_))); (case side2 => exact HC0.out); rintro e w18 ⟨rfl, hb⟩; refine ⟨_, rfl, ?_⟩; have n0_ := jA (jM (zb0 HB) hb); clear HB; have HB := n0_; clear n0_; (try clear hb); (try clear hb2); (try clear hk); (try clear hi)))
  go_ret2
  exact ⟨by first | rfl | (simp [errW_none, errW_some] <;> rfl) | (simp [*, errW_none, errW_some] <;> rfl), zb0 HB⟩

/-! ### spec_l24State: function 58 -/
def spec_l24State.f (k : Nat) (l0 : List (S36)) (a1 : Int) : Option (Int) := (spec_l24Of.f k l0 a1).bind fun bt174 => (if bt174.2 = true then (some 2) else (if (bt174.1.length : Int) = 0 then (some 0) else (if (bt174.1.length : Int) = 3 then (some 3) else (some 1))))
theorem spec_l24State.mono : ∀ a0 a1 k, LeO (spec_l24State.f k a0 a1) (spec_l24State.f (k + 1) a0 a1) := by
 intro a0 a1 k
 unfold spec_l24State.f
 repeat' first
   | (with_reducible exact spec_l24Of.mono _ _ _)
   | (with_reducible exact LeO.refl _)
   | (with_reducible exact LeO.none _)
   | (with_reducible refine LeO.ite ?_ ?_)
   | (with_reducible refine LeO.bind ?_ (fun _ => ?_))
   | exact spec_l24Of.mono _ _ _
   | exact LeO.none _
   | refine LeO.ite ?_ ?_
   | refine LeO.bind ?_ (fun _ => ?_)
set_option maxHeartbeats 8000000 in
set_option maxRecDepth 100000 in
theorem spec_l24State.calls (k : Nat) (A0 : Option Addr) (c0 : Nat) (l0 : List (S36)) (a1 : Int) (r : Int) (w : World) (hr0 : Kd.C k36 w A0 l0.length l0) (hc0 : l0.length ≤ c0) (h : spec_l24State.f k l0 a1 = some r) :
  Calls Try.prog 58 #[.slice A0 l0.length c0, .int .i64 a1] w fun e w' => e = .returned (.int .i64 r) ∧ Below w.heap.size w w' := by
 have HR0 := jA hr0
 have HC0 := jA hc0
 clear hr0 hc0
 have HB := jA (Below.refl w.heap.size w)
 have H : ((spec_l24Of.f k l0 a1).bind fun bt174 => (if bt174.2 = true then (some 2) else (if (bt174.1.length : Int) = 0 then (some 0) else (if (bt174.1.length : Int) = 3 then (some 3) else (some 1))))) = some r := h
 clear h
 replace H := jD.mp H
 obtain ⟨⟨t174, t175⟩, A30, H⟩ := H
 replace H : (if t175 = true then (some 2) else (if (t174.length : Int) = 0 then (some 0) else (if (t174.length : Int) = 3 then (some 3) else (some 1)))) = some r := H
 have A3 := jA A30
 clear A30
 by_cases c4 : t175 = true
 ·subst c4
  have H1 : (some 2) = some r := by rw [if_pos rfl] at H; exact H
  clear H
  have H := H1
  clear H1
  obtain rfl := jV H
  go_enter Try.func58, Try.ntmps58
  go_wp2_with (first | ((with_reducible refine jL (f := 48) rfl ?_); refine goesL_ (some 10) rfl rfl Try.func48 zr rfl #[.slice A0 l0.length c0, .int .i64 a1] rfl zm ?_; (with_reducible refine (spec_l24Of.calls k _ _ l0 a1 t174 true _ ?side1 ?side2 A3.out).mono ?_); (case side1 => repeat (first | exact HR0.out | (with_reducible refine jP ?_ _) | (with_reducible refine jO ?_ _) | (with_reducible refine jU ?_))); (case side2 => exact HC0.out); rintro e w5 ⟨v176, rfl, ho0, hb⟩; refine ⟨_, rfl, ?_⟩; have n0_ := jA (jZ ho0 (jT (zb0 HB))); have n1_ := jA (jM (zb0 HB) hb); clear HB; have HO177 := n0_; have HB := n1_; clear n0_ n1_; (try clear hb); (try clear hb2); (try clear hk); (try clear hi); (try clear ho0)))
  go_ret
  exact ⟨by first | rfl | (simp [errW_none, errW_some] <;> rfl) | (simp [*, errW_none, errW_some] <;> rfl), zb0 HB⟩
 ·replace c4 := Bool.eq_false_iff.mpr c4
  subst c4
  have H1 : (if (t174.length : Int) = 0 then (some 0) else (if (t174.length : Int) = 3 then (some 3) else (some 1))) = some r := by rw [if_neg (show ¬ (false = true) by decide)] at H; exact H
  clear H
  have H := H1
  clear H1
  by_cases c6 : (t174.length : Int) = 0
  ·rw [if_pos c6] at H
   have c6b0 : ((t174.length : Int) == 0) = true := beq_iff_eq.mpr c6
   have c6b1 : ((t174.length : Int) != 0) = false := bne_eq_false_iff_eq.mpr c6
   clear c6
   obtain rfl := jV H
   go_enter Try.func58, Try.ntmps58
   go_wp2_with (first | ((with_reducible refine jL (f := 48) rfl ?_); refine goesL_ (some 10) rfl rfl Try.func48 zr rfl #[.slice A0 l0.length c0, .int .i64 a1] rfl zm ?_; (with_reducible refine (spec_l24Of.calls k _ _ l0 a1 t174 false _ ?side1 ?side2 A3.out).mono ?_); (case side1 => repeat (first | exact HR0.out | (with_reducible refine jP ?_ _) | (with_reducible refine jO ?_ _) | (with_reducible refine jU ?_))); (case side2 => exact HC0.out); rintro e w7 ⟨v176, rfl, ho0, hb⟩; refine ⟨_, rfl, ?_⟩; have n0_ := jA (jZ ho0 (jT (zb0 HB))); have n1_ := jA (jM (zb0 HB) hb); clear HB; have HO177 := n0_; have HB := n1_; clear n0_ n1_; (try clear hb); (try clear hb2); (try clear hk); (try clear hi); (try clear ho0); obtain ⟨Ao8, co8, eo8⟩ := Kd.R_slice HO177.out; subst eo8))
   go_ret
   exact ⟨by first | rfl | (simp [errW_none, errW_some] <;> rfl) | (simp [*, errW_none, errW_some] <;> rfl), zb0 HB⟩
  ·rw [if_neg c6] at H
   have c6b0 : ((t174.length : Int) == 0) = false := beq_eq_false_iff_ne.mpr c6
   have c6b1 : ((t174.length : Int) != 0) = true := bne_iff_ne.mpr c6
   have c6b2 : ¬ (t174 = []) := fun h_ => c6 (by rw [h_]; rfl)
   by_cases c9 : (t174.length : Int) = 3
   ·rw [if_pos c9] at H
    have c9b0 : ((t174.length : Int) == 3) = true := beq_iff_eq.mpr c9
    have c9b1 : ((t174.length : Int) != 3) = false := bne_eq_false_iff_eq.mpr c9
    clear c9
    obtain rfl := jV H
    go_enter Try.func58, Try.ntmps58
    go_wp2_with (first | ((with_reducible refine jL (f := 48) rfl ?_); refine goesL_ (some 10) rfl rfl Try.func48 zr rfl #[.slice A0 l0.length c0, .int .i64 a1] rfl zm ?_; (with_reducible refine (spec_l24Of.calls k _ _ l0 a1 t174 false _ ?side1 ?side2 A3.out).mono ?_); (case side1 => repeat (first | exact HR0.out | (with_reducible refine jP ?_ _) | (with_reducible refine jO ?_ _) | (with_reducible refine jU ?_))); (case side2 => exact HC0.out); rintro e w10 ⟨v176, rfl, ho0, hb⟩; refine ⟨_, rfl, ?_⟩; have n0_ := jA (jZ ho0 (jT (zb0 HB))); have n1_ := jA (jM (zb0 HB) hb); clear HB; have HO177 := n0_; have HB := n1_; clear n0_ n1_; (try clear hb); (try clear hb2); (try clear hk); (try clear hi); (try clear ho0); obtain ⟨Ao11, co11, eo11⟩ := Kd.R_slice HO177.out; subst eo11))
    go_ret
    exact ⟨by first | rfl | (simp [errW_none, errW_some] <;> rfl) | (simp [*, errW_none, errW_some] <;> rfl), zb0 HB⟩
   ·rw [if_neg c9] at H
    have c9b0 : ((t174.length : Int) == 3) = false := beq_eq_false_iff_ne.mpr c9
    have c9b1 : ((t174.length : Int) != 3) = true := bne_iff_ne.mpr c9
    obtain rfl := jV H
    go_enter Try.func58, Try.ntmps58
    go_wp2_with (first | ((with_reducible refine jL (f := 48) rfl ?_); refine goesL_ (some 10) rfl rfl Try.func48 zr rfl #[.slice A0 l0.length c0, .int .i64 a1] rfl zm ?_; (with_reducible refine (spec_l24Of.calls k _ _ l0 a1 t174 false _ ?side1 ?side2 A3.out).mono ?_); (case side1 => repeat (first | exact HR0.out | (with_reducible refine jP ?_ _) | (with_reducible refine jO ?_ _) | (with_reducible refine jU ?_))); (case side2 => exact HC0.out); rintro e w12 ⟨v176, rfl, ho0, hb⟩; refine ⟨_, rfl, ?_⟩; have n0_ := jA (jZ ho0 (jT (zb0 HB))); have n1_ := jA (jM (zb0 HB) hb); clear HB; have HO177 := n0_; have HB := n1_; clear n0_ n1_; (try clear hb); (try clear hb2); (try clear hk); (try clear hi); (try clear ho0); obtain ⟨Ao13, co13, eo13⟩ := Kd.R_slice HO177.out; subst eo13))
    go_ret
    exact ⟨by first | rfl | (simp [errW_none, errW_some] <;> rfl) | (simp [*, errW_none, errW_some] <;> rfl), zb0 HB⟩

/-! ### spec_CueState: function 20 -/
def spec_CueState.f (k : Nat) (l0 : List (S36)) (a1 : Int) : Option (Int × Int) := (spec_l24Code.f k l0 a1).bind fun t178 => (if t178 = 0 then ((spec_l24State.f k l0 a1).bind fun t179 => (some (t179, 0))) else (some (0, t178)))
theorem spec_CueState.mono : ∀ a0 a1 k, LeO (spec_CueState.f k a0 a1) (spec_CueState.f (k + 1) a0 a1) := by
 intro a0 a1 k
 unfold spec_CueState.f
 repeat' first
   | (with_reducible exact spec_l24Code.mono _ _ _)
   | (with_reducible exact spec_l24State.mono _ _ _)
   | (with_reducible exact LeO.refl _)
   | (with_reducible exact LeO.none _)
   | (with_reducible refine LeO.ite ?_ ?_)
   | (with_reducible refine LeO.bind ?_ (fun _ => ?_))
   | exact spec_l24Code.mono _ _ _
   | exact spec_l24State.mono _ _ _
   | exact LeO.none _
   | refine LeO.ite ?_ ?_
   | refine LeO.bind ?_ (fun _ => ?_)
set_option maxHeartbeats 8000000 in
set_option maxRecDepth 100000 in
theorem spec_CueState.calls (k : Nat) (A0 : Option Addr) (c0 : Nat) (l0 : List (S36)) (a1 : Int) (r1 : Int) (r2 : Int) (w : World) (hr0 : Kd.C k36 w A0 l0.length l0) (hc0 : l0.length ≤ c0) (h : spec_CueState.f k l0 a1 = some (r1, r2)) :
  Calls Try.prog 20 #[.slice A0 l0.length c0, .int .i64 a1] w fun e w' => e = .returned (.tuple #[.int .i64 r1, .int .i64 r2]) ∧ Below w.heap.size w w' := by
 have HR0 := jA hr0
 have HC0 := jA hc0
 clear hr0 hc0
 have HB := jA (Below.refl w.heap.size w)
 have H : ((spec_l24Code.f k l0 a1).bind fun t178 => (if t178 = 0 then ((spec_l24State.f k l0 a1).bind fun t179 => (some (t179, 0))) else (some (0, t178)))) = some (r1, r2) := h
 clear h
 replace H := jD.mp H
 obtain ⟨t178, A30, H⟩ := H
 replace H : (if t178 = 0 then ((spec_l24State.f k l0 a1).bind fun t179 => (some (t179, 0))) else (some (0, t178))) = some (r1, r2) := H
 have A3 := jA A30
 clear A30
 by_cases c4 : t178 = 0
 ·rw [if_pos c4] at H
  have c4b0 : (t178 == 0) = true := beq_iff_eq.mpr c4
  have c4b1 : (t178 != 0) = false := bne_eq_false_iff_eq.mpr c4
  clear c4
  replace H := jD.mp H
  obtain ⟨t179, A50, H⟩ := H
  replace H : (some (t179, 0)) = some (r1, r2) := H
  have A5 := jA A50
  clear A50
  simp only [jY, jc] at H
  obtain ⟨rfl, rfl⟩ := H
  go_enter Try.func20, Try.ntmps20
  go_wp2_with (first | ((with_reducible refine jL (f := 55) rfl ?_); refine goesL_ (some 9) rfl rfl Try.func55 zr rfl #[.slice A0 l0.length c0, .int .i64 a1] rfl zm ?_; (with_reducible refine (spec_l24Code.calls k _ _ l0 a1 t178 _ ?side1 ?side2 A3.out).mono ?_); (case side1 => repeat (first | exact HR0.out | (with_reducible refine jP ?_ _) | (with_reducible refine jO ?_ _) | (with_reducible refine jU ?_))); (case side2 => exact HC0.out); rintro e w6 ⟨rfl, hb⟩; refine ⟨_, rfl, ?_⟩; have n0_ := jA (jM (zb0 HB) hb); clear HB; have HB := n0_; clear n0_; (try clear hb); (try clear hb2); (try clear hk); (try clear hi)) | ((with_reducible refine jL (f := 58) rfl ?_); refine goesL_ (some 15) rfl rfl Try.func58 zr rfl #[.slice A0 l0.length c0, .int .i64 a1] rfl zm ?_; (with_reducible refine (spec_l24State.calls k _ _ l0 a1 t179 _ ?side1 ?side2 A5.out).mono ?_); (case side1 => exact zs HR0 HB); (case side2 => exact HC0.out); rintro e w7 ⟨rfl, hb⟩; refine ⟨_, rfl, ?_⟩; have n0_ := jA (jM (zb0 HB) hb); clear HB; have HB := n0_; clear n0_; (try clear hb); (try clear hb2); (try clear hk); (try clear hi)))
  go_ret2
  exact ⟨by first | rfl | (simp [errW_none, errW_some] <;> rfl) | (simp [*, errW_none, errW_some] <;> rfl), zb0 HB⟩
 ·rw [if_neg c4] at H
  have c4b0 : (t178 == 0) = false := beq_eq_false_iff_ne.mpr c4
  have c4b1 : (t178 != 0) = true := bne_iff_ne.mpr c4
  simp only [jY, jc] at H
  obtain ⟨rfl, rfl⟩ := H
  go_enter Try.func20, Try.ntmps20
  go_wp2_with (first | ((with_reducible refine jL (f := 55) rfl ?_); refine goesL_ (some 9) rfl rfl Try.func55 zr rfl #[.slice A0 l0.length c0, .int .i64 a1] rfl zm ?_; (with_reducible refine (spec_l24Code.calls k _ _ l0 a1 t178 _ ?side1 ?side2 A3.out).mono ?_); (case side1 => repeat (first | exact HR0.out | (with_reducible refine jP ?_ _) | (with_reducible refine jO ?_ _) | (with_reducible refine jU ?_))); (case side2 => exact HC0.out); rintro e w8 ⟨rfl, hb⟩; refine ⟨_, rfl, ?_⟩; have n0_ := jA (jM (zb0 HB) hb); clear HB; have HB := n0_; clear n0_; (try clear hb); (try clear hb2); (try clear hk); (try clear hi)))
  go_ret2
  exact ⟨by first | rfl | (simp [errW_none, errW_some] <;> rfl) | (simp [*, errW_none, errW_some] <;> rfl), zb0 HB⟩

/-! ### impl_CueState: function 21 -/
def impl_CueState.f (k : Nat) (l0 : List (S36)) (a1 : Int) : Option (Int × Int) := (impl_cueAsked.f k l0 a1).bind fun t180 => (if t180 = 0 then ((impl_cueState.f k l0 a1).bind fun t181 => (some (t181, 0))) else (some (0, t180)))
theorem impl_CueState.mono : ∀ a0 a1 k, LeO (impl_CueState.f k a0 a1) (impl_CueState.f (k + 1) a0 a1) := by
 intro a0 a1 k
 unfold impl_CueState.f
 repeat' first
   | (with_reducible exact impl_cueAsked.mono _ _ _)
   | (with_reducible exact impl_cueState.mono _ _ _)
   | (with_reducible exact LeO.refl _)
   | (with_reducible exact LeO.none _)
   | (with_reducible refine LeO.ite ?_ ?_)
   | (with_reducible refine LeO.bind ?_ (fun _ => ?_))
   | exact impl_cueAsked.mono _ _ _
   | exact impl_cueState.mono _ _ _
   | exact LeO.none _
   | refine LeO.ite ?_ ?_
   | refine LeO.bind ?_ (fun _ => ?_)
set_option maxHeartbeats 8000000 in
set_option maxRecDepth 100000 in
theorem impl_CueState.calls (k : Nat) (A0 : Option Addr) (c0 : Nat) (l0 : List (S36)) (a1 : Int) (r1 : Int) (r2 : Int) (w : World) (hr0 : Kd.C k36 w A0 l0.length l0) (hc0 : l0.length ≤ c0) (h : impl_CueState.f k l0 a1 = some (r1, r2)) :
  Calls Try.prog 21 #[.slice A0 l0.length c0, .int .i64 a1] w fun e w' => e = .returned (.tuple #[.int .i64 r1, .int .i64 r2]) ∧ Below w.heap.size w w' := by
 have HR0 := jA hr0
 have HC0 := jA hc0
 clear hr0 hc0
 have HB := jA (Below.refl w.heap.size w)
 have H : ((impl_cueAsked.f k l0 a1).bind fun t180 => (if t180 = 0 then ((impl_cueState.f k l0 a1).bind fun t181 => (some (t181, 0))) else (some (0, t180)))) = some (r1, r2) := h
 clear h
 replace H := jD.mp H
 obtain ⟨t180, A30, H⟩ := H
 replace H : (if t180 = 0 then ((impl_cueState.f k l0 a1).bind fun t181 => (some (t181, 0))) else (some (0, t180))) = some (r1, r2) := H
 have A3 := jA A30
 clear A30
 by_cases c4 : t180 = 0
 ·rw [if_pos c4] at H
  have c4b0 : (t180 == 0) = true := beq_iff_eq.mpr c4
  have c4b1 : (t180 != 0) = false := bne_eq_false_iff_eq.mpr c4
  clear c4
  replace H := jD.mp H
  obtain ⟨t181, A50, H⟩ := H
  replace H : (some (t181, 0)) = some (r1, r2) := H
  have A5 := jA A50
  clear A50
  simp only [jY, jc] at H
  obtain ⟨rfl, rfl⟩ := H
  go_enter Try.func21, Try.ntmps21
  go_wp2_with (first | ((with_reducible refine jL (f := 56) rfl ?_); refine goesL_ (some 9) rfl rfl Try.func56 zr rfl #[.slice A0 l0.length c0, .int .i64 a1] rfl zm ?_; (with_reducible refine (impl_cueAsked.calls k _ _ l0 a1 t180 _ ?side1 ?side2 A3.out).mono ?_); (case side1 => repeat (first | exact HR0.out | (with_reducible refine jP ?_ _) | (with_reducible refine jO ?_ _) | (with_reducible refine jU ?_))); (case side2 => exact HC0.out); rintro e w6 ⟨rfl, hb⟩; refine ⟨_, rfl, ?_⟩; have n0_ := jA (jM (zb0 HB) hb); clear HB; have HB := n0_; clear n0_; (try clear hb); (try clear hb2); (try clear hk); (try clear hi)) | ((with_reducible refine jL (f := 53) rfl ?_); refine goesL_ (some 15) rfl rfl Try.func53 zr rfl #[.slice A0 l0.length c0, .int .i64 a1] rfl zm ?_; (with_reducible refine (impl_cueState.calls k _ _ l0 a1 t181 _ ?side1 ?side2 A5.out).mono ?_); (case side1 => exact zs HR0 HB); (case side2 => exact HC0.out); rintro e w7 ⟨rfl, hb⟩; refine ⟨_, rfl, ?_⟩; have n0_ := jA (jM (zb0 HB) hb); clear HB; have HB := n0_; clear n0_; (try clear hb); (try clear hb2); (try clear hk); (try clear hi)))
  go_ret2
  exact ⟨by first | rfl | (simp [errW_none, errW_some] <;> rfl) | (simp [*, errW_none, errW_some] <;> rfl), zb0 HB⟩
 ·rw [if_neg c4] at H
  have c4b0 : (t180 == 0) = false := beq_eq_false_iff_ne.mpr c4
  have c4b1 : (t180 != 0) = true := bne_iff_ne.mpr c4
  simp only [jY, jc] at H
  obtain ⟨rfl, rfl⟩ := H
  go_enter Try.func21, Try.ntmps21
  go_wp2_with (first | ((with_reducible refine jL (f := 56) rfl ?_); refine goesL_ (some 9) rfl rfl Try.func56 zr rfl #[.slice A0 l0.length c0, .int .i64 a1] rfl zm ?_; (with_reducible refine (impl_cueAsked.calls k _ _ l0 a1 t180 _ ?side1 ?side2 A3.out).mono ?_); (case side1 => repeat (first | exact HR0.out | (with_reducible refine jP ?_ _) | (with_reducible refine jO ?_ _) | (with_reducible refine jU ?_))); (case side2 => exact HC0.out); rintro e w8 ⟨rfl, hb⟩; refine ⟨_, rfl, ?_⟩; have n0_ := jA (jM (zb0 HB) hb); clear HB; have HB := n0_; clear n0_; (try clear hb); (try clear hb2); (try clear hk); (try clear hi)))
  go_ret2
  exact ⟨by first | rfl | (simp [errW_none, errW_some] <;> rfl) | (simp [*, errW_none, errW_some] <;> rfl), zb0 HB⟩

/-! ### spec_TriesOf: function 30 -/
def spec_TriesOf.f (k : Nat) (l0 : List (S36)) (a1 : Int) : Option (List Int × Int) := (spec_l24Code.f k l0 a1).bind fun t182 => (if t182 = 0 then ((spec_l24Of.f k l0 a1).bind fun bt183 => (some (bt183.1, 0))) else (some (([] : List Int), t182)))
theorem spec_TriesOf.mono : ∀ a0 a1 k, LeO (spec_TriesOf.f k a0 a1) (spec_TriesOf.f (k + 1) a0 a1) := by
 intro a0 a1 k
 unfold spec_TriesOf.f
 repeat' first
   | (with_reducible exact spec_l24Code.mono _ _ _)
   | (with_reducible exact spec_l24Of.mono _ _ _)
   | (with_reducible exact LeO.refl _)
   | (with_reducible exact LeO.none _)
   | (with_reducible refine LeO.ite ?_ ?_)
   | (with_reducible refine LeO.bind ?_ (fun _ => ?_))
   | exact spec_l24Code.mono _ _ _
   | exact spec_l24Of.mono _ _ _
   | exact LeO.none _
   | refine LeO.ite ?_ ?_
   | refine LeO.bind ?_ (fun _ => ?_)
set_option maxHeartbeats 8000000 in
set_option maxRecDepth 100000 in
theorem spec_TriesOf.calls (k : Nat) (A0 : Option Addr) (c0 : Nat) (l0 : List (S36)) (a1 : Int) (r1 : List Int) (r2 : Int) (w : World) (hr0 : Kd.C k36 w A0 l0.length l0) (hc0 : l0.length ≤ c0) (h : spec_TriesOf.f k l0 a1 = some (r1, r2)) :
  Calls Try.prog 30 #[.slice A0 l0.length c0, .int .i64 a1] w fun e w' => ∃ v0_ : Value, e = .returned (.tuple #[v0_, .int .i64 r2]) ∧ Kd.R (Kd.int .i64) 2 w' w.heap.size (fun _ => True) v0_ r1 ∧ Below w.heap.size w w' := by
 have HR0 := jA hr0
 have HC0 := jA hc0
 clear hr0 hc0
 have HB := jA (Below.refl w.heap.size w)
 have H : ((spec_l24Code.f k l0 a1).bind fun t182 => (if t182 = 0 then ((spec_l24Of.f k l0 a1).bind fun bt183 => (some (bt183.1, 0))) else (some (([] : List Int), t182)))) = some (r1, r2) := h
 clear h
 replace H := jD.mp H
 obtain ⟨t182, A30, H⟩ := H
 replace H : (if t182 = 0 then ((spec_l24Of.f k l0 a1).bind fun bt183 => (some (bt183.1, 0))) else (some (([] : List Int), t182))) = some (r1, r2) := H
 have A3 := jA A30
 clear A30
 by_cases c4 : t182 = 0
 ·rw [if_pos c4] at H
  have c4b0 : (t182 == 0) = true := beq_iff_eq.mpr c4
  have c4b1 : (t182 != 0) = false := bne_eq_false_iff_eq.mpr c4
  clear c4
  replace H := jD.mp H
  obtain ⟨⟨t183, t184⟩, A50, H⟩ := H
  replace H : (some (t183, 0)) = some (r1, r2) := H
  have A5 := jA A50
  clear A50
  simp only [jY, jc] at H
  obtain ⟨rfl, rfl⟩ := H
  go_enter Try.func30, Try.ntmps30
  go_wp2_with (first | ((with_reducible refine jL (f := 55) rfl ?_); refine goesL_ (some 11) rfl rfl Try.func55 zr rfl #[.slice A0 l0.length c0, .int .i64 a1] rfl zm ?_; (with_reducible refine (spec_l24Code.calls k _ _ l0 a1 t182 _ ?side1 ?side2 A3.out).mono ?_); (case side1 => repeat (first | exact HR0.out | (with_reducible refine jP ?_ _) | (with_reducible refine jO ?_ _) | (with_reducible refine jU ?_))); (case side2 => exact HC0.out); rintro e w6 ⟨rfl, hb⟩; refine ⟨_, rfl, ?_⟩; have n0_ := jA (jM (zb0 HB) hb); clear HB; have HB := n0_; clear n0_; (try clear hb); (try clear hb2); (try clear hk); (try clear hi)) | ((with_reducible refine jL (f := 48) rfl ?_); refine goesL_ (some 18) rfl rfl Try.func48 zr rfl #[.slice A0 l0.length c0, .int .i64 a1] rfl zm ?_; (with_reducible refine (spec_l24Of.calls k _ _ l0 a1 t183 t184 _ ?side1 ?side2 A5.out).mono ?_); (case side1 => exact zs HR0 HB); (case side2 => exact HC0.out); rintro e w7 ⟨v185, rfl, ho0, hb⟩; refine ⟨_, rfl, ?_⟩; have n0_ := jA (jZ ho0 (jT (zb0 HB))); have n1_ := jA (jM (zb0 HB) hb); clear HB; have HO186 := n0_; have HB := n1_; clear n0_ n1_; (try clear hb); (try clear hb2); (try clear hk); (try clear hi); (try clear ho0)))
  go_ret2
  exact ⟨_, by first | rfl | (simp [errW_none, errW_some] <;> rfl) | (simp [*, errW_none, errW_some] <;> rfl), by (with_reducible repeat (first | apply jG | apply jF | apply jK)); exact HO186.out, zb0 HB⟩
 ·rw [if_neg c4] at H
  have c4b0 : (t182 == 0) = false := beq_eq_false_iff_ne.mpr c4
  have c4b1 : (t182 != 0) = true := bne_iff_ne.mpr c4
  simp only [jY, jc] at H
  obtain ⟨rfl, rfl⟩ := H
  go_enter Try.func30, Try.ntmps30
  go_wp2_with (first | ((with_reducible refine jL (f := 55) rfl ?_); refine goesL_ (some 11) rfl rfl Try.func55 zr rfl #[.slice A0 l0.length c0, .int .i64 a1] rfl zm ?_; (with_reducible refine (spec_l24Code.calls k _ _ l0 a1 t182 _ ?side1 ?side2 A3.out).mono ?_); (case side1 => repeat (first | exact HR0.out | (with_reducible refine jP ?_ _) | (with_reducible refine jO ?_ _) | (with_reducible refine jU ?_))); (case side2 => exact HC0.out); rintro e w8 ⟨rfl, hb⟩; refine ⟨_, rfl, ?_⟩; have n0_ := jA (jM (zb0 HB) hb); clear HB; have HB := n0_; clear n0_; (try clear hb); (try clear hb2); (try clear hk); (try clear hi)))
  go_ret2
  exact ⟨_, by first | rfl | (simp [errW_none, errW_some] <;> rfl) | (simp [*, errW_none, errW_some] <;> rfl), by first | exact Kd.R_nil _ _ _ _ _ | exact Kd.N_nil _ _ _ _ _ | exact Kd.V_nil _ _ _ _ _ | exact Kd.Q_nil _ _ _ _ _ | exact Kd.S_nil _ _ _ _ _, zb0 HB⟩

/-! ### impl_TriesOf: function 31 -/
def impl_TriesOf.l0 : Nat → List Int → List (S36) → Int → Int → Option (List Int × Int)
 | 0, _, _, _, _ => none
 | k + 1, x7, x18, x19, x20 => if x20 < x19 then (if 0 ≤ x20 then (if x20 < (x18.length : Int) then (if x7.length < 17592186044416 then (impl_TriesOf.l0 k (x7 ++ [(rd_T36 x18 x20).f1]) x18 x19 (wrap64 (x20 + 1))) else (none)) else (none)) else (none)) else (some (x7, 0))
def impl_TriesOf.f (k : Nat) (l0 : List (S36)) (a1 : Int) : Option (List Int × Int) := (impl_cueAsked.f k l0 a1).bind fun t187 => (if t187 = 0 then ((impl_triesOf.f k l0 a1).bind fun t188 => (impl_TriesOf.l0 k ([] : List Int) t188 (t188.length : Int) 0)) else (some (([] : List Int), t187)))
theorem impl_TriesOf.mono_l : ∀ k, (∀ y0 y1 y2 y3, LeO (impl_TriesOf.l0 k y0 y1 y2 y3) (impl_TriesOf.l0 (k + 1) y0 y1 y2 y3))
 | 0 => fun _ _ _ _ r h => by simp [impl_TriesOf.l0] at h
 | k + 1 => by
  have ih0 := impl_TriesOf.mono_l k
  ·intro y0 y1 y2 y3
   unfold impl_TriesOf.l0
   repeat' first
   | (with_reducible exact ih0 _ _ _ _)
   | (with_reducible exact impl_cueAsked.mono _ _ _)
   | (with_reducible exact impl_triesOf.mono _ _ _)
   | (with_reducible exact LeO.refl _)
   | (with_reducible exact LeO.none _)
   | (with_reducible refine LeO.ite ?_ ?_)
   | (with_reducible refine LeO.bind ?_ (fun _ => ?_))
   | exact ih0 _ _ _ _
   | exact impl_cueAsked.mono _ _ _
   | exact impl_triesOf.mono _ _ _
   | exact LeO.none _
   | refine LeO.ite ?_ ?_
   | refine LeO.bind ?_ (fun _ => ?_)
theorem impl_TriesOf.mono : ∀ a0 a1 k, LeO (impl_TriesOf.f k a0 a1) (impl_TriesOf.f (k + 1) a0 a1) := by
 intro a0 a1 k
 have ih0 := impl_TriesOf.mono_l k
 unfold impl_TriesOf.f
 repeat' first
   | (with_reducible exact ih0 _ _ _ _)
   | (with_reducible exact impl_cueAsked.mono _ _ _)
   | (with_reducible exact impl_triesOf.mono _ _ _)
   | (with_reducible exact LeO.refl _)
   | (with_reducible exact LeO.none _)
   | (with_reducible refine LeO.ite ?_ ?_)
   | (with_reducible refine LeO.bind ?_ (fun _ => ?_))
   | exact ih0 _ _ _ _
   | exact impl_cueAsked.mono _ _ _
   | exact impl_triesOf.mono _ _ _
   | exact LeO.none _
   | refine LeO.ite ?_ ?_
   | refine LeO.bind ?_ (fun _ => ?_)
set_option maxHeartbeats 8000000 in
set_option maxRecDepth 100000 in
theorem impl_TriesOf.calls (k : Nat) (A0 : Option Addr) (c0 : Nat) (l0 : List (S36)) (a1 : Int) (r1 : List Int) (r2 : Int) (w : World) (hr0 : Kd.C k36 w A0 l0.length l0) (hc0 : l0.length ≤ c0) (h : impl_TriesOf.f k l0 a1 = some (r1, r2)) :
  Calls Try.prog 31 #[.slice A0 l0.length c0, .int .i64 a1] w fun e w' => ∃ v0_ : Value, e = .returned (.tuple #[v0_, .int .i64 r2]) ∧ Kd.R (Kd.int .i64) 2 w' w.heap.size (fun _ => True) v0_ r1 ∧ Below w.heap.size w w' := by
 have hu36 := Try.underlying36
 have HR0 := jA hr0
 have HC0 := jA hc0
 clear hr0 hc0
 have HB := jA (Below.refl w.heap.size w)
 have H : ((impl_cueAsked.f k l0 a1).bind fun t187 => (if t187 = 0 then ((impl_triesOf.f k l0 a1).bind fun t188 => (impl_TriesOf.l0 k ([] : List Int) t188 (t188.length : Int) 0)) else (some (([] : List Int), t187)))) = some (r1, r2) := h
 clear h
 replace H := jD.mp H
 obtain ⟨t187, A30, H⟩ := H
 replace H : (if t187 = 0 then ((impl_triesOf.f k l0 a1).bind fun t188 => (impl_TriesOf.l0 k ([] : List Int) t188 (t188.length : Int) 0)) else (some (([] : List Int), t187))) = some (r1, r2) := H
 have A3 := jA A30
 clear A30
 by_cases c4 : t187 = 0
 ·rw [if_pos c4] at H
  have c4b0 : (t187 == 0) = true := beq_iff_eq.mpr c4
  have c4b1 : (t187 != 0) = false := bne_eq_false_iff_eq.mpr c4
  clear c4
  replace H := jD.mp H
  obtain ⟨t188, A50, H⟩ := H
  replace H : (impl_TriesOf.l0 k ([] : List Int) t188 (t188.length : Int) 0) = some (r1, r2) := H
  have A5 := jA A50
  clear A50
  have H' := jA H
  clear H
  go_enter Try.func31, Try.ntmps31
  go_wp2_with (first | ((with_reducible refine jL (f := 56) rfl ?_); refine goesL_ (some 12) rfl rfl Try.func56 zr rfl #[.slice A0 l0.length c0, .int .i64 a1] rfl zm ?_; (with_reducible refine (impl_cueAsked.calls k _ _ l0 a1 t187 _ ?side1 ?side2 A3.out).mono ?_); (case side1 => repeat (first | exact HR0.out | (with_reducible refine jP ?_ _) | (with_reducible refine jO ?_ _) | (with_reducible refine jU ?_))); (case side2 => exact HC0.out); rintro e w6 ⟨rfl, hb⟩; refine ⟨_, rfl, ?_⟩; have n0_ := jA (jM (zb0 HB) hb); clear HB; have HB := n0_; clear n0_; (try clear hb); (try clear hb2); (try clear hk); (try clear hi)) | ((with_reducible refine jL (f := 57) rfl ?_); refine goesL_ (some 18) rfl rfl Try.func57 zr rfl #[.slice A0 l0.length c0, .int .i64 a1] rfl zm ?_; (with_reducible refine (impl_triesOf.calls k _ _ l0 a1 t188 _ ?side1 ?side2 A5.out).mono ?_); (case side1 => exact zs HR0 HB); (case side2 => exact HC0.out); rintro e w7 ⟨v189, rfl, ho0, hb⟩; refine ⟨_, rfl, ?_⟩; have n0_ := jA (jZ ho0 (jT (zb0 HB))); have n1_ := jA (jM (zb0 HB) hb); clear HB; have HO190 := n0_; have HB := n1_; clear n0_ n1_; (try clear hb); (try clear hb2); (try clear hk); (try clear hi); (try clear ho0); obtain ⟨Ao8, co8, eo8⟩ := Kd.R_slice HO190.out; subst eo8))
  go_loopg [7, 20] k (fun kq v7 v20 w' => ∃ (x7_1 : List Int) (x20_1 : Int), v20 = .int .i64 x20_1 ∧ Aside0 (impl_TriesOf.l0 kq x7_1 t188 (t188.length : Int) x20_1 = some (r1, r2)) ∧ Aside0 (kq ≤ k) ∧ Aside0 (Kd.R (Kd.int .i64) 2 w' w.heap.size (fun _ => True) v7 x7_1) ∧ Aside0 (Kd.R k36 36 w' w.heap.size (fun _ => True) (.slice Ao8 t188.length co8) t188) ∧ Aside0 (Below w.heap.size w w'))
  case atStart => exact ⟨(([] : List Int)), (0), zz, H', ⟨Nat.le_refl _⟩, ⟨by first | exact Kd.R_nil _ _ _ _ _ | exact Kd.N_nil _ _ _ _ _ | exact Kd.V_nil _ _ _ _ _ | exact Kd.Q_nil _ _ _ _ _ | exact Kd.S_nil _ _ _ _ _⟩, ⟨by (with_reducible repeat (first | apply jG | apply jF | apply jK)); exact HO190.out⟩, ⟨zb0 HB⟩⟩
  case round =>
   clear H'
   try clear p2
   try clear c3
   try clear c4
   try clear c4b0
   try clear c4b1
   try clear c5
   obtain ⟨x7_1, x20_1, rfl, HA, HK1, HO_7, HO_18, HB⟩ := hrel
   cases gk with
   | zero => exact absurd HA.out (by simp [impl_TriesOf.l0])
   | succ k1 =>
    have H := HA.out
    clear HA
    simp only [impl_TriesOf.l0] at H
    by_cases c9 : x20_1 < (t188.length : Int)
    ·rw [if_pos c9] at H
     have c9b0 : decide (x20_1 < (t188.length : Int)) = true := jN c9
     clear c9
     by_cases c10 : 0 ≤ x20_1
     ·rw [if_pos c10] at H
      have c10b0 : decide (0 ≤ x20_1) = true := jN c10
      clear c10
      by_cases c11 : x20_1 < (t188.length : Int)
      ·rw [if_pos c11] at H
       have c11b0 : decide (x20_1 < (t188.length : Int)) = true := jN c11
       clear c11
       by_cases c12 : x7_1.length < 17592186044416
       ·rw [if_pos c12] at H
        have LMc12 := jA c12
        clear c12
        obtain ⟨y193, hy193⟩ : ∃ y_ : List Int, y_ = (x7_1 ++ [(rd_T36 t188 x20_1).f1]) := ⟨_, rfl⟩
        replace H : (impl_TriesOf.l0 k1 y193 t188 (t188.length : Int) (wrap64 (x20_1 + 1))) = some (r1, r2) := by first | (rw [hy193]; with_reducible exact H) | (have H2_ := (Option.bind_some _ _).symm.trans H; rw [hy193]; with_reducible exact H2_) | (have H2_ := (Option.bind_some _ _).symm.trans H; with_reducible exact H2_) | with_reducible exact H | (rw [hy193]; exact H) | exact H
        have Ny193 := jA hy193
        clear hy193
        have H' := jA H
        clear H
        have p191 : 0 ≤ (x20_1 : Int) := jC za
        have q191 : x20_1 < (t188.length : Int) := jC za
        obtain ⟨ad191, e191, hx191_0, hx191_1, hx191_2⟩ := at_T36 (jH HO_18.out).2.2 x20_1 p191 q191
        cases e191
        replace p191 := eq_true p191
        replace q191 := eq_true q191
        go_wp2_with (first | ((with_reducible refine gate_dst (N := 9) rfl ?_); refine box_event ?hg (N := 9) ?hd (cs := #[.int .i64 0, .int .i64 0, .bool false]) (t := 36) ?hr ?_; (case hd => rfl); (case hg => rfl); (case hr => first | (go_simp; done) | (go_simp; rfl)); intro gb192 hg w13 hbox hb; have n0_ := jA (jX (zo HO_7) hb); have n1_ := jA (jX (Kd.R_elderB (zo HO_18) gb192 (Nat.le_of_eq hg.symm)) hb); have n2_ := jA (jM (zb0 HB) hb); have n3_ := jA (hbox); have n4_ := jA ((by rw [hg]; exact (jT (zb0 HB)) : w.heap.size ≤ gb192)); have n5_ := jA ((by rw [hg]; exact (jT (zb0 HB)) : w.heap.size ≤ gb192)); clear HO_7; clear HO_18; clear HB; have HO_7 := n0_; have HO_18 := n1_; have HB := n2_; have BK192 := n3_; have GW192 := n4_; have GE192 := n5_; clear n0_ n1_ n2_ n3_ n4_ n5_; clear hb hbox hg; have hcz14_0 : w13.cell? ⟨gb192, 0, none⟩ = some (.int .i64 0) := (jE BK192.out 0).trans rfl; have hcz14_1 : w13.cell? ⟨gb192, 1, none⟩ = some (.int .i64 0) := (jE BK192.out 1).trans rfl; have hcz14_2 : w13.cell? ⟨gb192, 2, none⟩ = some (.bool false) := (jE BK192.out 2).trans rfl; have hfz14_0 := je BK192.out 0; have hfz14_1 := je BK192.out 1; have hfz14_2 := je BK192.out 2) | ((with_reducible refine gate_builtin (b := .append) (xs := #[.tmp 24, .tmp 27]) rfl ?_); at_builtin; refine Kd.R_append (Kd.int .i64) (w0 := w) w.heap.size rfl (.tmp 24) (.tmp 27) 40 2 (.int .i64 0) 8 rfl Try.underlying40 info2 rfl (by decide) (by omega) u7 x7_1 ((rd_T36 t188 x20_1).f1) [.int .i64 ((rd_T36 t188 x20_1).f1)] (fun _ => True) (fun _ => False) rfl (by first | (go_simp; done) | (go_simp; rfl)) ?aP (fun _ hk => hk.elim) ?aF ?aO ?aB ?aS ?aL ?_; (case aP => exact rfl); (case aB => exact (zb1 HB GE192)); (case aF => exact (fun _ _ => trivial)); (case aO => exact (by (with_reducible repeat (first | apply jG | apply jF | apply jK)); exact Kd.R_mono (Kd.R_far (p := ⟨gb192, 2, none⟩) (Kd.R_far (p := ⟨gb192, 1, none⟩) (Kd.R_far (p := ⟨gb192, 0, none⟩) (Kd.R_types HO_7.out BK192.out (by decide)) (fun _ hk => hk.2) (.int .i64 ((rd_T36 t188 x20_1).f0))) (fun _ hk => hk.2) (.int .i64 ((rd_T36 t188 x20_1).f1))) (fun _ hk => hk.2) (.bool ((rd_T36 t188 x20_1).f2))) (fun _ hk => trivial))); (case aS => exact (jT (zb1 HB GE192))); (case aL => have := LMc12.out; omega); intro v194 w15 ho hb hg hat; rw [← Ny193.out] at ho; have n0_ := jA (Kd.R_over' (by (with_reducible repeat (first | apply jG | apply jF | apply jK)); exact (Kd.R_mono (Kd.R_far (p := ⟨gb192, 2, none⟩) (Kd.R_far (p := ⟨gb192, 1, none⟩) (Kd.R_far (p := ⟨gb192, 0, none⟩) (Kd.R_mono HO_18.out (fun k_ hk => (⟨hk, hk.2⟩ : _ ∧ k_ ≠ gb192))) (fun _ hk => hk.2) (.int .i64 ((rd_T36 t188 x20_1).f0))) (fun _ hk => hk.2) (.int .i64 ((rd_T36 t188 x20_1).f1))) (fun _ hk => hk.2) (.bool ((rd_T36 t188 x20_1).f2))) (fun _ h_ => h_.1))) (Kd.R_typed (by (with_reducible repeat (first | apply jG | apply jF | apply jK)); exact (Kd.R_mono (Kd.R_far (p := ⟨gb192, 2, none⟩) (Kd.R_far (p := ⟨gb192, 1, none⟩) (Kd.R_far (p := ⟨gb192, 0, none⟩) (Kd.R_types HO_7.out BK192.out (by decide)) (fun _ hk => hk.2) (.int .i64 ((rd_T36 t188 x20_1).f0))) (fun _ hk => hk.2) (.int .i64 ((rd_T36 t188 x20_1).f1))) (fun _ hk => hk.2) (.bool ((rd_T36 t188 x20_1).f2))) (fun _ h_ => h_.1)))) (by decide) hg); have n1_ := jA (blk_grown (g := gb192) (o := .cells #[.int .i64 ((rd_T36 t188 x20_1).f0), .int .i64 ((rd_T36 t188 x20_1).f1), .bool ((rd_T36 t188 x20_1).f2)] 36 (0, 0)) (by (with_reducible repeat (first | refine blk_drewN ?_ _ | refine jb ?_ | refine blk_alloc ?_ _)); refine blk_put (cs := #[.int .i64 ((rd_T36 t188 x20_1).f0), .int .i64 ((rd_T36 t188 x20_1).f1), .bool false]) ?_ 2 _ rfl; (with_reducible repeat (first | refine blk_drewN ?_ _ | refine jb ?_ | refine blk_alloc ?_ _)); refine blk_put (cs := #[.int .i64 ((rd_T36 t188 x20_1).f0), .int .i64 0, .bool false]) ?_ 1 _ rfl; (with_reducible repeat (first | refine blk_drewN ?_ _ | refine jb ?_ | refine blk_alloc ?_ _)); refine blk_put (cs := #[.int .i64 0, .int .i64 0, .bool false]) ?_ 0 _ rfl; (with_reducible repeat (first | refine blk_drewN ?_ _ | refine jb ?_ | refine blk_alloc ?_ _)); exact BK192.out) hg (Kd.R_ne HO_7.out BK192.out (by decide))); have n2_ := jA (hb); have n3_ := jA (ho); clear HO_18; clear BK192; clear HB; clear HO_7; have HO_18 := n0_; have BK192 := n1_; have HB := n2_; have HO195 := n3_; clear n0_ n1_ n2_ n3_; clear ho hb hg hat))
        go_roundg k1
        case measure => have := HK1.out; omega
        case rel => exact ⟨(y193), (wrap64 (x20_1 + 1)), zz, H', ⟨by have := HK1.out; omega⟩, ⟨by (with_reducible repeat (first | apply jG | apply jF | apply jK)); exact HO195.out⟩, ⟨by (with_reducible repeat (first | apply jG | apply jF | apply jK)); exact Kd.R_mono HO_18.out (fun _ hk => trivial)⟩, ⟨zb1 HB GE192⟩⟩
       ·rw [if_neg c12] at H
        exact absurd H (by simp)
      ·rw [if_neg c11] at H
       exact absurd H (by simp)
     ·rw [if_neg c10] at H
      exact absurd H (by simp)
    ·rw [if_neg c9] at H
     have c9b0 : decide (x20_1 < (t188.length : Int)) = false := jd c9
     clear c9
     simp only [jY, jc] at H
     obtain ⟨rfl, rfl⟩ := H
     go_wp2
     go_ret2
     exact ⟨_, by first | rfl | (simp [errW_none, errW_some] <;> rfl) | (simp [*, errW_none, errW_some] <;> rfl), by (with_reducible repeat (first | apply jG | apply jF | apply jK)); exact HO_7.out, zb0 HB⟩
 ·rw [if_neg c4] at H
  have c4b0 : (t187 == 0) = false := beq_eq_false_iff_ne.mpr c4
  have c4b1 : (t187 != 0) = true := bne_iff_ne.mpr c4
  simp only [jY, jc] at H
  obtain ⟨rfl, rfl⟩ := H
  go_enter Try.func31, Try.ntmps31
  go_wp2_with (first | ((with_reducible refine jL (f := 56) rfl ?_); refine goesL_ (some 12) rfl rfl Try.func56 zr rfl #[.slice A0 l0.length c0, .int .i64 a1] rfl zm ?_; (with_reducible refine (impl_cueAsked.calls k _ _ l0 a1 t187 _ ?side1 ?side2 A3.out).mono ?_); (case side1 => repeat (first | exact HR0.out | (with_reducible refine jP ?_ _) | (with_reducible refine jO ?_ _) | (with_reducible refine jU ?_))); (case side2 => exact HC0.out); rintro e w16 ⟨rfl, hb⟩; refine ⟨_, rfl, ?_⟩; have n0_ := jA (jM (zb0 HB) hb); clear HB; have HB := n0_; clear n0_; (try clear hb); (try clear hb2); (try clear hk); (try clear hi)))
  go_ret2
  exact ⟨_, by first | rfl | (simp [errW_none, errW_some] <;> rfl) | (simp [*, errW_none, errW_some] <;> rfl), by first | exact Kd.R_nil _ _ _ _ _ | exact Kd.N_nil _ _ _ _ _ | exact Kd.V_nil _ _ _ _ _ | exact Kd.Q_nil _ _ _ _ _ | exact Kd.S_nil _ _ _ _ _, zb0 HB⟩

end Go.Proofs.Ythnpffomoaeeoaa.PFnCueStates
