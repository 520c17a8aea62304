/- Functions and contracts that FnCueStates reaches (6 of 11). -/
import Derived.Test.YthnpffomoaeeoaaQFnCueStatesx4
namespace Go.Proofs.Ythnpffomoaeeoaa.PFnCueStates
open Go.RowKit Go.Proofs.YthnpffomoaeeoaaW.PrintWords Go.Proofs.YthnpffomoaeeoaaW.PrintLast Go.Proofs.YthnpffomoaeeoaaW.PrintMore
attribute [local go_sem] max2_int min2_int max_two min_two max_three min_three max_four min_four   -- for this text's walks alone
set_option linter.unusedVariables false
set_option linter.unusedSimpArgs false

/-! ### spec_CountTries: function 35 -/
def spec_CountTries.l0 : Nat → List (S36) → List Int → Int → Option (List Int × Int)
 | 0, _, _, _ => none
 | k + 1, x0, x5, x6 => if x6 < 20 then ((spec_l24Of.f k x0 x6).bind fun bt200 => (if bt200.2 = true then (if 0 ≤ (wrap64 ((bt200.1.length : Int) - 1)) then (if (wrap64 ((bt200.1.length : Int) - 1)) < (x5.length : Int) then (spec_CountTries.l0 k x0 (x5.set ((wrap64 ((bt200.1.length : Int) - 1)) : Int).toNat (wrap64 ((rd x5 (wrap64 ((bt200.1.length : Int) - 1))) + 1))) (wrap64 (x6 + 1))) else (none)) else (none)) else (spec_CountTries.l0 k x0 x5 (wrap64 (x6 + 1))))) else (some (x5, 0))
def spec_CountTries.f (k : Nat) (l0 : List (S36)) : Option (List Int × Int) := (spec_l24Code.f k l0 0).bind fun t196 => (if t196 = 0 then (if 3 ≤ 35184372088832 then (spec_CountTries.l0 k l0 (List.replicate 3 0) 0) else (none)) else (some (([] : List Int), t196)))
theorem spec_CountTries.mono_l : ∀ k, (∀ y0 y1 y2, LeO (spec_CountTries.l0 k y0 y1 y2) (spec_CountTries.l0 (k + 1) y0 y1 y2))
 | 0 => fun _ _ _ r h => by simp [spec_CountTries.l0] at h
 | k + 1 => by
  have ih0 := spec_CountTries.mono_l k
  ·intro y0 y1 y2
   unfold spec_CountTries.l0
   repeat' first
   | (with_reducible exact ih0 _ _ _)
   | (with_reducible exact spec_l24Code.mono _ _ _)
   | (with_reducible exact spec_l24Of.mono _ _ _)
   | (with_reducible exact LeO.refl _)
   | (with_reducible exact LeO.none _)
   | (with_reducible refine LeO.ite ?_ ?_)
   | (with_reducible refine LeO.bind ?_ (fun _ => ?_))
   | exact ih0 _ _ _
   | exact spec_l24Code.mono _ _ _
   | exact spec_l24Of.mono _ _ _
   | exact LeO.none _
   | refine LeO.ite ?_ ?_
   | refine LeO.bind ?_ (fun _ => ?_)
theorem spec_CountTries.mono : ∀ a0 k, LeO (spec_CountTries.f k a0) (spec_CountTries.f (k + 1) a0) := by
 intro a0 k
 have ih0 := spec_CountTries.mono_l k
 unfold spec_CountTries.f
 repeat' first
   | (with_reducible exact ih0 _ _ _)
   | (with_reducible exact spec_l24Code.mono _ _ _)
   | (with_reducible exact spec_l24Of.mono _ _ _)
   | (with_reducible exact LeO.refl _)
   | (with_reducible exact LeO.none _)
   | (with_reducible refine LeO.ite ?_ ?_)
   | (with_reducible refine LeO.bind ?_ (fun _ => ?_))
   | exact ih0 _ _ _
   | exact spec_l24Code.mono _ _ _
   | exact spec_l24Of.mono _ _ _
   | exact LeO.none _
   | refine LeO.ite ?_ ?_
   | refine LeO.bind ?_ (fun _ => ?_)
set_option maxHeartbeats 8000000 in
set_option maxRecDepth 100000 in
theorem spec_CountTries.calls (k : Nat) (A0 : Option Addr) (c0 : Nat) (l0 : List (S36)) (r1 : List Int) (r2 : Int) (w : World) (hr0 : Kd.C k36 w A0 l0.length l0) (hc0 : l0.length ≤ c0) (h : spec_CountTries.f k l0 = some (r1, r2)) :
  Calls Try.prog 35 #[.slice A0 l0.length c0] w fun e w' => ∃ v0_ : Value, e = .returned (.tuple #[v0_, .int .i64 r2]) ∧ Kd.R (Kd.int .i64) 2 w' w.heap.size (fun _ => True) v0_ r1 ∧ Below w.heap.size w w' := by
 have HR0 := jA hr0
 have HC0 := jA hc0
 clear hr0 hc0
 have HB := jA (Below.refl w.heap.size w)
 have H : ((spec_l24Code.f k l0 0).bind fun t196 => (if t196 = 0 then (if 3 ≤ 35184372088832 then (spec_CountTries.l0 k l0 (List.replicate 3 0) 0) else (none)) else (some (([] : List Int), t196)))) = some (r1, r2) := h
 clear h
 replace H := jD.mp H
 obtain ⟨t196, A20, H⟩ := H
 replace H : (if t196 = 0 then (if 3 ≤ 35184372088832 then (spec_CountTries.l0 k l0 (List.replicate 3 0) 0) else (none)) else (some (([] : List Int), t196))) = some (r1, r2) := H
 have A2 := jA A20
 clear A20
 by_cases c3 : t196 = 0
 ·rw [if_pos c3] at H
  have c3b0 : (t196 == 0) = true := beq_iff_eq.mpr c3
  have c3b1 : (t196 != 0) = false := bne_eq_false_iff_eq.mpr c3
  clear c3
  by_cases c4 : 3 ≤ 35184372088832
  ·rw [if_pos c4] at H
   have c4b0 := eq_true c4
   have c4b1 : decide (3 ≤ 35184372088832) = true := jN c4
   clear c4
   obtain ⟨y197, hy197⟩ : ∃ y_ : List Int, y_ = (List.replicate 3 0) := ⟨_, rfl⟩
   replace H : (spec_CountTries.l0 k l0 y197 0) = some (r1, r2) := by first | (rw [hy197]; with_reducible exact H) | (have H2_ := (Option.bind_some _ _).symm.trans H; rw [hy197]; with_reducible exact H2_) | (have H2_ := (Option.bind_some _ _).symm.trans H; with_reducible exact H2_) | with_reducible exact H | (rw [hy197]; exact H) | exact H
   have Ny197 := jA hy197
   clear hy197
   have H' := jA H
   clear H
   go_enter Try.func35, Try.ntmps35
   go_wp2_with (first | ((with_reducible refine jL (f := 55) rfl ?_); refine goesL_ (some 10) rfl rfl Try.func55 zr rfl #[.slice A0 l0.length c0, .int .i64 0] rfl zm ?_; (with_reducible refine (spec_l24Code.calls k _ _ l0 0 t196 _ ?side1 ?side2 A2.out).mono ?_); (case side1 => repeat (first | exact HR0.out | (with_reducible refine jP ?_ _) | (with_reducible refine jO ?_ _) | (with_reducible refine jU ?_))); (case side2 => exact HC0.out); rintro e w5 ⟨rfl, hb⟩; refine ⟨_, rfl, ?_⟩; have n0_ := jA (jM (zb0 HB) hb); clear HB; have HB := n0_; clear n0_; (try clear hb); (try clear hb2); (try clear hk); (try clear hi)) | ((with_reducible refine gate_dst (N := 14) rfl ?_); refine Kd.R_make (Kd.int .i64) _ 2 rfl (N := 14) rfl 40 _ _ rfl 3 rfl rfl Try.underlying40 (.int .i64 0) 8 info2 rfl (by decide) (by omega) 0 (ok := fun _ => True) (okp := fun _ => True) rfl (fun _ hk => hk) trivial (by omega) (by omega) (Below.refl _ _) (Nat.le_refl _) ?_; intro v198 w6 ho7 hb hg_ hnew_; clear hg_ hnew_; (first | rw [← Ny197.out] at ho7 | (simp only [Int.reduceToNat] at ho7; rw [← Ny197.out] at ho7)); have n0_ := jA (jZ ho7 (jT (zb0 HB))); have n1_ := jA (jM (zb0 HB) hb); clear HB; have HO199 := n0_; have HB := n1_; clear n0_ n1_; clear hb ho7))
   go_loopg [6] k (fun kq v6 w' => ∃ (x5_1 : List Int) (x6_1 : Int), v6 = .int .i64 x6_1 ∧ Aside0 (spec_CountTries.l0 kq l0 x5_1 x6_1 = some (r1, r2)) ∧ Aside0 (kq ≤ k) ∧ Aside0 (Kd.R (Kd.int .i64) 2 w' w.heap.size (fun _ => True) v198 x5_1) ∧ Aside0 (Below w.heap.size w w'))
   case atStart => exact ⟨(y197), (0), zz, H', ⟨Nat.le_refl _⟩, ⟨by (with_reducible repeat (first | apply jG | apply jF | apply jK)); exact HO199.out⟩, ⟨zb0 HB⟩⟩
   case round =>
    clear H'
    try clear p2
    try clear c3
    try clear c3b0
    try clear c3b1
    try clear c4
    try clear c4b0
    try clear c4b1
    try clear c5
    obtain ⟨x5_1, x6_1, rfl, HA, HK1, HO_5, HB⟩ := hrel
    cases gk with
    | zero => exact absurd HA.out (by simp [spec_CountTries.l0])
    | succ k1 =>
     have H := HA.out
     clear HA
     simp only [spec_CountTries.l0] at H
     by_cases c8 : x6_1 < 20
     ·rw [if_pos c8] at H
      have c8b0 : decide (x6_1 < 20) = true := jN c8
      clear c8
      replace H := jD.mp H
      obtain ⟨⟨t200, t201⟩, A90, H⟩ := H
      replace H : (if t201 = true then (if 0 ≤ (wrap64 ((t200.length : Int) - 1)) then (if (wrap64 ((t200.length : Int) - 1)) < (x5_1.length : Int) then (spec_CountTries.l0 k1 l0 (x5_1.set ((wrap64 ((t200.length : Int) - 1)) : Int).toNat (wrap64 ((rd x5_1 (wrap64 ((t200.length : Int) - 1))) + 1))) (wrap64 (x6_1 + 1))) else (none)) else (none)) else (spec_CountTries.l0 k1 l0 x5_1 (wrap64 (x6_1 + 1)))) = some (r1, r2) := H
      have A9 := jA A90
      clear A90
      by_cases c10 : t201 = true
      ·subst c10
       have H1 : (if 0 ≤ (wrap64 ((t200.length : Int) - 1)) then (if (wrap64 ((t200.length : Int) - 1)) < (x5_1.length : Int) then (spec_CountTries.l0 k1 l0 (x5_1.set ((wrap64 ((t200.length : Int) - 1)) : Int).toNat (wrap64 ((rd x5_1 (wrap64 ((t200.length : Int) - 1))) + 1))) (wrap64 (x6_1 + 1))) else (none)) else (none)) = some (r1, r2) := by rw [if_pos rfl] at H; exact H
       clear H
       have H := H1
       clear H1
       obtain ⟨ji11, hji11⟩ : ∃ j_ : Int, (wrap64 ((t200.length : Int) - 1)) = j_ := ⟨_, rfl⟩
       replace H : (if 0 ≤ (ji11) then (if (ji11) < (x5_1.length : Int) then (spec_CountTries.l0 k1 l0 (x5_1.set ((ji11) : Int).toNat (wrap64 ((rd x5_1 (ji11)) + 1))) (wrap64 (x6_1 + 1))) else (none)) else (none)) = some (r1, r2) := by first | (rw [hji11] at H; exact H) | (simp only [hji11] at H ⊢; exact H)
       (try rw [hji11] at A9)
       have hji11w : (IntKind.i64.wrap ((t200.length : Int) - 1)) = ji11 := (i64_w _).trans hji11
       by_cases c12 : 0 ≤ (ji11)
       ·rw [if_pos c12] at H
        have c12b0 : decide (0 ≤ (ji11)) = true := jN c12
        clear c12
        by_cases c13 : (ji11) < (x5_1.length : Int)
        ·rw [if_pos c13] at H
         have c13b0 : decide ((ji11) < (x5_1.length : Int)) = true := jN c13
         clear c13
         obtain ⟨y205, hy205⟩ : ∃ y_ : List Int, y_ = (x5_1.set ((ji11) : Int).toNat (wrap64 ((rd x5_1 (ji11)) + 1))) := ⟨_, rfl⟩
         replace H : (spec_CountTries.l0 k1 l0 y205 (wrap64 (x6_1 + 1))) = some (r1, r2) := by first | (rw [hy205]; with_reducible exact H) | (have H2_ := (Option.bind_some _ _).symm.trans H; rw [hy205]; with_reducible exact H2_) | (have H2_ := (Option.bind_some _ _).symm.trans H; with_reducible exact H2_) | with_reducible exact H | (rw [hy205]; exact H) | exact H
         have Ny205 := jA hy205
         clear hy205
         have H' := jA H
         clear H
         go_wp2_with (first | ((with_reducible refine jL (f := 48) rfl ?_); refine goesL_ (some 22) rfl rfl Try.func48 zr rfl #[.slice A0 l0.length c0, .int .i64 x6_1] rfl zm ?_; (with_reducible refine (spec_l24Of.calls k1 _ _ l0 x6_1 t200 true _ ?side1 ?side2 A9.out).mono ?_); (case side1 => exact zs HR0 HB); (case side2 => exact HC0.out); rintro e w15 ⟨v202, rfl, ho0, hb⟩; refine ⟨_, rfl, ?_⟩; have n0_ := jA (Kd.R_elder' (zo HO_5) (Kd.R_base ho0) hb); have n1_ := jA (jZ (Kd.R_new' ho0 (Kd.R_lt (zo HO_5))) (jT (zb0 HB))); have n2_ := jA (jM (zb0 HB) hb); clear HO_5; clear HB; have HO_5 := n0_; have HO203 := n1_; have HB := n2_; clear n0_ n1_ n2_; (try clear hb); (try clear hb2); (try clear hk); (try clear hi); (try clear ho0); obtain ⟨Ao16, co16, eo16⟩ := Kd.R_slice HO203.out; subst eo16; obtain ⟨Ao17, co17, eo17⟩ := Kd.R_slice HO_5.out; subst eo17; have p204 : 0 ≤ ((ji11) : Int) := jC za; have q204 : (ji11) < (x5_1.length : Int) := jC za; obtain ⟨ad204, e204, hx204_0⟩ := Kd.at_int (jH HO_5.out).2.2 (ji11) p204 q204; cases e204; replace p204 := eq_true p204; replace q204 := eq_true q204; have p14 : 0 ≤ ((ji11) : Int) := jC za; have q14 : ((ji11) : Int) < ((x5_1.length : Int) : Int) := jC za; obtain ⟨go14, co14, eo14, gb14, gl14, cl14, HG14⟩ := Kd.R_form HO_5.out (by omega); (first | cases eo14 | (injection eo14 with ea_ en_ ec_; (first | subst ea_ | (injection ea_ with ea_; subst ea_)); subst ec_; clear en_)); have GB14 := jA gb14; have GG14 := jA HG14; clear gb14 gl14 HG14; (first | simp only [add_plain] at hx204_0 | skip); obtain ⟨hx14_0, hf14_0⟩ := Kd.R_celln 0 HO_5.out ((ji11) : Int) p14 q14; replace p14 := eq_true p14; replace q14 := eq_true q14; have n_ := jA (Kd.R_mono (ok' := (fun k_ => some k_ ≠ (.slice Ao16 t200.length co16 : Value).ownBlock)) HO_5.out (fun k_ hk => hk.2)); clear HO_5; have HO_5 := n_; clear n_; obtain ⟨hy18_, hz18_⟩ := Kd.R_celln 0 HO_5.out ((ji11) : Int) (jC za) (jC za); have HP18 := Kd.R_putg HO_5.out ((ji11) : Int) (wrap64 ((rd x5_1 (ji11)) + 1))) | ((with_reducible refine gate_store (t := 2) (p := 33) rfl ?_); refine store_event (t := 2) (p := 33) (v := ?vo_w19) (w1 := (w15.setCell ⟨go14, ((ji11) : Int).toNat, none⟩ (.int .i64 (wrap64 ((rd x5_1 (ji11)) + 1))))) ?hg ?ho ?hn ?hr ?_; (case ho => rfl); (case hg => rfl); (case hn => rfl); (case hr => first | (go_simp; done) | (go_simp; rfl)); intro w19 hw; have hg : w15.grownBy w19 (some go14) := (by rw [hw]; exact HP18.2); have hp_ : Kd.R (Kd.int .i64) 2 w19 w.heap.size (fun k_ => some k_ ≠ (.slice Ao16 t200.length co16 : Value).ownBlock) (.slice (some ⟨go14, 0, none⟩) x5_1.length co17) y205 := (by rw [hw, Ny205.out]; exact HP18.1); clear HP18; have n0_ := jA (hp_); have n1_ := jA (Kd.R_after (v := (.slice (some ⟨go14, 0, none⟩) x5_1.length co17)) (v1 := (.slice (some ⟨go14, 0, none⟩) x5_1.length co17)) (ok := (fun _ => True)) (zo HO203) hg (.inl rfl)); have n2_ := jA ((by rw [hw]; exact ja (HB.out) GB14.out : Below w.heap.size w w19)); clear HO_5; clear HO203; clear HB; have HO_5 := n0_; have HO203 := n1_; have HB := n2_; clear n0_ n1_ n2_; clear hg hw hp_))
         go_roundg k1
         case measure => have := HK1.out; omega
         case rel => exact ⟨(y205), (wrap64 (x6_1 + 1)), zz, H', ⟨by have := HK1.out; omega⟩, ⟨by (with_reducible repeat (first | apply jG | apply jF | apply jK)); exact Kd.R_mono HO_5.out (fun _ hk => trivial)⟩, ⟨zb0 HB⟩⟩
        ·rw [if_neg c13] at H
         exact absurd H (by simp)
       ·rw [if_neg c12] at H
        exact absurd H (by simp)
      ·replace c10 := Bool.eq_false_iff.mpr c10
       subst c10
       have H1 : (spec_CountTries.l0 k1 l0 x5_1 (wrap64 (x6_1 + 1))) = some (r1, r2) := by rw [if_neg (show ¬ (false = true) by decide)] at H; exact H
       clear H
       have H := H1
       clear H1
       have H' := jA H
       clear H
       go_wp2_with (first | ((with_reducible refine jL (f := 48) rfl ?_); refine goesL_ (some 22) rfl rfl Try.func48 zr rfl #[.slice A0 l0.length c0, .int .i64 x6_1] rfl zm ?_; (with_reducible refine (spec_l24Of.calls k1 _ _ l0 x6_1 t200 false _ ?side1 ?side2 A9.out).mono ?_); (case side1 => exact zs HR0 HB); (case side2 => exact HC0.out); rintro e w20 ⟨v202, rfl, ho0, hb⟩; refine ⟨_, rfl, ?_⟩; have n0_ := jA (Kd.R_elder' (zo HO_5) (Kd.R_base ho0) hb); have n1_ := jA (jZ (Kd.R_new' ho0 (Kd.R_lt (zo HO_5))) (jT (zb0 HB))); have n2_ := jA (jM (zb0 HB) hb); clear HO_5; clear HB; have HO_5 := n0_; have HO203 := n1_; have HB := n2_; clear n0_ n1_ n2_; (try clear hb); (try clear hb2); (try clear hk); (try clear hi); (try clear ho0)))
       go_roundg k1
       case measure => have := HK1.out; omega
       case rel => exact ⟨(x5_1), (wrap64 (x6_1 + 1)), zz, H', ⟨by have := HK1.out; omega⟩, ⟨by (with_reducible repeat (first | apply jG | apply jF | apply jK)); exact Kd.R_mono HO_5.out (fun _ hk => trivial)⟩, ⟨zb0 HB⟩⟩
     ·rw [if_neg c8] at H
      have c8b0 : decide (x6_1 < 20) = false := jd c8
      clear c8
      simp only [jY, jc] at H
      obtain ⟨rfl, rfl⟩ := H
      go_wp2
      go_ret2
      exact ⟨_, by first | rfl | (simp [errW_none, errW_some] <;> rfl) | (simp [*, errW_none, errW_some] <;> rfl), by (with_reducible repeat (first | apply jG | apply jF | apply jK)); exact HO_5.out, zb0 HB⟩
  ·rw [if_neg c4] at H
   exact absurd H (by simp)
 ·rw [if_neg c3] at H
  have c3b0 : (t196 == 0) = false := beq_eq_false_iff_ne.mpr c3
  have c3b1 : (t196 != 0) = true := bne_iff_ne.mpr c3
  simp only [jY, jc] at H
  obtain ⟨rfl, rfl⟩ := H
  go_enter Try.func35, Try.ntmps35
  go_wp2_with (first | ((with_reducible refine jL (f := 55) rfl ?_); refine goesL_ (some 10) rfl rfl Try.func55 zr rfl #[.slice A0 l0.length c0, .int .i64 0] rfl zm ?_; (with_reducible refine (spec_l24Code.calls k _ _ l0 0 t196 _ ?side1 ?side2 A2.out).mono ?_); (case side1 => repeat (first | exact HR0.out | (with_reducible refine jP ?_ _) | (with_reducible refine jO ?_ _) | (with_reducible refine jU ?_))); (case side2 => exact HC0.out); rintro e w21 ⟨rfl, hb⟩; refine ⟨_, rfl, ?_⟩; have n0_ := jA (jM (zb0 HB) hb); clear HB; have HB := n0_; clear n0_; (try clear hb); (try clear hb2); (try clear hk); (try clear hi)))
  go_ret2
  exact ⟨_, by first | rfl | (simp [errW_none, errW_some] <;> rfl) | (simp [*, errW_none, errW_some] <;> rfl), by first | exact Kd.R_nil _ _ _ _ _ | exact Kd.N_nil _ _ _ _ _ | exact Kd.V_nil _ _ _ _ _ | exact Kd.Q_nil _ _ _ _ _ | exact Kd.S_nil _ _ _ _ _, zb0 HB⟩

/-! ### impl_CountTries: function 36 -/
mutual
def impl_CountTries.l0 : Nat → List (S36) → List Int → Int → Option (List Int × Int)
 | 0, _, _, _ => none
 | k + 1, x0, x4, x5 => if x5 < 20 then ((impl_triesOf.f k x0 x5).bind fun t210 => (impl_CountTries.l1 k x0 x4 x5 t210 (t210.length : Int) 0)) else (some (x4, 0))
def impl_CountTries.l1 : Nat → List (S36) → List Int → Int → List (S36) → Int → Int → Option (List Int × Int)
 | 0, _, _, _, _, _, _ => none
 | k + 1, x0, x4, x5, x18, x19, x20 => if x20 < x19 then (if 0 ≤ x20 then (if x20 < (x18.length : Int) then (if (rd_T36 x18 x20).f2 = true then (if x20 < (x4.length : Int) then (impl_CountTries.l1 k x0 (x4.set (x20 : Int).toNat (wrap64 ((rd x4 x20) + 1))) x5 x18 x19 (wrap64 (x20 + 1))) else (none)) else (impl_CountTries.l1 k x0 x4 x5 x18 x19 (wrap64 (x20 + 1)))) else (none)) else (none)) else (impl_CountTries.l0 k x0 x4 (wrap64 (x5 + 1)))
end
def impl_CountTries.f (k : Nat) (l0 : List (S36)) : Option (List Int × Int) := (impl_AreTries.f k l0).bind fun t206 => (if t206 = true then (if 3 ≤ 35184372088832 then (impl_CountTries.l0 k l0 (List.replicate 3 0) 0) else (none)) else (some (([] : List Int), 1)))
theorem impl_CountTries.mono_l : ∀ k, (∀ y0 y1 y2, LeO (impl_CountTries.l0 k y0 y1 y2) (impl_CountTries.l0 (k + 1) y0 y1 y2)) ∧ (∀ y0 y1 y2 y3 y4 y5, LeO (impl_CountTries.l1 k y0 y1 y2 y3 y4 y5) (impl_CountTries.l1 (k + 1) y0 y1 y2 y3 y4 y5))
 | 0 => ⟨fun _ _ _ r h => by simp [impl_CountTries.l0] at h, fun _ _ _ _ _ _ r h => by simp [impl_CountTries.l1] at h⟩
 | k + 1 => by
  obtain ⟨ih0, ih1⟩ := impl_CountTries.mono_l k
  refine ⟨?_, ?_⟩
  ·intro y0 y1 y2
   unfold impl_CountTries.l0
   repeat' first
   | (with_reducible exact ih0 _ _ _)
   | (with_reducible exact ih1 _ _ _ _ _ _)
   | (with_reducible exact impl_AreTries.mono _ _)
   | (with_reducible exact impl_triesOf.mono _ _ _)
   | (with_reducible exact LeO.refl _)
   | (with_reducible exact LeO.none _)
   | (with_reducible refine LeO.ite ?_ ?_)
   | (with_reducible refine LeO.bind ?_ (fun _ => ?_))
   | exact ih0 _ _ _
   | exact ih1 _ _ _ _ _ _
   | exact impl_AreTries.mono _ _
   | exact impl_triesOf.mono _ _ _
   | exact LeO.none _
   | refine LeO.ite ?_ ?_
   | refine LeO.bind ?_ (fun _ => ?_)
  ·intro y0 y1 y2 y3 y4 y5
   unfold impl_CountTries.l1
   repeat' first
   | (with_reducible exact ih0 _ _ _)
   | (with_reducible exact ih1 _ _ _ _ _ _)
   | (with_reducible exact impl_AreTries.mono _ _)
   | (with_reducible exact impl_triesOf.mono _ _ _)
   | (with_reducible exact LeO.refl _)
   | (with_reducible exact LeO.none _)
   | (with_reducible refine LeO.ite ?_ ?_)
   | (with_reducible refine LeO.bind ?_ (fun _ => ?_))
   | exact ih0 _ _ _
   | exact ih1 _ _ _ _ _ _
   | exact impl_AreTries.mono _ _
   | exact impl_triesOf.mono _ _ _
   | exact LeO.none _
   | refine LeO.ite ?_ ?_
   | refine LeO.bind ?_ (fun _ => ?_)
theorem impl_CountTries.mono : ∀ a0 k, LeO (impl_CountTries.f k a0) (impl_CountTries.f (k + 1) a0) := by
 intro a0 k
 obtain ⟨ih0, ih1⟩ := impl_CountTries.mono_l k
 unfold impl_CountTries.f
 repeat' first
   | (with_reducible exact ih0 _ _ _)
   | (with_reducible exact ih1 _ _ _ _ _ _)
   | (with_reducible exact impl_AreTries.mono _ _)
   | (with_reducible exact impl_triesOf.mono _ _ _)
   | (with_reducible exact LeO.refl _)
   | (with_reducible exact LeO.none _)
   | (with_reducible refine LeO.ite ?_ ?_)
   | (with_reducible refine LeO.bind ?_ (fun _ => ?_))
   | exact ih0 _ _ _
   | exact ih1 _ _ _ _ _ _
   | exact impl_AreTries.mono _ _
   | exact impl_triesOf.mono _ _ _
   | exact LeO.none _
   | refine LeO.ite ?_ ?_
   | refine LeO.bind ?_ (fun _ => ?_)
set_option maxHeartbeats 8000000 in
set_option maxRecDepth 100000 in
theorem impl_CountTries.calls (k : Nat) (A0 : Option Addr) (c0 : Nat) (l0 : List (S36)) (r1 : List Int) (r2 : Int) (w : World) (hr0 : Kd.C k36 w A0 l0.length l0) (hc0 : l0.length ≤ c0) (h : impl_CountTries.f k l0 = some (r1, r2)) :
  Calls Try.prog 36 #[.slice A0 l0.length c0] w fun e w' => ∃ v0_ : Value, e = .returned (.tuple #[v0_, .int .i64 r2]) ∧ Kd.R (Kd.int .i64) 2 w' w.heap.size (fun _ => True) v0_ r1 ∧ Below w.heap.size w w' := by
 have hu36 := Try.underlying36
 have HR0 := jA hr0
 have HC0 := jA hc0
 clear hr0 hc0
 have HB := jA (Below.refl w.heap.size w)
 have H : ((impl_AreTries.f k l0).bind fun t206 => (if t206 = true then (if 3 ≤ 35184372088832 then (impl_CountTries.l0 k l0 (List.replicate 3 0) 0) else (none)) else (some (([] : List Int), 1)))) = some (r1, r2) := h
 clear h
 replace H := jD.mp H
 obtain ⟨t206, A20, H⟩ := H
 replace H : (if t206 = true then (if 3 ≤ 35184372088832 then (impl_CountTries.l0 k l0 (List.replicate 3 0) 0) else (none)) else (some (([] : List Int), 1))) = some (r1, r2) := H
 have A2 := jA A20
 clear A20
 by_cases c3 : t206 = true
 ·subst c3
  have H1 : (if 3 ≤ 35184372088832 then (impl_CountTries.l0 k l0 (List.replicate 3 0) 0) else (none)) = some (r1, r2) := by rw [if_pos rfl] at H; exact H
  clear H
  have H := H1
  clear H1
  by_cases c4 : 3 ≤ 35184372088832
  ·rw [if_pos c4] at H
   have c4b0 := eq_true c4
   have c4b1 : decide (3 ≤ 35184372088832) = true := jN c4
   clear c4
   obtain ⟨y207, hy207⟩ : ∃ y_ : List Int, y_ = (List.replicate 3 0) := ⟨_, rfl⟩
   replace H : (impl_CountTries.l0 k l0 y207 0) = some (r1, r2) := by first | (rw [hy207]; with_reducible exact H) | (have H2_ := (Option.bind_some _ _).symm.trans H; rw [hy207]; with_reducible exact H2_) | (have H2_ := (Option.bind_some _ _).symm.trans H; with_reducible exact H2_) | with_reducible exact H | (rw [hy207]; exact H) | exact H
   have Ny207 := jA hy207
   clear hy207
   have H' := jA H
   clear H
   go_enter Try.func36, Try.ntmps36
   go_wp2_with (first | ((with_reducible refine jL (f := 16) rfl ?_); refine goesL_ (some 9) rfl rfl Try.func16 zr rfl #[.slice A0 l0.length c0] rfl zm ?_; (with_reducible refine (impl_AreTries.calls k _ _ l0 true _ ?side1 ?side2 A2.out).mono ?_); (case side1 => repeat (first | exact HR0.out | (with_reducible refine jP ?_ _) | (with_reducible refine jO ?_ _) | (with_reducible refine jU ?_))); (case side2 => exact HC0.out); rintro e w5 ⟨rfl, hb⟩; refine ⟨_, rfl, ?_⟩; have n0_ := jA (jM (zb0 HB) hb); clear HB; have HB := n0_; clear n0_; (try clear hb); (try clear hb2); (try clear hk); (try clear hi)) | ((with_reducible refine gate_dst (N := 11) rfl ?_); refine Kd.R_make (Kd.int .i64) _ 2 rfl (N := 11) rfl 40 _ _ rfl 3 rfl rfl Try.underlying40 (.int .i64 0) 8 info2 rfl (by decide) (by omega) 0 (ok := fun _ => True) (okp := fun _ => True) rfl (fun _ hk => hk) trivial (by omega) (by omega) (Below.refl _ _) (Nat.le_refl _) ?_; intro v208 w6 ho7 hb hg_ hnew_; clear hg_ hnew_; (first | rw [← Ny207.out] at ho7 | (simp only [Int.reduceToNat] at ho7; rw [← Ny207.out] at ho7)); have n0_ := jA (jZ ho7 (jT (zb0 HB))); have n1_ := jA (jM (zb0 HB) hb); clear HB; have HO209 := n0_; have HB := n1_; clear n0_ n1_; clear hb ho7))
   go_loopg [5] k (fun kq v5 w' => ∃ (x4_1 : List Int) (x5_1 : Int), v5 = .int .i64 x5_1 ∧ Aside0 (impl_CountTries.l0 kq l0 x4_1 x5_1 = some (r1, r2)) ∧ Aside0 (kq ≤ k) ∧ Aside0 (Kd.R (Kd.int .i64) 2 w' w.heap.size (fun _ => True) v208 x4_1) ∧ Aside0 (Below w.heap.size w w'))
   case atStart => exact ⟨(y207), (0), zz, H', ⟨Nat.le_refl _⟩, ⟨by (with_reducible repeat (first | apply jG | apply jF | apply jK)); exact HO209.out⟩, ⟨zb0 HB⟩⟩
   case round =>
    clear H'
    try clear c1
    try clear p2
    try clear c3
    try clear c4
    try clear c4b0
    try clear c4b1
    obtain ⟨x4_1, x5_1, rfl, HA, HK1, HO_4, HB⟩ := hrel
    cases gk with
    | zero => exact absurd HA.out (by simp [impl_CountTries.l0])
    | succ k1 =>
     have H := HA.out
     clear HA
     simp only [impl_CountTries.l0] at H
     by_cases c8 : x5_1 < 20
     ·rw [if_pos c8] at H
      have c8b0 : decide (x5_1 < 20) = true := jN c8
      clear c8
      replace H := jD.mp H
      obtain ⟨t210, A90, H⟩ := H
      replace H : (impl_CountTries.l1 k1 l0 x4_1 x5_1 t210 (t210.length : Int) 0) = some (r1, r2) := H
      have A9 := jA A90
      clear A90
      have H' := jA H
      clear H
      go_wp2_with (first | ((with_reducible refine jL (f := 57) rfl ?_); refine goesL_ (some 18) rfl rfl Try.func57 zr rfl #[.slice A0 l0.length c0, .int .i64 x5_1] rfl zm ?_; (with_reducible refine (impl_triesOf.calls k1 _ _ l0 x5_1 t210 _ ?side1 ?side2 A9.out).mono ?_); (case side1 => exact zs HR0 HB); (case side2 => exact HC0.out); rintro e w10 ⟨v211, rfl, ho0, hb⟩; refine ⟨_, rfl, ?_⟩; have n0_ := jA (jX (zo HO_4) hb); have n1_ := jA (jZ ho0 (jT (zb0 HB))); have n2_ := jA (jM (zb0 HB) hb); clear HO_4; clear HB; have HO_4 := n0_; have HO212 := n1_; have HB := n2_; clear n0_ n1_ n2_; (try clear hb); (try clear hb2); (try clear hk); (try clear hi); (try clear ho0); obtain ⟨Ao11, co11, eo11⟩ := Kd.R_slice HO212.out; subst eo11))
      go_loopg [20] k1 (fun kq v20 w' => ∃ (x4_2 : List Int) (x20_2 : Int), v20 = .int .i64 x20_2 ∧ Aside0 (impl_CountTries.l1 kq l0 x4_2 x5_1 t210 (t210.length : Int) x20_2 = some (r1, r2)) ∧ Aside0 (kq ≤ k1) ∧ Aside0 (Kd.R (Kd.int .i64) 2 w' w.heap.size (fun _ => True) v208 x4_2) ∧ Aside0 (Kd.R k36 36 w' w.heap.size (fun _ => True) (.slice Ao11 t210.length co11) t210) ∧ Aside0 (Below w.heap.size w w'))
      case atStart => exact ⟨(x4_1), (0), zz, H', ⟨Nat.le_refl _⟩, ⟨by (with_reducible repeat (first | apply jG | apply jF | apply jK)); exact HO_4.out⟩, ⟨by (with_reducible repeat (first | apply jG | apply jF | apply jK)); exact HO212.out⟩, ⟨zb0 HB⟩⟩
      case round =>
       clear H'
       try clear c1
       try clear p2
       try clear c3
       try clear c4
       try clear c4b0
       try clear c4b1
       try clear c5
       try clear c8
       try clear c8b0
       try clear p2
       obtain ⟨x4_2, x20_2, rfl, HA, HK2, HO_4, HO_18, HB⟩ := hrel
       cases gk with
       | zero => exact absurd HA.out (by simp [impl_CountTries.l1])
       | succ k2 =>
        have H := HA.out
        clear HA
        simp only [impl_CountTries.l1] at H
        by_cases c12 : x20_2 < (t210.length : Int)
        ·rw [if_pos c12] at H
         have c12b0 : decide (x20_2 < (t210.length : Int)) = true := jN c12
         clear c12
         by_cases c13 : 0 ≤ x20_2
         ·rw [if_pos c13] at H
          have c13b0 : decide (0 ≤ x20_2) = true := jN c13
          clear c13
          by_cases c14 : x20_2 < (t210.length : Int)
          ·rw [if_pos c14] at H
           have c14b0 : decide (x20_2 < (t210.length : Int)) = true := jN c14
           clear c14
           obtain ⟨bq15, hbq15⟩ : ∃ b_ : Bool, b_ = ((rd_T36 t210 x20_2).f2) := ⟨_, rfl⟩
           replace H : (if bq15 = true then (if x20_2 < (x4_2.length : Int) then (impl_CountTries.l1 k2 l0 (x4_2.set (x20_2 : Int).toNat (wrap64 ((rd x4_2 x20_2) + 1))) x5_1 t210 (t210.length : Int) (wrap64 (x20_2 + 1))) else (none)) else (impl_CountTries.l1 k2 l0 x4_2 x5_1 t210 (t210.length : Int) (wrap64 (x20_2 + 1)))) = some (r1, r2) := by rw [← hbq15] at H; exact H
           have Nbq15 := jA hbq15
           clear hbq15
           by_cases c16 : bq15 = true
           ·subst c16
            have H1 : (if x20_2 < (x4_2.length : Int) then (impl_CountTries.l1 k2 l0 (x4_2.set (x20_2 : Int).toNat (wrap64 ((rd x4_2 x20_2) + 1))) x5_1 t210 (t210.length : Int) (wrap64 (x20_2 + 1))) else (none)) = some (r1, r2) := by rw [if_pos rfl] at H; exact H
            clear H
            have H := H1
            clear H1
            by_cases c17 : x20_2 < (x4_2.length : Int)
            ·rw [if_pos c17] at H
             have c17b0 : decide (x20_2 < (x4_2.length : Int)) = true := jN c17
             clear c17
             obtain ⟨y216, hy216⟩ : ∃ y_ : List Int, y_ = (x4_2.set (x20_2 : Int).toNat (wrap64 ((rd x4_2 x20_2) + 1))) := ⟨_, rfl⟩
             replace H : (impl_CountTries.l1 k2 l0 y216 x5_1 t210 (t210.length : Int) (wrap64 (x20_2 + 1))) = some (r1, r2) := by first | (rw [hy216]; with_reducible exact H) | (have H2_ := (Option.bind_some _ _).symm.trans H; rw [hy216]; with_reducible exact H2_) | (have H2_ := (Option.bind_some _ _).symm.trans H; with_reducible exact H2_) | with_reducible exact H | (rw [hy216]; exact H) | exact H
             have Ny216 := jA hy216
             clear hy216
             have H' := jA H
             clear H
             have p213 : 0 ≤ (x20_2 : Int) := jC za
             have q213 : x20_2 < (t210.length : Int) := jC za
             obtain ⟨ad213, e213, hx213_0, hx213_1, hx213_2⟩ := at_T36 (jH HO_18.out).2.2 x20_2 p213 q213
             (try rw [← Nbq15.out] at hx213_2)
             cases e213
             replace p213 := eq_true p213
             replace q213 := eq_true q213
             go_wp2_with (first | ((with_reducible refine gate_dst (N := 7) rfl ?_); refine box_event ?hg (N := 7) ?hd (cs := #[.int .i64 0, .int .i64 0, .bool false]) (t := 36) ?hr ?_; (case hd => rfl); (case hg => rfl); (case hr => first | (go_simp; done) | (go_simp; rfl)); intro gb214 hg w19 hbox hb; have n0_ := jA (jX (zo HO_4) hb); have n1_ := jA (jX (Kd.R_elderB (zo HO_18) gb214 (Nat.le_of_eq hg.symm)) hb); have n2_ := jA (jM (zb0 HB) hb); have n3_ := jA (hbox); have n4_ := jA ((by rw [hg]; exact (jT (zb0 HB)) : w.heap.size ≤ gb214)); have n5_ := jA ((by rw [hg]; exact (jT (zb0 HB)) : w.heap.size ≤ gb214)); clear HO_4; clear HO_18; clear HB; have HO_4 := n0_; have HO_18 := n1_; have HB := n2_; have BK214 := n3_; have GW214 := n4_; have GE214 := n5_; clear n0_ n1_ n2_ n3_ n4_ n5_; clear hb hbox hg; have hcz20_0 : w19.cell? ⟨gb214, 0, none⟩ = some (.int .i64 0) := (jE BK214.out 0).trans rfl; have hcz20_1 : w19.cell? ⟨gb214, 1, none⟩ = some (.int .i64 0) := (jE BK214.out 1).trans rfl; have hcz20_2 : w19.cell? ⟨gb214, 2, none⟩ = some (.bool false) := (jE BK214.out 2).trans rfl; have hfz20_0 := je BK214.out 0; have hfz20_1 := je BK214.out 1; have hfz20_2 := je BK214.out 2) | ((with_reducible refine gate_store (t := 36) (p := 7) rfl ?_); refine store_event (t := 36) (p := 7) (v := ?vo_w21) (w1 := (((w19.setCell ⟨gb214, 0, none⟩ (.int .i64 ((rd_T36 t210 x20_2).f0))).setCell ⟨gb214, 1, none⟩ (.int .i64 ((rd_T36 t210 x20_2).f1))).setCell ⟨gb214, 2, none⟩ (.bool true))) ?hg ?ho ?hn ?hr ?_; (case ho => rfl); (case hg => rfl); (case hn => rfl); (case hr => first | (go_simp; done) | (go_simp; rfl)); intro w21 hw; have n0_ : Aside0 (Kd.R (Kd.int .i64) 2 w21 w.heap.size (fun _ => True) v208 x4_2) := ⟨(by rw [hw]; exact (by (with_reducible repeat (first | apply jG | apply jF | apply jK)); exact Kd.R_mono (Kd.R_far (p := ⟨gb214, 2, none⟩) (Kd.R_far (p := ⟨gb214, 1, none⟩) (Kd.R_far (p := ⟨gb214, 0, none⟩) (Kd.R_types HO_4.out BK214.out (by decide)) (fun _ hk => hk.2) (.int .i64 ((rd_T36 t210 x20_2).f0))) (fun _ hk => hk.2) (.int .i64 ((rd_T36 t210 x20_2).f1))) (fun _ hk => hk.2) (.bool true)) (fun _ hk => trivial)))⟩; have n1_ : Aside0 (Kd.R k36 36 w21 w.heap.size (fun k_ => k_ ≠ gb214) (.slice (some ad213) t210.length co11) t210) := ⟨(by rw [hw]; exact (by (with_reducible repeat (first | apply jG | apply jF | apply jK)); exact Kd.R_mono (Kd.R_far (p := ⟨gb214, 2, none⟩) (Kd.R_far (p := ⟨gb214, 1, none⟩) (Kd.R_far (p := ⟨gb214, 0, none⟩) (Kd.R_mono HO_18.out (fun k_ hk => (⟨hk, hk.2⟩ : _ ∧ k_ ≠ gb214))) (fun _ hk => hk.2) (.int .i64 ((rd_T36 t210 x20_2).f0))) (fun _ hk => hk.2) (.int .i64 ((rd_T36 t210 x20_2).f1))) (fun _ hk => hk.2) (.bool true)) (fun _ hk => hk.1.2)))⟩; have n2_ : Aside0 (w21.heap[gb214]? = some (.cells #[.int .i64 ((rd_T36 t210 x20_2).f0), .int .i64 ((rd_T36 t210 x20_2).f1), .bool true] 36 (0, 0))) := ⟨(by rw [hw]; exact (by (with_reducible repeat (first | refine blk_drewN ?_ _ | refine jb ?_ | refine blk_alloc ?_ _)); refine blk_put (cs := #[.int .i64 ((rd_T36 t210 x20_2).f0), .int .i64 ((rd_T36 t210 x20_2).f1), .bool false]) ?_ 2 _ rfl; (with_reducible repeat (first | refine blk_drewN ?_ _ | refine jb ?_ | refine blk_alloc ?_ _)); refine blk_put (cs := #[.int .i64 ((rd_T36 t210 x20_2).f0), .int .i64 0, .bool false]) ?_ 1 _ rfl; (with_reducible repeat (first | refine blk_drewN ?_ _ | refine jb ?_ | refine blk_alloc ?_ _)); refine blk_put (cs := #[.int .i64 0, .int .i64 0, .bool false]) ?_ 0 _ rfl; (with_reducible repeat (first | refine blk_drewN ?_ _ | refine jb ?_ | refine blk_alloc ?_ _)); exact BK214.out))⟩; have n3_ : Aside0 (Below w.heap.size w w21) := ⟨(by rw [hw]; exact (zb1 HB GE214))⟩; clear hw; clear HO_4; clear HO_18; clear BK214; clear HB; have HO_4 := n0_; have HO_18 := n1_; have BK214 := n2_; have HB := n3_; clear n0_ n1_ n2_ n3_; have hcz22_0 : w21.cell? ⟨gb214, 0, none⟩ = some (.int .i64 ((rd_T36 t210 x20_2).f0)) := (jE BK214.out 0).trans rfl; have hcz22_1 : w21.cell? ⟨gb214, 1, none⟩ = some (.int .i64 ((rd_T36 t210 x20_2).f1)) := (jE BK214.out 1).trans rfl; have hcz22_2 : w21.cell? ⟨gb214, 2, none⟩ = some (.bool true) := (jE BK214.out 2).trans rfl; have hfz22_0 := je BK214.out 0; have hfz22_1 := je BK214.out 1; have hfz22_2 := je BK214.out 2; obtain ⟨Ao23, co23, eo23⟩ := Kd.R_slice HO_4.out; subst eo23; have p215 : 0 ≤ (x20_2 : Int) := jC za; have q215 : x20_2 < (x4_2.length : Int) := jC za; obtain ⟨ad215, e215, hx215_0⟩ := Kd.at_int (jH HO_4.out).2.2 x20_2 p215 q215; cases e215; replace p215 := eq_true p215; replace q215 := eq_true q215; have p18 : 0 ≤ (x20_2 : Int) := jC za; have q18 : (x20_2 : Int) < ((x4_2.length : Int) : Int) := jC za; obtain ⟨go18, co18, eo18, gb18, gl18, cl18, HG18⟩ := Kd.R_form HO_4.out (by omega); (first | cases eo18 | (injection eo18 with ea_ en_ ec_; (first | subst ea_ | (injection ea_ with ea_; subst ea_)); subst ec_; clear en_)); have GB18 := jA gb18; have GG18 := jA HG18; clear gb18 gl18 HG18; (first | simp only [add_plain] at hx215_0 | skip); obtain ⟨hx18_0, hf18_0⟩ := Kd.R_celln 0 HO_4.out (x20_2 : Int) p18 q18; replace p18 := eq_true p18; replace q18 := eq_true q18; obtain ⟨hy24_, hz24_⟩ := Kd.R_celln 0 HO_4.out (x20_2 : Int) (jC za) (jC za); have HP24 := Kd.R_putg HO_4.out (x20_2 : Int) (wrap64 ((rd x4_2 x20_2) + 1))) | ((with_reducible refine gate_store (t := 2) (p := 32) rfl ?_); refine store_event (t := 2) (p := 32) (v := ?vo_w25) (w1 := (w21.setCell ⟨go18, (x20_2 : Int).toNat, none⟩ (.int .i64 (wrap64 ((rd x4_2 x20_2) + 1))))) ?hg ?ho ?hn ?hr ?_; (case ho => rfl); (case hg => rfl); (case hn => rfl); (case hr => first | (go_simp; done) | (go_simp; rfl)); intro w25 hw; have hg : w21.grownBy w25 (some go18) := (by rw [hw]; exact HP24.2); have hp_ : Kd.R (Kd.int .i64) 2 w25 w.heap.size (fun _ => True) (.slice (some ⟨go18, 0, none⟩) x4_2.length co23) y216 := (by rw [hw, Ny216.out]; exact HP24.1); clear HP24; have n0_ := jA (hp_); have n1_ := jA (Kd.R_over' (v := (.slice (some ⟨go18, 0, none⟩) x4_2.length co23)) (zo HO_18) (Kd.R_typed HO_4.out) (by decide) hg); have n2_ := jA (blk_grown (g := gb214) (o := .cells #[.int .i64 ((rd_T36 t210 x20_2).f0), .int .i64 ((rd_T36 t210 x20_2).f1), .bool true] 36 (0, 0)) (zk BK214) hg (Kd.R_ne HO_4.out BK214.out (by decide))); have n3_ := jA ((by rw [hw]; exact ja (HB.out) GB18.out : Below w.heap.size w w25)); clear HO_4; clear HO_18; clear BK214; clear HB; have HO_4 := n0_; have HO_18 := n1_; have BK214 := n2_; have HB := n3_; clear n0_ n1_ n2_ n3_; clear hg hw hp_))
             go_roundg k2
             case measure => have := HK1.out; have := HK2.out; omega
             case rel => exact ⟨(y216), (wrap64 (x20_2 + 1)), zz, H', ⟨by have := HK1.out; have := HK2.out; omega⟩, ⟨by (with_reducible repeat (first | apply jG | apply jF | apply jK)); exact HO_4.out⟩, ⟨by (with_reducible repeat (first | apply jG | apply jF | apply jK)); exact Kd.R_mono HO_18.out (fun _ hk => trivial)⟩, ⟨zb1 HB GE214⟩⟩
            ·rw [if_neg c17] at H
             exact absurd H (by simp)
           ·replace c16 := Bool.eq_false_iff.mpr c16
            subst c16
            have H1 : (impl_CountTries.l1 k2 l0 x4_2 x5_1 t210 (t210.length : Int) (wrap64 (x20_2 + 1))) = some (r1, r2) := by rw [if_neg (show ¬ (false = true) by decide)] at H; exact H
            clear H
            have H := H1
            clear H1
            have H' := jA H
            clear H
            have p213 : 0 ≤ (x20_2 : Int) := jC za
            have q213 : x20_2 < (t210.length : Int) := jC za
            obtain ⟨ad213, e213, hx213_0, hx213_1, hx213_2⟩ := at_T36 (jH HO_18.out).2.2 x20_2 p213 q213
            (try rw [← Nbq15.out] at hx213_2)
            cases e213
            replace p213 := eq_true p213
            replace q213 := eq_true q213
            go_wp2_with (first | ((with_reducible refine gate_dst (N := 7) rfl ?_); refine box_event ?hg (N := 7) ?hd (cs := #[.int .i64 0, .int .i64 0, .bool false]) (t := 36) ?hr ?_; (case hd => rfl); (case hg => rfl); (case hr => first | (go_simp; done) | (go_simp; rfl)); intro gb214 hg w26 hbox hb; have n0_ := jA (jX (zo HO_4) hb); have n1_ := jA (jX (Kd.R_elderB (zo HO_18) gb214 (Nat.le_of_eq hg.symm)) hb); have n2_ := jA (jM (zb0 HB) hb); have n3_ := jA (hbox); have n4_ := jA ((by rw [hg]; exact (jT (zb0 HB)) : w.heap.size ≤ gb214)); have n5_ := jA ((by rw [hg]; exact (jT (zb0 HB)) : w.heap.size ≤ gb214)); clear HO_4; clear HO_18; clear HB; have HO_4 := n0_; have HO_18 := n1_; have HB := n2_; have BK214 := n3_; have GW214 := n4_; have GE214 := n5_; clear n0_ n1_ n2_ n3_ n4_ n5_; clear hb hbox hg; have hcz27_0 : w26.cell? ⟨gb214, 0, none⟩ = some (.int .i64 0) := (jE BK214.out 0).trans rfl; have hcz27_1 : w26.cell? ⟨gb214, 1, none⟩ = some (.int .i64 0) := (jE BK214.out 1).trans rfl; have hcz27_2 : w26.cell? ⟨gb214, 2, none⟩ = some (.bool false) := (jE BK214.out 2).trans rfl; have hfz27_0 := je BK214.out 0; have hfz27_1 := je BK214.out 1; have hfz27_2 := je BK214.out 2))
            go_roundg k2
            case measure => have := HK1.out; have := HK2.out; omega
            case rel => exact ⟨(x4_2), (wrap64 (x20_2 + 1)), zz, H', ⟨by have := HK1.out; have := HK2.out; omega⟩, ⟨by (with_reducible repeat (first | apply jG | apply jF | apply jK)); exact Kd.R_mono (Kd.R_far (p := ⟨gb214, 2, none⟩) (Kd.R_far (p := ⟨gb214, 1, none⟩) (Kd.R_far (p := ⟨gb214, 0, none⟩) (Kd.R_types HO_4.out BK214.out (by decide)) (fun _ hk => hk.2) (.int .i64 ((rd_T36 t210 x20_2).f0))) (fun _ hk => hk.2) (.int .i64 ((rd_T36 t210 x20_2).f1))) (fun _ hk => hk.2) (.bool false)) (fun _ hk => trivial)⟩, ⟨by (with_reducible repeat (first | apply jG | apply jF | apply jK)); exact Kd.R_mono (Kd.R_far (p := ⟨gb214, 2, none⟩) (Kd.R_far (p := ⟨gb214, 1, none⟩) (Kd.R_far (p := ⟨gb214, 0, none⟩) (Kd.R_mono HO_18.out (fun k_ hk => (⟨hk, hk.2⟩ : _ ∧ k_ ≠ gb214))) (fun _ hk => hk.2) (.int .i64 ((rd_T36 t210 x20_2).f0))) (fun _ hk => hk.2) (.int .i64 ((rd_T36 t210 x20_2).f1))) (fun _ hk => hk.2) (.bool false)) (fun _ hk => trivial)⟩, ⟨zb1 HB GE214⟩⟩
          ·rw [if_neg c14] at H
           exact absurd H (by simp)
         ·rw [if_neg c13] at H
          exact absurd H (by simp)
        ·rw [if_neg c12] at H
         have c12b0 : decide (x20_2 < (t210.length : Int)) = false := jd c12
         clear c12
         have H' := jA H
         clear H
         go_wp2
         go_roundg k2
         case measure => have := HK1.out; have := HK2.out; omega
         case rel => exact ⟨(x4_2), (wrap64 (x5_1 + 1)), zz, H', ⟨by have := HK1.out; have := HK2.out; omega⟩, ⟨by (with_reducible repeat (first | apply jG | apply jF | apply jK)); exact HO_4.out⟩, ⟨zb0 HB⟩⟩
     ·rw [if_neg c8] at H
      have c8b0 : decide (x5_1 < 20) = false := jd c8
      clear c8
      simp only [jY, jc] at H
      obtain ⟨rfl, rfl⟩ := H
      go_wp2
      go_ret2
      exact ⟨_, by first | rfl | (simp [errW_none, errW_some] <;> rfl) | (simp [*, errW_none, errW_some] <;> rfl), by (with_reducible repeat (first | apply jG | apply jF | apply jK)); exact HO_4.out, zb0 HB⟩
  ·rw [if_neg c4] at H
   exact absurd H (by simp)
 ·replace c3 := Bool.eq_false_iff.mpr c3
  subst c3
  have H1 : (some (([] : List Int), 1)) = some (r1, r2) := by rw [if_neg (show ¬ (false = true) by decide)] at H; exact H
  clear H
  have H := H1
  clear H1
  simp only [jY, jc] at H
  obtain ⟨rfl, rfl⟩ := H
  go_enter Try.func36, Try.ntmps36
  go_wp2_with (first | ((with_reducible refine jL (f := 16) rfl ?_); refine goesL_ (some 9) rfl rfl Try.func16 zr rfl #[.slice A0 l0.length c0] rfl zm ?_; (with_reducible refine (impl_AreTries.calls k _ _ l0 false _ ?side1 ?side2 A2.out).mono ?_); (case side1 => repeat (first | exact HR0.out | (with_reducible refine jP ?_ _) | (with_reducible refine jO ?_ _) | (with_reducible refine jU ?_))); (case side2 => exact HC0.out); rintro e w28 ⟨rfl, hb⟩; refine ⟨_, rfl, ?_⟩; have n0_ := jA (jM (zb0 HB) hb); clear HB; have HB := n0_; clear n0_; (try clear hb); (try clear hb2); (try clear hk); (try clear hi)))
  go_ret2
  exact ⟨_, by first | rfl | (simp [errW_none, errW_some] <;> rfl) | (simp [*, errW_none, errW_some] <;> rfl), by first | exact Kd.R_nil _ _ _ _ _ | exact Kd.N_nil _ _ _ _ _ | exact Kd.V_nil _ _ _ _ _ | exact Kd.Q_nil _ _ _ _ _ | exact Kd.S_nil _ _ _ _ _, zb0 HB⟩

/-! ### spec_CuesIn: function 37 -/
mutual
def spec_CuesIn.j0 : Nat → List (S36) → Int → Int → Bool → Option (List Int × Int)
 | 0, _, _, _, _ => none
 | k + 1, x0, x1, x6, x17 => if x17 = true then (spec_CuesIn.j1 k x0 x1 2) else (spec_CuesIn.j1 k x0 x1 x6)
def spec_CuesIn.j1 : Nat → List (S36) → Int → Int → Option (List Int × Int)
 | 0, _, _, _ => none
 | k + 1, x0, x1, x6 => if x6 = 0 then (spec_CuesIn.l0 k x0 x1 (([] : List Int)) 0) else (some (([] : List Int), x6))
def spec_CuesIn.l0 : Nat → List (S36) → Int → List Int → Int → Option (List Int × Int)
 | 0, _, _, _, _ => none
 | k + 1, x0, x1, x7, x8 => if x8 < 20 then ((spec_l24State.f k x0 x8).bind fun t222 => (if t222 = x1 then (if x7.length < 17592186044416 then (spec_CuesIn.l0 k x0 x1 (x7 ++ [x8]) (wrap64 (x8 + 1))) else (none)) else (spec_CuesIn.l0 k x0 x1 x7 (wrap64 (x8 + 1))))) else (some (x7, 0))
end
def spec_CuesIn.f (k : Nat) (l0 : List (S36)) (a1 : Int) : Option (List Int × Int) := (spec_l24Code.f k l0 0).bind fun t217 => (if t217 = 0 then ((spec_l01In.f a1 0 3).bind fun t218 => (spec_CuesIn.j0 k l0 a1 t217 (!t218))) else (spec_CuesIn.j0 k l0 a1 t217 false))
theorem spec_CuesIn.mono_l : ∀ k, (∀ y0 y1 y2 y3, LeO (spec_CuesIn.j0 k y0 y1 y2 y3) (spec_CuesIn.j0 (k + 1) y0 y1 y2 y3)) ∧ (∀ y0 y1 y2, LeO (spec_CuesIn.j1 k y0 y1 y2) (spec_CuesIn.j1 (k + 1) y0 y1 y2)) ∧ (∀ y0 y1 y2 y3, LeO (spec_CuesIn.l0 k y0 y1 y2 y3) (spec_CuesIn.l0 (k + 1) y0 y1 y2 y3))
 | 0 => ⟨fun _ _ _ _ r h => by simp [spec_CuesIn.j0] at h, fun _ _ _ r h => by simp [spec_CuesIn.j1] at h, fun _ _ _ _ r h => by simp [spec_CuesIn.l0] at h⟩
 | k + 1 => by
  obtain ⟨ih0, ih1, ih2⟩ := spec_CuesIn.mono_l k
  refine ⟨?_, ?_, ?_⟩
  ·intro y0 y1 y2 y3
   unfold spec_CuesIn.j0
   repeat' first
   | (with_reducible exact ih0 _ _ _ _)
   | (with_reducible exact ih1 _ _ _)
   | (with_reducible exact ih2 _ _ _ _)
   | (with_reducible exact spec_l24Code.mono _ _ _)
   | (with_reducible exact spec_l24State.mono _ _ _)
   | (with_reducible exact LeO.refl _)
   | (with_reducible exact LeO.none _)
   | (with_reducible refine LeO.ite ?_ ?_)
   | (with_reducible refine LeO.bind ?_ (fun _ => ?_))
   | exact ih0 _ _ _ _
   | exact ih1 _ _ _
   | exact ih2 _ _ _ _
   | exact spec_l24Code.mono _ _ _
   | exact spec_l24State.mono _ _ _
   | exact LeO.none _
   | refine LeO.ite ?_ ?_
   | refine LeO.bind ?_ (fun _ => ?_)
  ·intro y0 y1 y2
   unfold spec_CuesIn.j1
   repeat' first
   | (with_reducible exact ih0 _ _ _ _)
   | (with_reducible exact ih1 _ _ _)
   | (with_reducible exact ih2 _ _ _ _)
   | (with_reducible exact spec_l24Code.mono _ _ _)
   | (with_reducible exact spec_l24State.mono _ _ _)
   | (with_reducible exact LeO.refl _)
   | (with_reducible exact LeO.none _)
   | (with_reducible refine LeO.ite ?_ ?_)
   | (with_reducible refine LeO.bind ?_ (fun _ => ?_))
   | exact ih0 _ _ _ _
   | exact ih1 _ _ _
   | exact ih2 _ _ _ _
   | exact spec_l24Code.mono _ _ _
   | exact spec_l24State.mono _ _ _
   | exact LeO.none _
   | refine LeO.ite ?_ ?_
   | refine LeO.bind ?_ (fun _ => ?_)
  ·intro y0 y1 y2 y3
   unfold spec_CuesIn.l0
   repeat' first
   | (with_reducible exact ih0 _ _ _ _)
   | (with_reducible exact ih1 _ _ _)
   | (with_reducible exact ih2 _ _ _ _)
   | (with_reducible exact spec_l24Code.mono _ _ _)
   | (with_reducible exact spec_l24State.mono _ _ _)
   | (with_reducible exact LeO.refl _)
   | (with_reducible exact LeO.none _)
   | (with_reducible refine LeO.ite ?_ ?_)
   | (with_reducible refine LeO.bind ?_ (fun _ => ?_))
   | exact ih0 _ _ _ _
   | exact ih1 _ _ _
   | exact ih2 _ _ _ _
   | exact spec_l24Code.mono _ _ _
   | exact spec_l24State.mono _ _ _
   | exact LeO.none _
   | refine LeO.ite ?_ ?_
   | refine LeO.bind ?_ (fun _ => ?_)
theorem spec_CuesIn.mono : ∀ a0 a1 k, LeO (spec_CuesIn.f k a0 a1) (spec_CuesIn.f (k + 1) a0 a1) := by
 intro a0 a1 k
 obtain ⟨ih0, ih1, ih2⟩ := spec_CuesIn.mono_l k
 unfold spec_CuesIn.f
 repeat' first
   | (with_reducible exact ih0 _ _ _ _)
   | (with_reducible exact ih1 _ _ _)
   | (with_reducible exact ih2 _ _ _ _)
   | (with_reducible exact spec_l24Code.mono _ _ _)
   | (with_reducible exact spec_l24State.mono _ _ _)
   | (with_reducible exact LeO.refl _)
   | (with_reducible exact LeO.none _)
   | (with_reducible refine LeO.ite ?_ ?_)
   | (with_reducible refine LeO.bind ?_ (fun _ => ?_))
   | exact ih0 _ _ _ _
   | exact ih1 _ _ _
   | exact ih2 _ _ _ _
   | exact spec_l24Code.mono _ _ _
   | exact spec_l24State.mono _ _ _
   | exact LeO.none _
   | refine LeO.ite ?_ ?_
   | refine LeO.bind ?_ (fun _ => ?_)
set_option maxHeartbeats 8000000 in
set_option maxRecDepth 100000 in
theorem spec_CuesIn.calls (k : Nat) (A0 : Option Addr) (c0 : Nat) (l0 : List (S36)) (a1 : Int) (r1 : List Int) (r2 : Int) (w : World) (hr0 : Kd.C k36 w A0 l0.length l0) (hc0 : l0.length ≤ c0) (h : spec_CuesIn.f k l0 a1 = some (r1, r2)) :
  Calls Try.prog 37 #[.slice A0 l0.length c0, .int .i64 a1] w fun e w' => ∃ v0_ : Value, e = .returned (.tuple #[v0_, .int .i64 r2]) ∧ Kd.R (Kd.int .i64) 2 w' w.heap.size (fun _ => True) v0_ r1 ∧ Below w.heap.size w w' := by
 have HR0 := jA hr0
 have HC0 := jA hc0
 clear hr0 hc0
 have HB := jA (Below.refl w.heap.size w)
 have H : ((spec_l24Code.f k l0 0).bind fun t217 => (if t217 = 0 then ((spec_l01In.f a1 0 3).bind fun t218 => (spec_CuesIn.j0 k l0 a1 t217 (!t218))) else (spec_CuesIn.j0 k l0 a1 t217 false))) = some (r1, r2) := h
 clear h
 replace H := jD.mp H
 obtain ⟨t217, A30, H⟩ := H
 replace H : (if t217 = 0 then ((spec_l01In.f a1 0 3).bind fun t218 => (spec_CuesIn.j0 k l0 a1 t217 (!t218))) else (spec_CuesIn.j0 k l0 a1 t217 false)) = some (r1, r2) := H
 have A3 := jA A30
 clear A30
 have HC4 := jA H
 clear H
 go_enter Try.func37, Try.ntmps37
 go_upto_region 2 with (first | ((with_reducible refine jL (f := 55) rfl ?_); refine goesL_ (some 10) rfl rfl Try.func55 zr rfl #[.slice A0 l0.length c0, .int .i64 0] rfl zm ?_; (with_reducible refine (spec_l24Code.calls k _ _ l0 0 t217 _ ?side1 ?side2 A3.out).mono ?_); (case side1 => repeat (first | exact HR0.out | (with_reducible refine jP ?_ _) | (with_reducible refine jO ?_ _) | (with_reducible refine jU ?_))); (case side2 => exact HC0.out); rintro e w5 ⟨rfl, hb⟩; refine ⟨_, rfl, ?_⟩; have n0_ := jA (jM (zb0 HB) hb); clear HB; have HB := n0_; clear n0_; (try clear hb); (try clear hb2); (try clear hk); (try clear hi)))
 (try simp only [Act.put, jB, jI, jJ])
 go_cut [17] (fun v17 wc => ∃ (kq : Nat) (x17_3 : Bool), v17 = .bool x17_3 ∧ Aside0 (spec_CuesIn.j0 kq l0 a1 t217 x17_3 = some (r1, r2)) ∧ Aside0 (kq ≤ k) ∧ Aside0 (Below w.heap.size w wc))
 case first =>
  have H := HC4.out
  clear HC4
  by_cases c6 : t217 = 0
  ·rw [if_pos c6] at H
   have c6b0 : (t217 == 0) = true := beq_iff_eq.mpr c6
   have c6b1 : (t217 != 0) = false := bne_eq_false_iff_eq.mpr c6
   clear c6
   (first | rw [c6b0] | (simp only [i64_w, i32_w]; rw [c6b0]) | skip)
   replace H := jD.mp H
   obtain ⟨t218, A70, H⟩ := H
   replace H : (spec_CuesIn.j0 k l0 a1 t217 (!t218)) = some (r1, r2) := H
   have A7 := jA A70
   clear A70
   have H' := jA H
   clear H
   go_wp2_with (first | (go_at_call 47; (with_reducible refine (spec_l01In.calls a1 0 3 t218 _ A7.out).mono ?_); rintro e w' ⟨rfl, ⟨nd, rfl⟩⟩))
   go_meet
   case rel => exact ⟨_, (!t218), zz, H', ⟨by first | omega | exact Nat.le_refl _⟩, ⟨zb0 HB⟩⟩
  ·rw [if_neg c6] at H
   have c6b0 : (t217 == 0) = false := beq_eq_false_iff_ne.mpr c6
   have c6b1 : (t217 != 0) = true := bne_iff_ne.mpr c6
   (first | rw [c6b0] | (simp only [i64_w, i32_w]; rw [c6b0]) | skip)
   have H' := jA H
   clear H
   go_wp2
   go_meet
   case rel => exact ⟨_, (false), zz, H', ⟨by first | omega | exact Nat.le_refl _⟩, ⟨zb0 HB⟩⟩
 case rest =>
  clear HC4
  try clear p2
  try clear c3
  try clear c5
  try clear c6
  try clear c6b0
  try clear c6b1
  obtain ⟨kq, x17_3, rfl, HA, HJ3, HB⟩ := hcut
  cases kq with
  | zero => exact absurd HA.out (by simp [spec_CuesIn.j0])
  | succ kj3 =>
   have H := HA.out
   clear HA
   simp only [spec_CuesIn.j0] at H
   have HC8 := jA H
   clear H
   go_upto_if 17 with (fail)
   go_cut [6] (fun v6 wc => ∃ (kq : Nat) (x6_7 : Int), v6 = .int .i64 x6_7 ∧ Aside0 (spec_CuesIn.j1 kq l0 a1 x6_7 = some (r1, r2)) ∧ Aside0 (kq ≤ kj3) ∧ Aside0 (Below w.heap.size w wc))
   case first =>
    have H := HC8.out
    clear HC8
    by_cases c9 : x17_3 = true
    ·subst c9
     have H1 : (spec_CuesIn.j1 kj3 l0 a1 2) = some (r1, r2) := by rw [if_pos rfl] at H; exact H
     clear H
     have H := H1
     clear H1
     have H' := jA H
     clear H
     go_wp2
     go_meet
     case rel => exact ⟨_, (2), zz, H', ⟨by have := HJ3.out; first | omega | exact Nat.le_refl _⟩, ⟨zb0 HB⟩⟩
    ·replace c9 := Bool.eq_false_iff.mpr c9
     subst c9
     have H1 : (spec_CuesIn.j1 kj3 l0 a1 t217) = some (r1, r2) := by rw [if_neg (show ¬ (false = true) by decide)] at H; exact H
     clear H
     have H := H1
     clear H1
     have H' := jA H
     clear H
     go_wp2
     go_meet
     case rel => exact ⟨_, (t217), zz, H', ⟨by have := HJ3.out; first | omega | exact Nat.le_refl _⟩, ⟨zb0 HB⟩⟩
   case rest =>
    clear HC8
    try clear p2
    try clear c3
    try clear c5
    try clear c6
    try clear c6b0
    try clear c6b1
    try clear c9
    try clear p2
    obtain ⟨kq, x6_7, rfl, HA, HJ7, HB⟩ := hcut
    cases kq with
    | zero => exact absurd HA.out (by simp [spec_CuesIn.j1])
    | succ kj7 =>
     have H := HA.out
     clear HA
     simp only [spec_CuesIn.j1] at H
     by_cases c10 : x6_7 = 0
     ·rw [if_pos c10] at H
      have c10b0 : (x6_7 == 0) = true := beq_iff_eq.mpr c10
      have c10b1 : (x6_7 != 0) = false := bne_eq_false_iff_eq.mpr c10
      clear c10
      obtain ⟨y219, hy219⟩ : ∃ y_ : List Int, y_ = (([] : List Int)) := ⟨_, rfl⟩
      replace H : (spec_CuesIn.l0 kj7 l0 a1 y219 0) = some (r1, r2) := by first | (rw [hy219]; with_reducible exact H) | (have H2_ := (Option.bind_some _ _).symm.trans H; rw [hy219]; with_reducible exact H2_) | (have H2_ := (Option.bind_some _ _).symm.trans H; with_reducible exact H2_) | with_reducible exact H | (rw [hy219]; exact H) | exact H
      have Ny219 := jA hy219
      clear hy219
      have H' := jA H
      clear H
      go_wp2_with (first | ((with_reducible refine gate_dst (N := 21) rfl ?_); refine Kd.R_lit (Kd.int .i64) _ 2 ?hg (N := 21) ?hd (xs := ([] : List Int)) (inner := []) (ok := fun _ => True) (okp := fun _ => True) ?hr ?hp (fun _ hk => hk) trivial (Below.refl _ _) (Nat.le_refl _) (by simp) ?_; (case hd => rfl); (case hg => rfl); (case hr => first | (go_simp; done) | (go_simp; rfl)); (case hp => exact (Reps.none _ _)); intro v220 w11 ho12 hb hg_ hnew_; clear hg_ hnew_; (first | rw [← Ny219.out] at ho12 | (simp only [Int.reduceToNat] at ho12; rw [← Ny219.out] at ho12)); have n0_ := jA (jZ ho12 (jT (zb0 HB))); have n1_ := jA (jM (zb0 HB) hb); clear HB; have HO221 := n0_; have HB := n1_; clear n0_ n1_; clear hb ho12))
      go_loopg [7, 8] kj7 (fun kq v7 v8 w' => ∃ (x7_3 : List Int) (x8_3 : Int), v8 = .int .i64 x8_3 ∧ Aside0 (spec_CuesIn.l0 kq l0 a1 x7_3 x8_3 = some (r1, r2)) ∧ Aside0 (kq ≤ kj7) ∧ Aside0 (Kd.R (Kd.int .i64) 2 w' w.heap.size (fun _ => True) v7 x7_3) ∧ Aside0 (Below w.heap.size w w'))
      case atStart => exact ⟨(y219), (0), zz, H', ⟨Nat.le_refl _⟩, ⟨by (with_reducible repeat (first | apply jG | apply jF | apply jK)); exact HO221.out⟩, ⟨zb0 HB⟩⟩
      case round =>
       clear H'
       try clear c1
       try clear p2
       try clear c3
       try clear c5
       try clear c6
       try clear c6b0
       try clear c6b1
       try clear c9
       try clear c10
       try clear c10b0
       try clear c10b1
       try clear p2
       obtain ⟨x7_3, x8_3, rfl, HA, HK3, HO_7, HB⟩ := hrel
       cases gk with
       | zero => exact absurd HA.out (by simp [spec_CuesIn.l0])
       | succ k3 =>
        have H := HA.out
        clear HA
        simp only [spec_CuesIn.l0] at H
        by_cases c13 : x8_3 < 20
        ·rw [if_pos c13] at H
         have c13b0 : decide (x8_3 < 20) = true := jN c13
         clear c13
         replace H := jD.mp H
         obtain ⟨t222, A140, H⟩ := H
         replace H : (if t222 = a1 then (if x7_3.length < 17592186044416 then (spec_CuesIn.l0 k3 l0 a1 (x7_3 ++ [x8_3]) (wrap64 (x8_3 + 1))) else (none)) else (spec_CuesIn.l0 k3 l0 a1 x7_3 (wrap64 (x8_3 + 1)))) = some (r1, r2) := H
         have A14 := jA A140
         clear A140
         by_cases c15 : t222 = a1
         ·rw [if_pos c15] at H
          have c15b0 : (t222 == a1) = true := beq_iff_eq.mpr c15
          have c15b1 : (t222 != a1) = false := bne_eq_false_iff_eq.mpr c15
          clear c15
          by_cases c16 : x7_3.length < 17592186044416
          ·rw [if_pos c16] at H
           have LMc16 := jA c16
           clear c16
           obtain ⟨y223, hy223⟩ : ∃ y_ : List Int, y_ = (x7_3 ++ [x8_3]) := ⟨_, rfl⟩
           replace H : (spec_CuesIn.l0 k3 l0 a1 y223 (wrap64 (x8_3 + 1))) = some (r1, r2) := by first | (rw [hy223]; with_reducible exact H) | (have H2_ := (Option.bind_some _ _).symm.trans H; rw [hy223]; with_reducible exact H2_) | (have H2_ := (Option.bind_some _ _).symm.trans H; with_reducible exact H2_) | with_reducible exact H | (rw [hy223]; exact H) | exact H
           have Ny223 := jA hy223
           clear hy223
           have H' := jA H
           clear H
           go_wp2_with (first | ((with_reducible refine jL (f := 58) rfl ?_); refine goesL_ (some 28) rfl rfl Try.func58 zr rfl #[.slice A0 l0.length c0, .int .i64 x8_3] rfl zm ?_; (with_reducible refine (spec_l24State.calls k3 _ _ l0 x8_3 t222 _ ?side1 ?side2 A14.out).mono ?_); (case side1 => exact zs HR0 HB); (case side2 => exact HC0.out); rintro e w17 ⟨rfl, hb⟩; refine ⟨_, rfl, ?_⟩; have n0_ := jA (jX (zo HO_7) hb); have n1_ := jA (jM (zb0 HB) hb); clear HO_7; clear HB; have HO_7 := n0_; have HB := n1_; clear n0_ n1_; (try clear hb); (try clear hb2); (try clear hk); (try clear hi)) | ((with_reducible refine gate_builtin (b := .append) (xs := #[.tmp 31, .tmp 33]) rfl ?_); at_builtin; refine Kd.R_append (Kd.int .i64) (w0 := w) w.heap.size rfl (.tmp 31) (.tmp 33) 40 2 (.int .i64 0) 8 rfl Try.underlying40 info2 rfl (by decide) (by omega) u7 x7_3 x8_3 [.int .i64 x8_3] (fun _ => True) (fun _ => False) rfl rfl ?aP (fun _ hk => hk.elim) ?aF ?aO ?aB ?aS ?aL ?_; (case aP => exact rfl); (case aB => exact (zb0 HB)); (case aF => exact (fun _ _ => trivial)); (case aO => exact (zo HO_7)); (case aS => exact (jT (zb0 HB))); (case aL => have := LMc16.out; omega); intro v224 w18 ho hb hg hat; rw [← Ny223.out] at ho; have n0_ := jA (hb); have n1_ := jA (ho); clear HB; clear HO_7; have HB := n0_; have HO225 := n1_; clear n0_ n1_; clear ho hb hg hat))
           go_roundg k3
           case measure => have := HJ3.out; have := HJ7.out; have := HK3.out; omega
           case rel => exact ⟨(y223), (wrap64 (x8_3 + 1)), zz, H', ⟨by have := HJ3.out; have := HJ7.out; have := HK3.out; omega⟩, ⟨by (with_reducible repeat (first | apply jG | apply jF | apply jK)); exact HO225.out⟩, ⟨zb0 HB⟩⟩
          ·rw [if_neg c16] at H
           exact absurd H (by simp)
         ·rw [if_neg c15] at H
          have c15b0 : (t222 == a1) = false := beq_eq_false_iff_ne.mpr c15
          have c15b1 : (t222 != a1) = true := bne_iff_ne.mpr c15
          have H' := jA H
          clear H
          go_wp2_with (first | ((with_reducible refine jL (f := 58) rfl ?_); refine goesL_ (some 28) rfl rfl Try.func58 zr rfl #[.slice A0 l0.length c0, .int .i64 x8_3] rfl zm ?_; (with_reducible refine (spec_l24State.calls k3 _ _ l0 x8_3 t222 _ ?side1 ?side2 A14.out).mono ?_); (case side1 => exact zs HR0 HB); (case side2 => exact HC0.out); rintro e w19 ⟨rfl, hb⟩; refine ⟨_, rfl, ?_⟩; have n0_ := jA (jX (zo HO_7) hb); have n1_ := jA (jM (zb0 HB) hb); clear HO_7; clear HB; have HO_7 := n0_; have HB := n1_; clear n0_ n1_; (try clear hb); (try clear hb2); (try clear hk); (try clear hi)))
          go_roundg k3
          case measure => have := HJ3.out; have := HJ7.out; have := HK3.out; omega
          case rel => exact ⟨(x7_3), (wrap64 (x8_3 + 1)), zz, H', ⟨by have := HJ3.out; have := HJ7.out; have := HK3.out; omega⟩, ⟨by (with_reducible repeat (first | apply jG | apply jF | apply jK)); exact HO_7.out⟩, ⟨zb0 HB⟩⟩
        ·rw [if_neg c13] at H
         have c13b0 : decide (x8_3 < 20) = false := jd c13
         clear c13
         simp only [jY, jc] at H
         obtain ⟨rfl, rfl⟩ := H
         go_wp2
         go_ret2
         exact ⟨_, by first | rfl | (simp [errW_none, errW_some] <;> rfl) | (simp [*, errW_none, errW_some] <;> rfl), by (with_reducible repeat (first | apply jG | apply jF | apply jK)); exact HO_7.out, zb0 HB⟩
     ·rw [if_neg c10] at H
      have c10b0 : (x6_7 == 0) = false := beq_eq_false_iff_ne.mpr c10
      have c10b1 : (x6_7 != 0) = true := bne_iff_ne.mpr c10
      simp only [jY, jc] at H
      obtain ⟨rfl, rfl⟩ := H
      go_wp2
      go_ret2
      exact ⟨_, by first | rfl | (simp [errW_none, errW_some] <;> rfl) | (simp [*, errW_none, errW_some] <;> rfl), by first | exact Kd.R_nil _ _ _ _ _ | exact Kd.N_nil _ _ _ _ _ | exact Kd.V_nil _ _ _ _ _ | exact Kd.Q_nil _ _ _ _ _ | exact Kd.S_nil _ _ _ _ _, zb0 HB⟩

end Go.Proofs.Ythnpffomoaeeoaa.PFnCueStates
