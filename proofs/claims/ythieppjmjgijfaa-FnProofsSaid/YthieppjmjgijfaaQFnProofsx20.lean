/- Functions and contracts that FnProofs reaches (21 of 22). -/
import Derived.Test.YthieppjmjgijfaaQFnProofsx19
namespace Go.Proofs.Ythieppjmjgijfaa.PFnProofs
open Go.RowKit Go.Proofs.YthieppjmjgijfaaW.PrintWords Go.Proofs.YthieppjmjgijfaaW.PrintLast Go.Proofs.YthieppjmjgijfaaW.PrintMore
attribute [local go_sem] max2_int min2_int max_two min_two max_three min_three max_four min_four   -- for this text's walks alone
set_option linter.unusedVariables false
set_option linter.unusedSimpArgs false

/-! ### impl_reachedFrom: function 66 -/
def impl_reachedFrom.l0 : Nat → List Int → List Bool → Int → Int → Option (List Int)
 | 0, _, _, _, _ => none
 | k + 1, x5, x16, x17, x18 => if x18 < x17 then (if 0 ≤ x18 then (if x18 < (x16.length : Int) then (if rdOf false x16 x18 = true then (if x5.length < 17592186044416 then (impl_reachedFrom.l0 k (x5 ++ [x18]) x16 x17 (wrap64 (x18 + 1))) else (none)) else (impl_reachedFrom.l0 k x5 x16 x17 (wrap64 (x18 + 1)))) else (none)) else (none)) else (some x5)
def impl_reachedFrom.f (k : Nat) (a0_0 : Bool) (a0_1 : Bool) (a0_2 : Bool) (a0_3 : Bool) (a0_4 : Bool) (a0_5 : Int) (l1 : List Int) : Option (List Int) := (impl_shortest.f k a0_0 a0_1 a0_2 a0_3 a0_4 a0_5 l1).bind fun bt666 => (impl_reachedFrom.l0 k ([] : List Int) bt666.2 (bt666.2.length : Int) 0)
theorem impl_reachedFrom.mono_l : ∀ k, (∀ y0 y1 y2 y3, LeO (impl_reachedFrom.l0 k y0 y1 y2 y3) (impl_reachedFrom.l0 (k + 1) y0 y1 y2 y3))
 | 0 => fun _ _ _ _ r h => by simp [impl_reachedFrom.l0] at h
 | k + 1 => by
  have ih0 := impl_reachedFrom.mono_l k
  ·intro y0 y1 y2 y3
   unfold impl_reachedFrom.l0
   repeat' first
   | (with_reducible exact ih0 _ _ _ _)
   | (with_reducible exact impl_shortest.mono _ _ _ _ _ _ _ _)
   | (with_reducible exact LeO.refl _)
   | (with_reducible exact LeO.none _)
   | (with_reducible refine LeO.ite ?_ ?_)
   | (with_reducible refine LeO.bind ?_ (fun _ => ?_))
   | exact ih0 _ _ _ _
   | exact impl_shortest.mono _ _ _ _ _ _ _ _
   | exact LeO.none _
   | refine LeO.ite ?_ ?_
   | refine LeO.bind ?_ (fun _ => ?_)
theorem impl_reachedFrom.mono : ∀ a0 a1 a2 a3 a4 a5 a6 k, LeO (impl_reachedFrom.f k a0 a1 a2 a3 a4 a5 a6) (impl_reachedFrom.f (k + 1) a0 a1 a2 a3 a4 a5 a6) := by
 intro a0 a1 a2 a3 a4 a5 a6 k
 have ih0 := impl_reachedFrom.mono_l k
 unfold impl_reachedFrom.f
 repeat' first
   | (with_reducible exact ih0 _ _ _ _)
   | (with_reducible exact impl_shortest.mono _ _ _ _ _ _ _ _)
   | (with_reducible exact LeO.refl _)
   | (with_reducible exact LeO.none _)
   | (with_reducible refine LeO.ite ?_ ?_)
   | (with_reducible refine LeO.bind ?_ (fun _ => ?_))
   | exact ih0 _ _ _ _
   | exact impl_shortest.mono _ _ _ _ _ _ _ _
   | exact LeO.none _
   | refine LeO.ite ?_ ?_
   | refine LeO.bind ?_ (fun _ => ?_)
set_option maxHeartbeats 8000000 in
set_option maxRecDepth 100000 in
theorem impl_reachedFrom.calls (k : Nat) (a0_0 : Bool) (a0_1 : Bool) (a0_2 : Bool) (a0_3 : Bool) (a0_4 : Bool) (a0_5 : Int) (A1 : Option Addr) (c1 : Nat) (l1 : List Int) (r : List Int) (w : World) (hr1 : Kd.C (Kd.int .i64) w A1 l1.length l1) (hc1 : l1.length ≤ c1) (h : impl_reachedFrom.f k a0_0 a0_1 a0_2 a0_3 a0_4 a0_5 l1 = some r) :
  Calls Try.prog 66 #[.agg #[.bool a0_0, .bool a0_1, .bool a0_2, .bool a0_3, .bool a0_4, .int .i64 a0_5], .slice A1 l1.length c1] w fun e w' => ∃ v0_ : Value, e = .returned (v0_) ∧ Kd.R (Kd.int .i64) 2 w' w.heap.size (fun _ => True) v0_ r ∧ Below w.heap.size w w' := by
 have hu23 := Try.underlying23
 have HR1 := jA hr1
 have HC1 := jA hc1
 clear hr1 hc1
 have HB := jA (Below.refl w.heap.size w)
 have H := h
 unfold impl_reachedFrom.f at H
 clear h
 replace H := jC.mp H
 obtain ⟨⟨t666, t669⟩, A30, H⟩ := H
 try dsimp only at H
 have A3 := jA A30
 clear A30
 have H' := jA H
 clear H
 go_enter Try.func66, Try.ntmps66
 go_wp2_with (first | ((with_reducible refine jJ (N := 2) rfl ?_); refine zE 2 #[.bool a0_0, .bool a0_1, .bool a0_2, .bool a0_3, .bool a0_4, .int .i64 a0_5] 23 ?_; intro gb665 hg w4 hbox hb; have BK665 := jA (hbox); have GW665 := zg0 hg HB; have GE665 := zg0 hg HB; replace HB := zS0 HB hb; clear hb hbox hg; have hcz5 := zc6 BK665) | ((with_reducible refine jG (f := 69) rfl ?_); refine zL (some 13) Try.func69 #[.agg #[.bool a0_0, .bool a0_1, .bool a0_2, .bool a0_3, .bool a0_4, .int .i64 a0_5], .slice A1 l1.length c1] ?_; (with_reducible refine (impl_shortest.calls k a0_0 a0_1 a0_2 a0_3 a0_4 a0_5 _ _ l1 t666 t669 _ ?side1 ?side2 A3.out).mono ?_); (case side1 => exact zs HR1 HB); (case side2 => exact HC1.out); rintro e w6 ⟨v667, v670, rfl, ho0, ho1, hb⟩; refine ⟨_, rfl, ?_⟩; have HO668 := jA (Kd.S_lower ho0 (jT (zb1 HB GE665))); have HO671 := jA (jX ho1 (jT (zb1 HB GE665))); replace BK665 := zB BK665 hb; replace HB := zS1 HB GE665 hb; (try clear hb); (try clear hb2); (try clear hk); (try clear hi); (try clear ho0); (try clear ho1); obtain ⟨Ao7, co7, eo7⟩ := Kd.R_slice HO671.out; subst eo7))
 go_loopg [5, 18] k (fun kq v5 v18 w' => ∃ (x5_1 : List Int) (x18_1 : Int), v18 = .int .i64 x18_1 ∧ Aside0 (impl_reachedFrom.l0 kq x5_1 t669 (t669.length : Int) x18_1 = some r) ∧ Aside0 (kq ≤ k) ∧ Aside0 (Kd.R (Kd.int .i64) 2 w' w.heap.size (fun _ => True) v5 x5_1) ∧ Aside0 (Kd.R Kd.bool 4 w' w.heap.size (fun _ => True) (.slice Ao7 t669.length co7) t669) ∧ Aside0 (w'.heap[gb665]? = some (.cells #[.bool a0_0, .bool a0_1, .bool a0_2, .bool a0_3, .bool a0_4, .int .i64 a0_5] 23 (0, 0))) ∧ Aside0 (Below w.heap.size w w'))
 case atStart => exact ⟨(([] : List Int)), (0), zz, H', ⟨Nat.le_refl _⟩, ⟨by first | exact Kd.R_nil _ _ _ _ _ | exact Kd.N_nil _ _ _ _ _ | exact Kd.V_nil _ _ _ _ _ | exact Kd.Q_nil _ _ _ _ _ | exact Kd.S_nil _ _ _ _ _⟩, ⟨zo HO671⟩, ⟨zk BK665⟩, ⟨zb1 HB GE665⟩⟩
 case round =>
  clear H'
  try clear c1
  try clear p2
  try clear c6
  try clear hcz5
  obtain ⟨x5_1, x18_1, rfl, HA, HK1, HO_5, HO_16, BK665, HB⟩ := hrel
  cases gk with
  | zero => exact absurd HA.out (by simp [impl_reachedFrom.l0])
  | succ k1 =>
   have H := HA.out
   clear HA
   simp only [impl_reachedFrom.l0] at H
   by_cases c8 : x18_1 < (t669.length : Int)
   ·rw [if_pos c8] at H
    have c8b0 : decide (x18_1 < (t669.length : Int)) = true := jI c8
    clear c8
    by_cases c9 : 0 ≤ x18_1
    ·rw [if_pos c9] at H
     have c9b0 : decide (0 ≤ x18_1) = true := jI c9
     clear c9
     by_cases c10 : x18_1 < (t669.length : Int)
     ·rw [if_pos c10] at H
      have c10b0 : decide (x18_1 < (t669.length : Int)) = true := jI c10
      clear c10
      obtain ⟨bq11, hbq11⟩ : ∃ b_ : Bool, b_ = (rdOf false t669 x18_1) := ⟨_, rfl⟩
      replace H : (if bq11 = true then (if x5_1.length < 17592186044416 then (impl_reachedFrom.l0 k1 (x5_1 ++ [x18_1]) t669 (t669.length : Int) (wrap64 (x18_1 + 1))) else (none)) else (impl_reachedFrom.l0 k1 x5_1 t669 (t669.length : Int) (wrap64 (x18_1 + 1)))) = some r := by rw [← hbq11] at H; exact H
      have Nbq11 := jA hbq11
      clear hbq11
      by_cases c12 : bq11 = true
      ·subst c12
       rw [if_pos rfl] at H
       by_cases c13 : x5_1.length < 17592186044416
       ·rw [if_pos c13] at H
        have LMc13 := jA c13
        clear c13
        obtain ⟨y673, hy673⟩ : ∃ y_ : List Int, y_ = (x5_1 ++ [x18_1]) := ⟨_, rfl⟩
        replace H : (impl_reachedFrom.l0 k1 y673 t669 (t669.length : Int) (wrap64 (x18_1 + 1))) = some r := by first | (rw [hy673]; with_reducible exact H) | (have H2_ := (Option.bind_some _ _).symm.trans H; rw [hy673]; with_reducible exact H2_) | (have H2_ := (Option.bind_some _ _).symm.trans H; with_reducible exact H2_) | with_reducible exact H | (rw [hy673]; exact H) | exact H
        have Ny673 := jA hy673
        clear hy673
        have H' := jA H
        clear H
        have p672 : 0 ≤ (x18_1 : Int) := jB za
        have q672 : x18_1 < (t669.length : Int) := jB za
        obtain ⟨ad672, e672, hx672_0⟩ := Kd.at_bool (jO HO_16.out).2.2 x18_1 p672 q672
        (try rw [← Nbq11.out] at hx672_0)
        cases e672
        replace p672 := eq_true p672
        replace q672 := eq_true q672
        go_wp2_with (first | ((with_reducible refine gate_builtin (b := .append) (xs := #[.tmp 24, .tmp 26]) rfl ?_); at_builtin; refine Kd.R_append (Kd.int .i64) (w0 := w) w.heap.size rfl (.tmp 24) (.tmp 26) 35 2 (.int .i64 0) 8 rfl Try.underlying35 info2 rfl (by decide) (by omega) u5 x5_1 x18_1 [.int .i64 x18_1] (fun _ => True) (fun _ => False) rfl rfl ?aP (fun _ hk => hk.elim) ?aF ?aO ?aB ?aS ?aL ?_; (case aP => exact rfl); (case aB => exact (zb1 HB GE665)); (case aF => exact (fun _ _ => trivial)); (case aO => exact (zo HO_5)); (case aS => exact (jT (zb1 HB GE665))); (case aL => have := LMc13.out; omega); intro v674 w14 ho hb hg hat; rw [← Ny673.out] at ho; replace HO_16 := jA (Kd.R_over' (zo HO_16) (Kd.R_typed (zo HO_5)) (by decide) hg); replace BK665 := jA (blk_grown (g := gb665) (o := .cells #[.bool a0_0, .bool a0_1, .bool a0_2, .bool a0_3, .bool a0_4, .int .i64 a0_5] 23 (0, 0)) (zk BK665) hg (Kd.R_ne HO_5.out BK665.out (by decide))); replace HB := jA (hb); have HO675 := jA (ho); clear HO_5; clear ho hb hg hat))
        go_roundg k1
        case measure => have := HK1.out; omega
        case rel => exact ⟨(y673), (wrap64 (x18_1 + 1)), zz, H', ⟨by have := HK1.out; omega⟩, ⟨zo HO675⟩, ⟨zo HO_16⟩, ⟨zk BK665⟩, ⟨zb1 HB GE665⟩⟩
       ·rw [if_neg c13] at H
        exact absurd H (by simp)
      ·replace c12 := Bool.eq_false_iff.mpr c12
       subst c12
       rw [if_neg zfalse] at H
       have H' := jA H
       clear H
       have p672 : 0 ≤ (x18_1 : Int) := jB za
       have q672 : x18_1 < (t669.length : Int) := jB za
       obtain ⟨ad672, e672, hx672_0⟩ := Kd.at_bool (jO HO_16.out).2.2 x18_1 p672 q672
       (try rw [← Nbq11.out] at hx672_0)
       cases e672
       replace p672 := eq_true p672
       replace q672 := eq_true q672
       go_wp2
       go_roundg k1
       case measure => have := HK1.out; omega
       case rel => exact ⟨(x5_1), (wrap64 (x18_1 + 1)), zz, H', ⟨by have := HK1.out; omega⟩, ⟨zo HO_5⟩, ⟨zo HO_16⟩, ⟨zk BK665⟩, ⟨zb1 HB GE665⟩⟩
     ·rw [if_neg c10] at H
      exact absurd H (by simp)
    ·rw [if_neg c9] at H
     exact absurd H (by simp)
   ·rw [if_neg c8] at H
    have c8b0 : decide (x18_1 < (t669.length : Int)) = false := jS c8
    clear c8
    obtain rfl := jN H
    go_wp2
    go_ret
    exact ⟨_, ze, zo HO_5, zb1 HB GE665⟩

/-! ### impl_ReachedFrom: function 30 -/
def impl_ReachedFrom.f (k : Nat) (a0_0 : Bool) (a0_1 : Bool) (a0_2 : Bool) (a0_3 : Bool) (a0_4 : Bool) (a0_5 : Int) (l1 : List Int) : Option (List Int × Int) := (impl_IsSound.f a0_0 a0_1 a0_2 a0_3 a0_4 a0_5).bind fun t677 => (if t677 = true then ((impl_isHand.f k l1).bind fun t678 => (if t678 = true then ((impl_reachedFrom.f k a0_0 a0_1 a0_2 a0_3 a0_4 a0_5 l1).bind fun t679 => (some (t679, 0))) else (some (([] : List Int), 1)))) else (some (([] : List Int), 1)))
theorem impl_ReachedFrom.mono : ∀ a0 a1 a2 a3 a4 a5 a6 k, LeO (impl_ReachedFrom.f k a0 a1 a2 a3 a4 a5 a6) (impl_ReachedFrom.f (k + 1) a0 a1 a2 a3 a4 a5 a6) := by
 intro a0 a1 a2 a3 a4 a5 a6 k
 unfold impl_ReachedFrom.f
 repeat' first
   | (with_reducible exact impl_isHand.mono _ _)
   | (with_reducible exact impl_reachedFrom.mono _ _ _ _ _ _ _ _)
   | (with_reducible exact LeO.refl _)
   | (with_reducible exact LeO.none _)
   | (with_reducible refine LeO.ite ?_ ?_)
   | (with_reducible refine LeO.bind ?_ (fun _ => ?_))
   | exact impl_isHand.mono _ _
   | exact impl_reachedFrom.mono _ _ _ _ _ _ _ _
   | exact LeO.none _
   | refine LeO.ite ?_ ?_
   | refine LeO.bind ?_ (fun _ => ?_)
set_option maxHeartbeats 8000000 in
set_option maxRecDepth 100000 in
theorem impl_ReachedFrom.calls (k : Nat) (a0_0 : Bool) (a0_1 : Bool) (a0_2 : Bool) (a0_3 : Bool) (a0_4 : Bool) (a0_5 : Int) (A1 : Option Addr) (c1 : Nat) (l1 : List Int) (r1 : List Int) (r2 : Int) (w : World) (hr1 : Kd.C (Kd.int .i64) w A1 l1.length l1) (hc1 : l1.length ≤ c1) (h : impl_ReachedFrom.f k a0_0 a0_1 a0_2 a0_3 a0_4 a0_5 l1 = some (r1, r2)) :
  Calls Try.prog 30 #[.agg #[.bool a0_0, .bool a0_1, .bool a0_2, .bool a0_3, .bool a0_4, .int .i64 a0_5], .slice A1 l1.length c1] w fun e w' => ∃ v0_ : Value, e = .returned (.tuple #[v0_, .int .i64 r2]) ∧ Kd.R (Kd.int .i64) 2 w' w.heap.size (fun _ => True) v0_ r1 ∧ Below w.heap.size w w' := by
 have hu23 := Try.underlying23
 have HR1 := jA hr1
 have HC1 := jA hc1
 clear hr1 hc1
 have HB := jA (Below.refl w.heap.size w)
 have H := h
 unfold impl_ReachedFrom.f at H
 clear h
 replace H := jC.mp H
 obtain ⟨t677, A30, H⟩ := H
 try dsimp only at H
 have A3 := jA A30
 clear A30
 by_cases c4 : t677 = true
 ·subst c4
  rw [if_pos rfl] at H
  replace H := jC.mp H
  obtain ⟨t678, A50, H⟩ := H
  try dsimp only at H
  have A5 := jA A50
  clear A50
  by_cases c6 : t678 = true
  ·subst c6
   rw [if_pos rfl] at H
   replace H := jC.mp H
   obtain ⟨t679, A70, H⟩ := H
   replace H : (some (t679, 0)) = some (r1, r2) := H
   have A7 := jA A70
   clear A70
   simp only [jH, jK] at H
   obtain ⟨rfl, rfl⟩ := H
   go_enter Try.func30, Try.ntmps30
   go_wp2_with (first | ((with_reducible refine jJ (N := 2) rfl ?_); refine zE 2 #[.bool a0_0, .bool a0_1, .bool a0_2, .bool a0_3, .bool a0_4, .int .i64 a0_5] 23 ?_; intro gb676 hg w8 hbox hb; have BK676 := jA (hbox); have GW676 := zg0 hg HB; have GE676 := zg0 hg HB; replace HB := zS0 HB hb; clear hb hbox hg; have hcz9 := zc6 BK676) | ((with_reducible refine jG (f := 27) rfl ?_); refine zL (some 7) Try.func27 #[.agg #[.bool a0_0, .bool a0_1, .bool a0_2, .bool a0_3, .bool a0_4, .int .i64 a0_5]] ?_; (with_reducible refine (impl_IsSound.calls a0_0 a0_1 a0_2 a0_3 a0_4 a0_5 true _ A3.out).mono ?_); rintro e w10 ⟨rfl, hb⟩; refine ⟨_, rfl, ?_⟩; replace BK676 := zB BK676 hb; replace HB := zS1 HB GE676 hb; clear hb) | (go_at_call 56; (with_reducible refine (impl_isHand.calls k _ _ l1 true _ ?side1 ?side2 A5.out).mono ?_); (case side1 => exact zs HR1 HB); (case side2 => exact HC1.out); rintro e w' ⟨rfl, ⟨nd, rfl⟩⟩; have hcz11 := zc6 BK676) | ((with_reducible refine jG (f := 66) rfl ?_); refine zL (some 16) Try.func66 #[.agg #[.bool a0_0, .bool a0_1, .bool a0_2, .bool a0_3, .bool a0_4, .int .i64 a0_5], .slice A1 l1.length c1] ?_; (with_reducible refine (impl_reachedFrom.calls k a0_0 a0_1 a0_2 a0_3 a0_4 a0_5 _ _ l1 t679 _ ?side1 ?side2 A7.out).mono ?_); (case side1 => repeat (first | exact HR1.out | exact (Kd.C_below HR1.out (zb1 HB GE676)) | (with_reducible refine Kd.C_alloc ?_ _) | (with_reducible refine Kd.C_drewN ?_ _) | (with_reducible refine Kd.C_drew ?_))); (case side2 => exact HC1.out); rintro e w12 ⟨v680, rfl, ho0, hb⟩; refine ⟨_, rfl, ?_⟩; have HO681 := jA (jX ho0 (jT (zb1 HB GE676))); replace BK676 := zB BK676 hb; replace HB := zS1 HB GE676 hb; (try clear hb); (try clear hb2); (try clear hk); (try clear hi); (try clear ho0)))
   go_ret2
   exact ⟨_, ze, zo HO681, zb1 HB GE676⟩
  ·replace c6 := Bool.eq_false_iff.mpr c6
   subst c6
   rw [if_neg zfalse] at H
   simp only [jH, jK] at H
   obtain ⟨rfl, rfl⟩ := H
   go_enter Try.func30, Try.ntmps30
   go_wp2_with (first | ((with_reducible refine jJ (N := 2) rfl ?_); refine zE 2 #[.bool a0_0, .bool a0_1, .bool a0_2, .bool a0_3, .bool a0_4, .int .i64 a0_5] 23 ?_; intro gb676 hg w13 hbox hb; have BK676 := jA (hbox); have GW676 := zg0 hg HB; have GE676 := zg0 hg HB; replace HB := zS0 HB hb; clear hb hbox hg; have hcz14 := zc6 BK676) | ((with_reducible refine jG (f := 27) rfl ?_); refine zL (some 7) Try.func27 #[.agg #[.bool a0_0, .bool a0_1, .bool a0_2, .bool a0_3, .bool a0_4, .int .i64 a0_5]] ?_; (with_reducible refine (impl_IsSound.calls a0_0 a0_1 a0_2 a0_3 a0_4 a0_5 true _ A3.out).mono ?_); rintro e w15 ⟨rfl, hb⟩; refine ⟨_, rfl, ?_⟩; replace BK676 := zB BK676 hb; replace HB := zS1 HB GE676 hb; clear hb) | (go_at_call 56; (with_reducible refine (impl_isHand.calls k _ _ l1 false _ ?side1 ?side2 A5.out).mono ?_); (case side1 => exact zs HR1 HB); (case side2 => exact HC1.out); rintro e w' ⟨rfl, ⟨nd, rfl⟩⟩))
   go_ret2
   exact ⟨_, ze, by first | exact Kd.R_nil _ _ _ _ _ | exact Kd.N_nil _ _ _ _ _ | exact Kd.V_nil _ _ _ _ _ | exact Kd.Q_nil _ _ _ _ _ | exact Kd.S_nil _ _ _ _ _, zb1 HB GE676⟩
 ·replace c4 := Bool.eq_false_iff.mpr c4
  subst c4
  rw [if_neg zfalse] at H
  simp only [jH, jK] at H
  obtain ⟨rfl, rfl⟩ := H
  go_enter Try.func30, Try.ntmps30
  go_wp2_with (first | ((with_reducible refine jJ (N := 2) rfl ?_); refine zE 2 #[.bool a0_0, .bool a0_1, .bool a0_2, .bool a0_3, .bool a0_4, .int .i64 a0_5] 23 ?_; intro gb676 hg w16 hbox hb; have BK676 := jA (hbox); have GW676 := zg0 hg HB; have GE676 := zg0 hg HB; replace HB := zS0 HB hb; clear hb hbox hg; have hcz17 := zc6 BK676) | ((with_reducible refine jG (f := 27) rfl ?_); refine zL (some 7) Try.func27 #[.agg #[.bool a0_0, .bool a0_1, .bool a0_2, .bool a0_3, .bool a0_4, .int .i64 a0_5]] ?_; (with_reducible refine (impl_IsSound.calls a0_0 a0_1 a0_2 a0_3 a0_4 a0_5 false _ A3.out).mono ?_); rintro e w18 ⟨rfl, hb⟩; refine ⟨_, rfl, ?_⟩; replace BK676 := zB BK676 hb; replace HB := zS1 HB GE676 hb; clear hb))
  go_ret2
  exact ⟨_, ze, by first | exact Kd.R_nil _ _ _ _ _ | exact Kd.N_nil _ _ _ _ _ | exact Kd.V_nil _ _ _ _ _ | exact Kd.Q_nil _ _ _ _ _ | exact Kd.S_nil _ _ _ _ _, zb1 HB GE676⟩

/-! ### laws_hasInt: function 31 -/
def laws_hasInt.l0 : Nat → List Int → Int → Int → Option (Bool)
 | 0, _, _, _ => none
 | k + 1, x0, x1, x5 => if x5 < (x0.length : Int) then (if 0 ≤ x5 then (if (rd x0 x5) = x1 then (some true) else (laws_hasInt.l0 k x0 x1 (wrap64 (x5 + 1)))) else (none)) else (some false)
def laws_hasInt.f (k : Nat) (l0 : List Int) (a1 : Int) : Option (Bool) := laws_hasInt.l0 k l0 a1 0
theorem laws_hasInt.mono_l : ∀ k, (∀ y0 y1 y2, LeO (laws_hasInt.l0 k y0 y1 y2) (laws_hasInt.l0 (k + 1) y0 y1 y2))
 | 0 => fun _ _ _ r h => by simp [laws_hasInt.l0] at h
 | k + 1 => by
  have ih0 := laws_hasInt.mono_l k
  ·intro y0 y1 y2
   unfold laws_hasInt.l0
   repeat' first
   | (with_reducible exact ih0 _ _ _)
   | (with_reducible exact LeO.refl _)
   | (with_reducible exact LeO.none _)
   | (with_reducible refine LeO.ite ?_ ?_)
   | (with_reducible refine LeO.bind ?_ (fun _ => ?_))
   | exact ih0 _ _ _
   | exact LeO.none _
   | refine LeO.ite ?_ ?_
   | refine LeO.bind ?_ (fun _ => ?_)
theorem laws_hasInt.mono : ∀ a0 a1 k, LeO (laws_hasInt.f k a0 a1) (laws_hasInt.f (k + 1) a0 a1) := by
 intro a0 a1 k
 have ih0 := laws_hasInt.mono_l k
 unfold laws_hasInt.f
 repeat' first
   | (with_reducible exact ih0 _ _ _)
   | (with_reducible exact LeO.refl _)
   | (with_reducible exact LeO.none _)
   | (with_reducible refine LeO.ite ?_ ?_)
   | (with_reducible refine LeO.bind ?_ (fun _ => ?_))
   | exact ih0 _ _ _
   | exact LeO.none _
   | refine LeO.ite ?_ ?_
   | refine LeO.bind ?_ (fun _ => ?_)
set_option maxHeartbeats 8000000 in
set_option maxRecDepth 100000 in
theorem laws_hasInt.calls (k : Nat) (A0 : Option Addr) (c0 : Nat) (l0 : List Int) (a1 : Int) (r : Bool) (w : World) (hr0 : Kd.C (Kd.int .i64) w A0 l0.length l0) (hc0 : l0.length ≤ c0) (h : laws_hasInt.f k l0 a1 = some r) :
  Calls Try.prog 31 #[.slice A0 l0.length c0, .int .i64 a1] w fun e w' => e = .returned (.bool r) ∧ Drawn0 w w' := by
 have HR0 := jA hr0
 have HC0 := jA hc0
 clear hr0 hc0
 have H : (laws_hasInt.l0 k l0 a1 0) = some r := h
 clear h
 have H' := jA H
 clear H
 go_enter Try.func31, Try.ntmps31
 go_wp2
 go_loopg [5] k (fun kq v5 w' => ∃ (x5_1 : Int), v5 = .int .i64 x5_1 ∧ Aside0 (laws_hasInt.l0 kq l0 a1 x5_1 = some r) ∧ Aside0 (kq ≤ k) ∧ Drawn0 w w')
 case atStart => exact ⟨(0), zz, H', ⟨Nat.le_refl _⟩, by repeat (first | exact Drawn0.refl _ | apply Drawn0.step)⟩
 case round =>
  clear H'
  try clear p2
  obtain ⟨x5_1, rfl, HA, HK1, ⟨m1, rfl⟩⟩ := hrel
  cases gk with
  | zero => exact absurd HA.out (by simp [laws_hasInt.l0])
  | succ k1 =>
   have H := HA.out
   clear HA
   simp only [laws_hasInt.l0] at H
   by_cases c3 : x5_1 < (l0.length : Int)
   ·rw [if_pos c3] at H
    have c3b0 : decide (x5_1 < (l0.length : Int)) = true := jI c3
    clear c3
    by_cases c4 : 0 ≤ x5_1
    ·rw [if_pos c4] at H
     have c4b0 : decide (0 ≤ x5_1) = true := jI c4
     clear c4
     by_cases c5 : (rd l0 x5_1) = a1
     ·rw [if_pos c5] at H
      have c5b0 : ((rd l0 x5_1) == a1) = true := beq_iff_eq.mpr c5
      have c5b1 : ((rd l0 x5_1) != a1) = false := bne_eq_false_iff_eq.mpr c5
      clear c5
      obtain rfl := jN H
      have p682 : 0 ≤ (x5_1 : Int) := jB za
      have q682 : x5_1 < (l0.length : Int) := jB za
      obtain ⟨ad682, e682, hx682_0⟩ := jR HR0.out x5_1 p682 q682
      cases e682
      replace p682 := eq_true p682
      replace q682 := eq_true q682
      go_wp2
      go_ret
      exact ⟨by first | rfl | (simp; done) | (simp [*]; done), by repeat (first | exact Drawn0.refl _ | apply Drawn0.step)⟩
     ·rw [if_neg c5] at H
      have c5b0 : ((rd l0 x5_1) == a1) = false := beq_eq_false_iff_ne.mpr c5
      have c5b1 : ((rd l0 x5_1) != a1) = true := bne_iff_ne.mpr c5
      have H' := jA H
      clear H
      have p682 : 0 ≤ (x5_1 : Int) := jB za
      have q682 : x5_1 < (l0.length : Int) := jB za
      obtain ⟨ad682, e682, hx682_0⟩ := jR HR0.out x5_1 p682 q682
      cases e682
      replace p682 := eq_true p682
      replace q682 := eq_true q682
      go_wp2
      go_roundg k1
      case measure => have := HK1.out; omega
      case rel => exact ⟨(wrap64 (x5_1 + 1)), zz, H', ⟨by have := HK1.out; omega⟩, by repeat (first | exact Drawn0.refl _ | apply Drawn0.step)⟩
    ·rw [if_neg c4] at H
     exact absurd H (by simp)
   ·rw [if_neg c3] at H
    have c3b0 : decide (x5_1 < (l0.length : Int)) = false := jS c3
    clear c3
    obtain rfl := jN H
    go_wp2
    go_ret
    exact ⟨by first | rfl | (simp; done) | (simp [*]; done), by repeat (first | exact Drawn0.refl _ | apply Drawn0.step)⟩

/-! ### impl_GiveInput: function 32 -/
def impl_GiveInput.f (a0_0 : Bool) (a0_1 : Bool) (a0_2 : Bool) (a0_3 : Bool) (a0_4 : Bool) (a0_5 : Int) (a1 : Int) : Option (Bool × Bool × Bool × Bool × Bool × Int × Int) := (impl_IsSound.f a0_0 a0_1 a0_2 a0_3 a0_4 a0_5).bind fun t685 => (if t685 = true then ((impl_giveInput.f a0_0 a0_1 a0_2 a0_3 a0_4 a0_5 a1).bind fun bt686 => (some (bt686.1, bt686.2.1, bt686.2.2.1, bt686.2.2.2.1, bt686.2.2.2.2.1, bt686.2.2.2.2.2.1, bt686.2.2.2.2.2.2))) else (some (false, false, false, false, false, 0, 1)))
set_option maxHeartbeats 8000000 in
set_option maxRecDepth 100000 in
theorem impl_GiveInput.calls (a0_0 : Bool) (a0_1 : Bool) (a0_2 : Bool) (a0_3 : Bool) (a0_4 : Bool) (a0_5 : Int) (a1 : Int) (r1 : Bool) (r2 : Bool) (r3 : Bool) (r4 : Bool) (r5 : Bool) (r6 : Int) (r7 : Int) (w : World) (h : impl_GiveInput.f a0_0 a0_1 a0_2 a0_3 a0_4 a0_5 a1 = some (r1, r2, r3, r4, r5, r6, r7)) :
  Calls Try.prog 32 #[.agg #[.bool a0_0, .bool a0_1, .bool a0_2, .bool a0_3, .bool a0_4, .int .i64 a0_5], .int .i64 a1] w fun e w' => e = .returned (.tuple #[.agg #[.bool r1, .bool r2, .bool r3, .bool r4, .bool r5, .int .i64 r6], .int .i64 r7]) ∧ Below w.heap.size w w' := by
 have hu23 := Try.underlying23
 have HB := jA (Below.refl w.heap.size w)
 have H := h
 unfold impl_GiveInput.f at H
 clear h
 replace H := jC.mp H
 obtain ⟨t685, A30, H⟩ := H
 try dsimp only at H
 have A3 := jA A30
 clear A30
 by_cases c4 : t685 = true
 ·subst c4
  rw [if_pos rfl] at H
  replace H := jC.mp H
  obtain ⟨⟨t686, t687, t688, t689, t690, t691, t692⟩, A50, H⟩ := H
  try dsimp only at H
  have A5 := jA A50
  clear A50
  simp only [jH, jK] at H
  obtain ⟨rfl, rfl, rfl, rfl, rfl, rfl, rfl⟩ := H
  go_enter Try.func32, Try.ntmps32
  go_wp2_with (first | ((with_reducible refine jJ (N := 2) rfl ?_); refine zE 2 #[.bool a0_0, .bool a0_1, .bool a0_2, .bool a0_3, .bool a0_4, .int .i64 a0_5] 23 ?_; intro gb683 hg w6 hbox hb; have BK683 := jA (hbox); have GW683 := zg0 hg HB; have GE683 := zg0 hg HB; replace HB := zS0 HB hb; clear hb hbox hg) | ((with_reducible refine jJ (N := 4) rfl ?_); refine zE 4 #[.bool false, .bool false, .bool false, .bool false, .bool false, .int .i64 0] 23 ?_; intro gb684 hg w7 hbox hb; have BK684 := jA (hbox); have GW684 := zg1 hg HB GE683; have GE684 := zg1 hg HB GE683; replace HB := zS1 HB GE683 hb; have NB683_684 := zn hg BK683; replace BK683 := zB BK683 hb; have NB684_683 := jA NB683_684.out.symm; clear hb hbox hg; have hnb8 := NB683_684.out; have hnc8 := NB684_683.out; have hcz9 := zc6 BK683) | ((with_reducible refine jG (f := 27) rfl ?_); refine zL (some 7) Try.func27 #[.agg #[.bool a0_0, .bool a0_1, .bool a0_2, .bool a0_3, .bool a0_4, .int .i64 a0_5]] ?_; (with_reducible refine (impl_IsSound.calls a0_0 a0_1 a0_2 a0_3 a0_4 a0_5 true _ A3.out).mono ?_); rintro e w10 ⟨rfl, hb⟩; refine ⟨_, rfl, ?_⟩; replace BK683 := zB BK683 hb; replace BK684 := zB BK684 hb; replace HB := zS2 HB GE683 GE684 hb; clear hb; have hcz11 := zc6 BK683) | ((with_reducible refine jG (f := 67) rfl ?_); refine zL (some 12) Try.func67 #[.agg #[.bool a0_0, .bool a0_1, .bool a0_2, .bool a0_3, .bool a0_4, .int .i64 a0_5], .int .i64 a1] ?_; (with_reducible refine (impl_giveInput.calls a0_0 a0_1 a0_2 a0_3 a0_4 a0_5 a1 t686 t687 t688 t689 t690 t691 t692 _ A5.out).mono ?_); rintro e w12 ⟨rfl, hb⟩; refine ⟨_, rfl, ?_⟩; replace BK683 := zB BK683 hb; replace BK684 := zB BK684 hb; replace HB := zS2 HB GE683 GE684 hb; clear hb; have hcz13 := zc6 BK684))
  refine jQ (results_ct rfl _ _ gb684 23 #[.bool t686, .bool t687, .bool t688, .bool t689, .bool t690, .int .i64 t691] (0, 0) _ rfl (zP0 BK684) Try.underlying23 rfl zr) rfl ?_
  exact ⟨ze, zb2 HB GE683 GE684⟩
 ·replace c4 := Bool.eq_false_iff.mpr c4
  subst c4
  rw [if_neg zfalse] at H
  simp only [jH, jK] at H
  obtain ⟨rfl, rfl, rfl, rfl, rfl, rfl, rfl⟩ := H
  go_enter Try.func32, Try.ntmps32
  go_wp2_with (first | ((with_reducible refine jJ (N := 2) rfl ?_); refine zE 2 #[.bool a0_0, .bool a0_1, .bool a0_2, .bool a0_3, .bool a0_4, .int .i64 a0_5] 23 ?_; intro gb683 hg w14 hbox hb; have BK683 := jA (hbox); have GW683 := zg0 hg HB; have GE683 := zg0 hg HB; replace HB := zS0 HB hb; clear hb hbox hg) | ((with_reducible refine jJ (N := 4) rfl ?_); refine zE 4 #[.bool false, .bool false, .bool false, .bool false, .bool false, .int .i64 0] 23 ?_; intro gb684 hg w15 hbox hb; have BK684 := jA (hbox); have GW684 := zg1 hg HB GE683; have GE684 := zg1 hg HB GE683; replace HB := zS1 HB GE683 hb; have NB683_684 := zn hg BK683; replace BK683 := zB BK683 hb; have NB684_683 := jA NB683_684.out.symm; clear hb hbox hg; have hnb16 := NB683_684.out; have hnc16 := NB684_683.out; have hcz17 := zc6 BK683) | ((with_reducible refine jG (f := 27) rfl ?_); refine zL (some 7) Try.func27 #[.agg #[.bool a0_0, .bool a0_1, .bool a0_2, .bool a0_3, .bool a0_4, .int .i64 a0_5]] ?_; (with_reducible refine (impl_IsSound.calls a0_0 a0_1 a0_2 a0_3 a0_4 a0_5 false _ A3.out).mono ?_); rintro e w18 ⟨rfl, hb⟩; refine ⟨_, rfl, ?_⟩; replace BK683 := zB BK683 hb; replace BK684 := zB BK684 hb; replace HB := zS2 HB GE683 GE684 hb; clear hb; have hcz19 := zc6 BK684))
  refine jQ (results_ct rfl _ _ gb684 23 #[.bool false, .bool false, .bool false, .bool false, .bool false, .int .i64 0] (0, 0) _ rfl (zP0 BK684) Try.underlying23 rfl zr) rfl ?_
  exact ⟨ze, zb2 HB GE683 GE684⟩

end Go.Proofs.Ythieppjmjgijfaa.PFnProofs
