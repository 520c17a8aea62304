/- Functions and contracts that FnExactCanFire reaches (6 of 12). -/
import Derived.Test.YthieppjmjgijfaaQFnExactCanFirex4
namespace Go.Proofs.Ythieppjmjgijfaa.PFnExactCanFire
open Go.RowKit Go.Proofs.YthieppjmjgijfaaW.PrintWords Go.Proofs.YthieppjmjgijfaaW.PrintLast Go.Proofs.YthieppjmjgijfaaW.PrintMore
attribute [local go_sem] max2_int min2_int max_two min_two max_three min_three max_four min_four   -- for this text's walks alone
set_option linter.unusedVariables false
set_option linter.unusedSimpArgs false
open Go.Proofs.YthieppjmjgijfaaX

/-! ### impl_reachedFrom: function 66 -/
def impl_reachedFrom.l0 : Nat → List Int → List Bool → Int → Int → Option (List Int)
 | 0, _, _, _, _ => none
 | k + 1, x5, x16, x17, x18 => if x18 < x17 then (if 0 ≤ x18 then (if x18 < (x16.length : Int) then (if rdOf false x16 x18 = true then (if x5.length < 17592186044416 then (impl_reachedFrom.l0 k (x5 ++ [x18]) x16 x17 (wrap64 (x18 + 1))) else (none)) else (impl_reachedFrom.l0 k x5 x16 x17 (wrap64 (x18 + 1)))) else (none)) else (none)) else (some x5)
def impl_reachedFrom.f (k : Nat) (a0_0 : Bool) (a0_1 : Bool) (a0_2 : Bool) (a0_3 : Bool) (a0_4 : Bool) (a0_5 : Int) (l1 : List Int) : Option (List Int) := (impl_shortest.f k a0_0 a0_1 a0_2 a0_3 a0_4 a0_5 l1).bind fun bt205 => (impl_reachedFrom.l0 k ([] : List Int) bt205.2 (bt205.2.length : Int) 0)
theorem impl_reachedFrom.mono_l : ∀ k, (∀ y0 y1 y2 y3, LeO (impl_reachedFrom.l0 k y0 y1 y2 y3) (impl_reachedFrom.l0 (k + 1) y0 y1 y2 y3))
 | 0 => fun _ _ _ _ r h => by simp [impl_reachedFrom.l0] at h
 | k + 1 => by
  have ih0 := impl_reachedFrom.mono_l k
  ·intro y0 y1 y2 y3
   unfold impl_reachedFrom.l0
   repeat' first
   | (with_reducible exact ih0 _ _ _ _)
   | (with_reducible exact impl_shortest.mono _ _ _ _ _ _ _ _)
   | (with_reducible exact LeO.refl _)
   | (with_reducible exact LeO.none _)
   | (with_reducible refine LeO.ite ?_ ?_)
   | (with_reducible refine LeO.bind ?_ (fun _ => ?_))
   | exact ih0 _ _ _ _
   | exact impl_shortest.mono _ _ _ _ _ _ _ _
   | exact LeO.none _
   | refine LeO.ite ?_ ?_
   | refine LeO.bind ?_ (fun _ => ?_)
theorem impl_reachedFrom.mono : ∀ a0 a1 a2 a3 a4 a5 a6 k, LeO (impl_reachedFrom.f k a0 a1 a2 a3 a4 a5 a6) (impl_reachedFrom.f (k + 1) a0 a1 a2 a3 a4 a5 a6) := by
 intro a0 a1 a2 a3 a4 a5 a6 k
 have ih0 := impl_reachedFrom.mono_l k
 unfold impl_reachedFrom.f
 repeat' first
   | (with_reducible exact ih0 _ _ _ _)
   | (with_reducible exact impl_shortest.mono _ _ _ _ _ _ _ _)
   | (with_reducible exact LeO.refl _)
   | (with_reducible exact LeO.none _)
   | (with_reducible refine LeO.ite ?_ ?_)
   | (with_reducible refine LeO.bind ?_ (fun _ => ?_))
   | exact ih0 _ _ _ _
   | exact impl_shortest.mono _ _ _ _ _ _ _ _
   | exact LeO.none _
   | refine LeO.ite ?_ ?_
   | refine LeO.bind ?_ (fun _ => ?_)
set_option maxHeartbeats 8000000 in
set_option maxRecDepth 100000 in
theorem impl_reachedFrom.calls (k : Nat) (a0_0 : Bool) (a0_1 : Bool) (a0_2 : Bool) (a0_3 : Bool) (a0_4 : Bool) (a0_5 : Int) (A1 : Option Addr) (c1 : Nat) (l1 : List Int) (r : List Int) (w : World) (hr1 : Kd.C (Kd.int .i64) w A1 l1.length l1) (hc1 : l1.length ≤ c1) (h : impl_reachedFrom.f k a0_0 a0_1 a0_2 a0_3 a0_4 a0_5 l1 = some r) :
  Calls Try.prog 66 #[.agg #[.bool a0_0, .bool a0_1, .bool a0_2, .bool a0_3, .bool a0_4, .int .i64 a0_5], .slice A1 l1.length c1] w fun e w' => ∃ v0_ : Value, e = .returned (v0_) ∧ Kd.R (Kd.int .i64) 2 w' w.heap.size (fun _ => True) v0_ r ∧ Below w.heap.size w w' := by
 have hu23 := Try.underlying23
 have HR1 := jA hr1
 have HC1 := jA hc1
 clear hr1 hc1
 have HB := jA (Below.refl w.heap.size w)
 have H : ((impl_shortest.f k a0_0 a0_1 a0_2 a0_3 a0_4 a0_5 l1).bind fun bt205 => (impl_reachedFrom.l0 k ([] : List Int) bt205.2 (bt205.2.length : Int) 0)) = some r := h
 clear h
 replace H := jR.mp H
 obtain ⟨⟨t205, t208⟩, A30, H⟩ := H
 replace H : (impl_reachedFrom.l0 k ([] : List Int) t208 (t208.length : Int) 0) = some r := H
 have A3 := jA A30
 clear A30
 have H' := jA H
 clear H
 go_enter Try.func66, Try.ntmps66
 go_wp2_with (first | ((with_reducible refine jQ (N := 2) rfl ?_); refine jO ?hg (N := 2) ?hd (cs := #[.bool a0_0, .bool a0_1, .bool a0_2, .bool a0_3, .bool a0_4, .int .i64 a0_5]) (t := 23) ?hr ?_; (case hd => rfl); (case hg => rfl); (case hr => first | (go_simp; done) | (go_simp; rfl)); intro gb204 hg w4 hbox hb; have n0_ := jA (jJ (zb0 HB) hb); have n1_ := jA (hbox); have n2_ := jA ((by rw [hg]; exact (jG (zb0 HB)) : w.heap.size ≤ gb204)); have n3_ := jA ((by rw [hg]; exact (jG (zb0 HB)) : w.heap.size ≤ gb204)); clear HB; have HB := n0_; have BK204 := n1_; have GW204 := n2_; have GE204 := n3_; clear n0_ n1_ n2_ n3_; clear hb hbox hg; have hcz5_0 : w4.cell? ⟨gb204, 0, none⟩ = some (.bool a0_0) := (jC BK204.out 0).trans rfl; have hcz5_1 : w4.cell? ⟨gb204, 1, none⟩ = some (.bool a0_1) := (jC BK204.out 1).trans rfl; have hcz5_2 : w4.cell? ⟨gb204, 2, none⟩ = some (.bool a0_2) := (jC BK204.out 2).trans rfl; have hcz5_3 : w4.cell? ⟨gb204, 3, none⟩ = some (.bool a0_3) := (jC BK204.out 3).trans rfl; have hcz5_4 : w4.cell? ⟨gb204, 4, none⟩ = some (.bool a0_4) := (jC BK204.out 4).trans rfl; have hcz5_5 : w4.cell? ⟨gb204, 5, none⟩ = some (.int .i64 a0_5) := (jC BK204.out 5).trans rfl; have hfz5_0 := jB BK204.out 0; have hfz5_1 := jB BK204.out 1; have hfz5_2 := jB BK204.out 2; have hfz5_3 := jB BK204.out 3; have hfz5_4 := jB BK204.out 4; have hfz5_5 := jB BK204.out 5) | ((with_reducible refine jZ (f := 69) rfl ?_); refine goesL_ (some 13) rfl rfl Try.func69 zr rfl #[.agg #[.bool a0_0, .bool a0_1, .bool a0_2, .bool a0_3, .bool a0_4, .int .i64 a0_5], .slice A1 l1.length c1] rfl zm ?_; (with_reducible refine (impl_shortest.calls k a0_0 a0_1 a0_2 a0_3 a0_4 a0_5 _ _ l1 t205 t208 _ ?side1 ?side2 A3.out).mono ?_); (case side1 => exact zs HR1 HB); (case side2 => exact HC1.out); rintro e w6 ⟨v206, v209, rfl, ho0, ho1, hb⟩; refine ⟨_, rfl, ?_⟩; have n0_ := jA (Kd.S_lower ho0 (jG (zb1 HB GE204))); have n1_ := jA (Kd.R_lower ho1 (jG (zb1 HB GE204))); have n2_ := jA (jS (g := gb204) (o := .cells #[.bool a0_0, .bool a0_1, .bool a0_2, .bool a0_3, .bool a0_4, .int .i64 a0_5] 23 (0, 0)) (zk BK204) hb); have n3_ := jA (jJ (zb1 HB GE204) hb); clear BK204; clear HB; have HO207 := n0_; have HO210 := n1_; have BK204 := n2_; have HB := n3_; clear n0_ n1_ n2_ n3_; (try clear hb); (try clear hb2); (try clear hk); (try clear hi); (try clear ho0); (try clear ho1); obtain ⟨Ao7, co7, eo7⟩ := Kd.R_slice HO210.out; subst eo7))
 go_loopg [5, 18] k (fun kq v5 v18 w' => ∃ (x5_1 : List Int) (x18_1 : Int), v18 = .int .i64 x18_1 ∧ Aside0 (impl_reachedFrom.l0 kq x5_1 t208 (t208.length : Int) x18_1 = some r) ∧ Aside0 (kq ≤ k) ∧ Aside0 (Kd.R (Kd.int .i64) 2 w' w.heap.size (fun _ => True) v5 x5_1) ∧ Aside0 (Kd.R Kd.bool 4 w' w.heap.size (fun _ => True) (.slice Ao7 t208.length co7) t208) ∧ Aside0 (w'.heap[gb204]? = some (.cells #[.bool a0_0, .bool a0_1, .bool a0_2, .bool a0_3, .bool a0_4, .int .i64 a0_5] 23 (0, 0))) ∧ Aside0 (Below w.heap.size w w'))
 case atStart => exact ⟨(([] : List Int)), (0), zz, H', ⟨Nat.le_refl _⟩, ⟨by first | exact Kd.R_nil _ _ _ _ _ | exact Kd.N_nil _ _ _ _ _ | exact Kd.V_nil _ _ _ _ _ | exact Kd.Q_nil _ _ _ _ _ | exact Kd.S_nil _ _ _ _ _⟩, ⟨by (with_reducible repeat (first | apply jd | apply jc | apply jf)); exact HO210.out⟩, ⟨by (with_reducible repeat (first | refine jD ?_ _ | refine jF ?_ | refine jE ?_ _)); exact BK204.out⟩, ⟨zb1 HB GE204⟩⟩
 case round =>
  clear H'
  try clear c1
  try clear p2
  try clear c6
  try clear hcz5_0
  try clear hcz5_1
  try clear hcz5_2
  try clear hcz5_3
  try clear hcz5_4
  try clear hcz5_5
  try clear hfz5_0
  try clear hfz5_1
  try clear hfz5_2
  try clear hfz5_3
  try clear hfz5_4
  try clear hfz5_5
  obtain ⟨x5_1, x18_1, rfl, HA, HK1, HO_5, HO_16, BK204, HB⟩ := hrel
  cases gk with
  | zero => exact absurd HA.out (by simp [impl_reachedFrom.l0])
  | succ k1 =>
   have H := HA.out
   clear HA
   simp only [impl_reachedFrom.l0] at H
   by_cases c8 : x18_1 < (t208.length : Int)
   ·rw [if_pos c8] at H
    have c8b0 : decide (x18_1 < (t208.length : Int)) = true := jT c8
    clear c8
    by_cases c9 : 0 ≤ x18_1
    ·rw [if_pos c9] at H
     have c9b0 : decide (0 ≤ x18_1) = true := jT c9
     clear c9
     by_cases c10 : x18_1 < (t208.length : Int)
     ·rw [if_pos c10] at H
      have c10b0 : decide (x18_1 < (t208.length : Int)) = true := jT c10
      clear c10
      obtain ⟨bq11, hbq11⟩ : ∃ b_ : Bool, b_ = (rdOf false t208 x18_1) := ⟨_, rfl⟩
      replace H : (if bq11 = true then (if x5_1.length < 17592186044416 then (impl_reachedFrom.l0 k1 (x5_1 ++ [x18_1]) t208 (t208.length : Int) (wrap64 (x18_1 + 1))) else (none)) else (impl_reachedFrom.l0 k1 x5_1 t208 (t208.length : Int) (wrap64 (x18_1 + 1)))) = some r := by rw [← hbq11] at H; exact H
      have Nbq11 := jA hbq11
      clear hbq11
      by_cases c12 : bq11 = true
      ·subst c12
       have H1 : (if x5_1.length < 17592186044416 then (impl_reachedFrom.l0 k1 (x5_1 ++ [x18_1]) t208 (t208.length : Int) (wrap64 (x18_1 + 1))) else (none)) = some r := by rw [if_pos rfl] at H; exact H
       clear H
       have H := H1
       clear H1
       by_cases c13 : x5_1.length < 17592186044416
       ·rw [if_pos c13] at H
        have LMc13 := jA c13
        clear c13
        obtain ⟨y212, hy212⟩ : ∃ y_ : List Int, y_ = (x5_1 ++ [x18_1]) := ⟨_, rfl⟩
        replace H : (impl_reachedFrom.l0 k1 y212 t208 (t208.length : Int) (wrap64 (x18_1 + 1))) = some r := by first | (rw [hy212]; with_reducible exact H) | (have H2_ := (Option.bind_some _ _).symm.trans H; rw [hy212]; with_reducible exact H2_) | (have H2_ := (Option.bind_some _ _).symm.trans H; with_reducible exact H2_) | with_reducible exact H | (rw [hy212]; exact H) | exact H
        have Ny212 := jA hy212
        clear hy212
        have H' := jA H
        clear H
        have p211 : 0 ≤ (x18_1 : Int) := jH za
        have q211 : x18_1 < (t208.length : Int) := jH za
        obtain ⟨ad211, e211, hx211_0⟩ := Kd.at_bool (je HO_16.out).2.2 x18_1 p211 q211
        (try rw [← Nbq11.out] at hx211_0)
        cases e211
        replace p211 := eq_true p211
        replace q211 := eq_true q211
        go_wp2_with (first | ((with_reducible refine gate_builtin (b := .append) (xs := #[.tmp 24, .tmp 26]) rfl ?_); at_builtin; refine Kd.R_append (Kd.int .i64) (w0 := w) w.heap.size rfl (.tmp 24) (.tmp 26) 35 2 (.int .i64 0) 8 rfl Try.underlying35 info2 rfl (by decide) (by omega) u5 x5_1 x18_1 [.int .i64 x18_1] (fun _ => True) (fun _ => False) rfl rfl ?aP (fun _ hk => hk.elim) ?aF ?aO ?aB ?aS ?aL ?_; (case aP => exact rfl); (case aB => exact (zb1 HB GE204)); (case aF => exact (fun _ _ => trivial)); (case aO => exact (zo HO_5)); (case aS => exact (jG (zb1 HB GE204))); (case aL => have := LMc13.out; omega); intro v213 w14 ho hb hg hat; rw [← Ny212.out] at ho; have n0_ := jA (Kd.R_over' (zo HO_16) (Kd.R_typed (zo HO_5)) (by decide) hg); have n1_ := jA (blk_grown (g := gb204) (o := .cells #[.bool a0_0, .bool a0_1, .bool a0_2, .bool a0_3, .bool a0_4, .int .i64 a0_5] 23 (0, 0)) (zk BK204) hg (Kd.R_ne HO_5.out BK204.out (by decide))); have n2_ := jA (hb); have n3_ := jA (ho); clear HO_16; clear BK204; clear HB; clear HO_5; have HO_16 := n0_; have BK204 := n1_; have HB := n2_; have HO214 := n3_; clear n0_ n1_ n2_ n3_; clear ho hb hg hat))
        go_roundg k1
        case measure => have := HK1.out; omega
        case rel => exact ⟨(y212), (wrap64 (x18_1 + 1)), zz, H', ⟨by have := HK1.out; omega⟩, ⟨by (with_reducible repeat (first | apply jd | apply jc | apply jf)); exact HO214.out⟩, ⟨by (with_reducible repeat (first | apply jd | apply jc | apply jf)); exact HO_16.out⟩, ⟨by (with_reducible repeat (first | refine jD ?_ _ | refine jF ?_ | refine jE ?_ _)); exact BK204.out⟩, ⟨zb1 HB GE204⟩⟩
       ·rw [if_neg c13] at H
        exact absurd H (by simp)
      ·replace c12 := Bool.eq_false_iff.mpr c12
       subst c12
       have H1 : (impl_reachedFrom.l0 k1 x5_1 t208 (t208.length : Int) (wrap64 (x18_1 + 1))) = some r := by rw [if_neg (show ¬ (false = true) by decide)] at H; exact H
       clear H
       have H := H1
       clear H1
       have H' := jA H
       clear H
       have p211 : 0 ≤ (x18_1 : Int) := jH za
       have q211 : x18_1 < (t208.length : Int) := jH za
       obtain ⟨ad211, e211, hx211_0⟩ := Kd.at_bool (je HO_16.out).2.2 x18_1 p211 q211
       (try rw [← Nbq11.out] at hx211_0)
       cases e211
       replace p211 := eq_true p211
       replace q211 := eq_true q211
       go_wp2
       go_roundg k1
       case measure => have := HK1.out; omega
       case rel => exact ⟨(x5_1), (wrap64 (x18_1 + 1)), zz, H', ⟨by have := HK1.out; omega⟩, ⟨by (with_reducible repeat (first | apply jd | apply jc | apply jf)); exact HO_5.out⟩, ⟨by (with_reducible repeat (first | apply jd | apply jc | apply jf)); exact HO_16.out⟩, ⟨by (with_reducible repeat (first | refine jD ?_ _ | refine jF ?_ | refine jE ?_ _)); exact BK204.out⟩, ⟨zb1 HB GE204⟩⟩
     ·rw [if_neg c10] at H
      exact absurd H (by simp)
    ·rw [if_neg c9] at H
     exact absurd H (by simp)
   ·rw [if_neg c8] at H
    have c8b0 : decide (x18_1 < (t208.length : Int)) = false := jh c8
    clear c8
    obtain rfl := jV H
    go_wp2
    go_ret
    exact ⟨_, by first | rfl | (simp [errW_none, errW_some] <;> rfl) | (simp [*, errW_none, errW_some] <;> rfl), by (with_reducible repeat (first | apply jd | apply jc | apply jf)); exact HO_5.out, zb1 HB GE204⟩

/-! ### impl_mayFire: function 89 -/
def impl_mayFire.f (a0_0 : Bool) (a0_1 : Bool) (a0_2 : Bool) (a0_3 : Bool) (a0_4 : Bool) (a0_5 : Int) : Option (Bool) := if a0_2 = true then (some (!a0_3)) else (some false)
set_option maxHeartbeats 8000000 in
set_option maxRecDepth 100000 in
theorem impl_mayFire.calls (a0_0 : Bool) (a0_1 : Bool) (a0_2 : Bool) (a0_3 : Bool) (a0_4 : Bool) (a0_5 : Int) (r : Bool) (w : World) (h : impl_mayFire.f a0_0 a0_1 a0_2 a0_3 a0_4 a0_5 = some r) :
  Calls Try.prog 89 #[.agg #[.bool a0_0, .bool a0_1, .bool a0_2, .bool a0_3, .bool a0_4, .int .i64 a0_5]] w fun e w' => e = .returned (.bool r) ∧ Below w.heap.size w w' := by
 have hu23 := Try.underlying23
 have HB := jA (Below.refl w.heap.size w)
 have H : (if a0_2 = true then (some (!a0_3)) else (some false)) = some r := h
 clear h
 by_cases c2 : a0_2 = true
 ·subst c2
  have H1 : (some (!a0_3)) = some r := by rw [if_pos rfl] at H; exact H
  clear H
  have H := H1
  clear H1
  obtain rfl := jV H
  go_enter Try.func89, Try.ntmps89
  go_wp2_with (first | ((with_reducible refine jQ (N := 1) rfl ?_); refine jO ?hg (N := 1) ?hd (cs := #[.bool a0_0, .bool a0_1, .bool true, .bool a0_3, .bool a0_4, .int .i64 a0_5]) (t := 23) ?hr ?_; (case hd => rfl); (case hg => rfl); (case hr => first | (go_simp; done) | (go_simp; rfl)); intro gb215 hg w3 hbox hb; have n0_ := jA (jJ (zb0 HB) hb); have n1_ := jA (hbox); have n2_ := jA ((by rw [hg]; exact (jG (zb0 HB)) : w.heap.size ≤ gb215)); have n3_ := jA ((by rw [hg]; exact (jG (zb0 HB)) : w.heap.size ≤ gb215)); clear HB; have HB := n0_; have BK215 := n1_; have GW215 := n2_; have GE215 := n3_; clear n0_ n1_ n2_ n3_; clear hb hbox hg; have hcz4_0 : w3.cell? ⟨gb215, 0, none⟩ = some (.bool a0_0) := (jC BK215.out 0).trans rfl; have hcz4_1 : w3.cell? ⟨gb215, 1, none⟩ = some (.bool a0_1) := (jC BK215.out 1).trans rfl; have hcz4_2 : w3.cell? ⟨gb215, 2, none⟩ = some (.bool true) := (jC BK215.out 2).trans rfl; have hcz4_3 : w3.cell? ⟨gb215, 3, none⟩ = some (.bool a0_3) := (jC BK215.out 3).trans rfl; have hcz4_4 : w3.cell? ⟨gb215, 4, none⟩ = some (.bool a0_4) := (jC BK215.out 4).trans rfl; have hcz4_5 : w3.cell? ⟨gb215, 5, none⟩ = some (.int .i64 a0_5) := (jC BK215.out 5).trans rfl; have hfz4_0 := jB BK215.out 0; have hfz4_1 := jB BK215.out 1; have hfz4_2 := jB BK215.out 2; have hfz4_3 := jB BK215.out 3; have hfz4_4 := jB BK215.out 4; have hfz4_5 := jB BK215.out 5))
  go_ret
  exact ⟨by first | rfl | (simp [errW_none, errW_some] <;> rfl) | (simp [*, errW_none, errW_some] <;> rfl), zb1 HB GE215⟩
 ·replace c2 := Bool.eq_false_iff.mpr c2
  subst c2
  have H1 : (some false) = some r := by rw [if_neg (show ¬ (false = true) by decide)] at H; exact H
  clear H
  have H := H1
  clear H1
  obtain rfl := jV H
  go_enter Try.func89, Try.ntmps89
  go_wp2_with (first | ((with_reducible refine jQ (N := 1) rfl ?_); refine jO ?hg (N := 1) ?hd (cs := #[.bool a0_0, .bool a0_1, .bool false, .bool a0_3, .bool a0_4, .int .i64 a0_5]) (t := 23) ?hr ?_; (case hd => rfl); (case hg => rfl); (case hr => first | (go_simp; done) | (go_simp; rfl)); intro gb215 hg w5 hbox hb; have n0_ := jA (jJ (zb0 HB) hb); have n1_ := jA (hbox); have n2_ := jA ((by rw [hg]; exact (jG (zb0 HB)) : w.heap.size ≤ gb215)); have n3_ := jA ((by rw [hg]; exact (jG (zb0 HB)) : w.heap.size ≤ gb215)); clear HB; have HB := n0_; have BK215 := n1_; have GW215 := n2_; have GE215 := n3_; clear n0_ n1_ n2_ n3_; clear hb hbox hg; have hcz6_0 : w5.cell? ⟨gb215, 0, none⟩ = some (.bool a0_0) := (jC BK215.out 0).trans rfl; have hcz6_1 : w5.cell? ⟨gb215, 1, none⟩ = some (.bool a0_1) := (jC BK215.out 1).trans rfl; have hcz6_2 : w5.cell? ⟨gb215, 2, none⟩ = some (.bool false) := (jC BK215.out 2).trans rfl; have hcz6_3 : w5.cell? ⟨gb215, 3, none⟩ = some (.bool a0_3) := (jC BK215.out 3).trans rfl; have hcz6_4 : w5.cell? ⟨gb215, 4, none⟩ = some (.bool a0_4) := (jC BK215.out 4).trans rfl; have hcz6_5 : w5.cell? ⟨gb215, 5, none⟩ = some (.int .i64 a0_5) := (jC BK215.out 5).trans rfl; have hfz6_0 := jB BK215.out 0; have hfz6_1 := jB BK215.out 1; have hfz6_2 := jB BK215.out 2; have hfz6_3 := jB BK215.out 3; have hfz6_4 := jB BK215.out 4; have hfz6_5 := jB BK215.out 5))
  go_ret
  exact ⟨by first | rfl | (simp [errW_none, errW_some] <;> rfl) | (simp [*, errW_none, errW_some] <;> rfl), zb1 HB GE215⟩

/-! ### impl_canFire: function 75 -/
def impl_canFire.l0 : Nat → List Int → Int → Int → Option (Bool)
 | 0, _, _, _ => none
 | k + 1, x9, x10, x11 => if x11 < x10 then (if 0 ≤ x11 then (if x11 < (x9.length : Int) then ((impl_controllerWith.f (rd x9 x11)).bind fun bt221 => ((impl_mayFire.f bt221.1 bt221.2.1 bt221.2.2.1 bt221.2.2.2.1 bt221.2.2.2.2.1 bt221.2.2.2.2.2).bind fun t227 => (if t227 = true then (some true) else (impl_canFire.l0 k x9 x10 (wrap64 (x11 + 1)))))) else (none)) else (none)) else (some false)
def impl_canFire.f (k : Nat) (a0_0 : Bool) (a0_1 : Bool) (a0_2 : Bool) (a0_3 : Bool) (a0_4 : Bool) (a0_5 : Int) (l1 : List Int) : Option (Bool) := (impl_reachedFrom.f k a0_0 a0_1 a0_2 a0_3 a0_4 a0_5 l1).bind fun t217 => (impl_canFire.l0 k t217 (t217.length : Int) 0)
theorem impl_canFire.mono_l : ∀ k, (∀ y0 y1 y2, LeO (impl_canFire.l0 k y0 y1 y2) (impl_canFire.l0 (k + 1) y0 y1 y2))
 | 0 => fun _ _ _ r h => by simp [impl_canFire.l0] at h
 | k + 1 => by
  have ih0 := impl_canFire.mono_l k
  ·intro y0 y1 y2
   unfold impl_canFire.l0
   repeat' first
   | (with_reducible exact ih0 _ _ _)
   | (with_reducible exact impl_reachedFrom.mono _ _ _ _ _ _ _ _)
   | (with_reducible exact LeO.refl _)
   | (with_reducible exact LeO.none _)
   | (with_reducible refine LeO.ite ?_ ?_)
   | (with_reducible refine LeO.bind ?_ (fun _ => ?_))
   | exact ih0 _ _ _
   | exact impl_reachedFrom.mono _ _ _ _ _ _ _ _
   | exact LeO.none _
   | refine LeO.ite ?_ ?_
   | refine LeO.bind ?_ (fun _ => ?_)
theorem impl_canFire.mono : ∀ a0 a1 a2 a3 a4 a5 a6 k, LeO (impl_canFire.f k a0 a1 a2 a3 a4 a5 a6) (impl_canFire.f (k + 1) a0 a1 a2 a3 a4 a5 a6) := by
 intro a0 a1 a2 a3 a4 a5 a6 k
 have ih0 := impl_canFire.mono_l k
 unfold impl_canFire.f
 repeat' first
   | (with_reducible exact ih0 _ _ _)
   | (with_reducible exact impl_reachedFrom.mono _ _ _ _ _ _ _ _)
   | (with_reducible exact LeO.refl _)
   | (with_reducible exact LeO.none _)
   | (with_reducible refine LeO.ite ?_ ?_)
   | (with_reducible refine LeO.bind ?_ (fun _ => ?_))
   | exact ih0 _ _ _
   | exact impl_reachedFrom.mono _ _ _ _ _ _ _ _
   | exact LeO.none _
   | refine LeO.ite ?_ ?_
   | refine LeO.bind ?_ (fun _ => ?_)
set_option maxHeartbeats 8000000 in
set_option maxRecDepth 100000 in
theorem impl_canFire.calls (k : Nat) (a0_0 : Bool) (a0_1 : Bool) (a0_2 : Bool) (a0_3 : Bool) (a0_4 : Bool) (a0_5 : Int) (A1 : Option Addr) (c1 : Nat) (l1 : List Int) (r : Bool) (w : World) (hr1 : Kd.C (Kd.int .i64) w A1 l1.length l1) (hc1 : l1.length ≤ c1) (h : impl_canFire.f k a0_0 a0_1 a0_2 a0_3 a0_4 a0_5 l1 = some r) :
  Calls Try.prog 75 #[.agg #[.bool a0_0, .bool a0_1, .bool a0_2, .bool a0_3, .bool a0_4, .int .i64 a0_5], .slice A1 l1.length c1] w fun e w' => e = .returned (.bool r) ∧ Below w.heap.size w w' := by
 have hu23 := Try.underlying23
 have HR1 := jA hr1
 have HC1 := jA hc1
 clear hr1 hc1
 have HB := jA (Below.refl w.heap.size w)
 have H : ((impl_reachedFrom.f k a0_0 a0_1 a0_2 a0_3 a0_4 a0_5 l1).bind fun t217 => (impl_canFire.l0 k t217 (t217.length : Int) 0)) = some r := h
 clear h
 replace H := jR.mp H
 obtain ⟨t217, A30, H⟩ := H
 replace H : (impl_canFire.l0 k t217 (t217.length : Int) 0) = some r := H
 have A3 := jA A30
 clear A30
 have H' := jA H
 clear H
 go_enter Try.func75, Try.ntmps75
 go_wp2_with (first | ((with_reducible refine jQ (N := 2) rfl ?_); refine jO ?hg (N := 2) ?hd (cs := #[.bool a0_0, .bool a0_1, .bool a0_2, .bool a0_3, .bool a0_4, .int .i64 a0_5]) (t := 23) ?hr ?_; (case hd => rfl); (case hg => rfl); (case hr => first | (go_simp; done) | (go_simp; rfl)); intro gb216 hg w4 hbox hb; have n0_ := jA (jJ (zb0 HB) hb); have n1_ := jA (hbox); have n2_ := jA ((by rw [hg]; exact (jG (zb0 HB)) : w.heap.size ≤ gb216)); have n3_ := jA ((by rw [hg]; exact (jG (zb0 HB)) : w.heap.size ≤ gb216)); clear HB; have HB := n0_; have BK216 := n1_; have GW216 := n2_; have GE216 := n3_; clear n0_ n1_ n2_ n3_; clear hb hbox hg; have hcz5_0 : w4.cell? ⟨gb216, 0, none⟩ = some (.bool a0_0) := (jC BK216.out 0).trans rfl; have hcz5_1 : w4.cell? ⟨gb216, 1, none⟩ = some (.bool a0_1) := (jC BK216.out 1).trans rfl; have hcz5_2 : w4.cell? ⟨gb216, 2, none⟩ = some (.bool a0_2) := (jC BK216.out 2).trans rfl; have hcz5_3 : w4.cell? ⟨gb216, 3, none⟩ = some (.bool a0_3) := (jC BK216.out 3).trans rfl; have hcz5_4 : w4.cell? ⟨gb216, 4, none⟩ = some (.bool a0_4) := (jC BK216.out 4).trans rfl; have hcz5_5 : w4.cell? ⟨gb216, 5, none⟩ = some (.int .i64 a0_5) := (jC BK216.out 5).trans rfl; have hfz5_0 := jB BK216.out 0; have hfz5_1 := jB BK216.out 1; have hfz5_2 := jB BK216.out 2; have hfz5_3 := jB BK216.out 3; have hfz5_4 := jB BK216.out 4; have hfz5_5 := jB BK216.out 5) | ((with_reducible refine jZ (f := 66) rfl ?_); refine goesL_ (some 9) rfl rfl Try.func66 zr rfl #[.agg #[.bool a0_0, .bool a0_1, .bool a0_2, .bool a0_3, .bool a0_4, .int .i64 a0_5], .slice A1 l1.length c1] rfl zm ?_; (with_reducible refine (impl_reachedFrom.calls k a0_0 a0_1 a0_2 a0_3 a0_4 a0_5 _ _ l1 t217 _ ?side1 ?side2 A3.out).mono ?_); (case side1 => exact zs HR1 HB); (case side2 => exact HC1.out); rintro e w6 ⟨v218, rfl, ho0, hb⟩; refine ⟨_, rfl, ?_⟩; have n0_ := jA (Kd.R_lower ho0 (jG (zb1 HB GE216))); have n1_ := jA (jS (g := gb216) (o := .cells #[.bool a0_0, .bool a0_1, .bool a0_2, .bool a0_3, .bool a0_4, .int .i64 a0_5] 23 (0, 0)) (zk BK216) hb); have n2_ := jA (jJ (zb1 HB GE216) hb); clear BK216; clear HB; have HO219 := n0_; have BK216 := n1_; have HB := n2_; clear n0_ n1_ n2_; (try clear hb); (try clear hb2); (try clear hk); (try clear hi); (try clear ho0); obtain ⟨Ao7, co7, eo7⟩ := Kd.R_slice HO219.out; subst eo7))
 go_loopg [11] k (fun kq v11 w' => ∃ (x11_1 : Int), v11 = .int .i64 x11_1 ∧ Aside0 (impl_canFire.l0 kq t217 (t217.length : Int) x11_1 = some r) ∧ Aside0 (kq ≤ k) ∧ Aside0 (Kd.R (Kd.int .i64) 2 w' w.heap.size (fun _ => True) (.slice Ao7 t217.length co7) t217) ∧ Aside0 (w'.heap[gb216]? = some (.cells #[.bool a0_0, .bool a0_1, .bool a0_2, .bool a0_3, .bool a0_4, .int .i64 a0_5] 23 (0, 0))) ∧ Aside0 (Below w.heap.size w w'))
 case atStart => exact ⟨(0), zz, H', ⟨Nat.le_refl _⟩, ⟨by (with_reducible repeat (first | apply jd | apply jc | apply jf)); exact HO219.out⟩, ⟨by (with_reducible repeat (first | refine jD ?_ _ | refine jF ?_ | refine jE ?_ _)); exact BK216.out⟩, ⟨zb1 HB GE216⟩⟩
 case round =>
  clear H'
  try clear c1
  try clear p2
  try clear c6
  try clear c7
  try clear hcz5_0
  try clear hcz5_1
  try clear hcz5_2
  try clear hcz5_3
  try clear hcz5_4
  try clear hcz5_5
  try clear hfz5_0
  try clear hfz5_1
  try clear hfz5_2
  try clear hfz5_3
  try clear hfz5_4
  try clear hfz5_5
  obtain ⟨x11_1, rfl, HA, HK1, HO_9, BK216, HB⟩ := hrel
  cases gk with
  | zero => exact absurd HA.out (by simp [impl_canFire.l0])
  | succ k1 =>
   have H := HA.out
   clear HA
   simp only [impl_canFire.l0] at H
   by_cases c8 : x11_1 < (t217.length : Int)
   ·rw [if_pos c8] at H
    have c8b0 : decide (x11_1 < (t217.length : Int)) = true := jT c8
    clear c8
    by_cases c9 : 0 ≤ x11_1
    ·rw [if_pos c9] at H
     have c9b0 : decide (0 ≤ x11_1) = true := jT c9
     clear c9
     by_cases c10 : x11_1 < (t217.length : Int)
     ·rw [if_pos c10] at H
      have c10b0 : decide (x11_1 < (t217.length : Int)) = true := jT c10
      clear c10
      replace H := jR.mp H
      obtain ⟨⟨t221, t222, t223, t224, t225, t226⟩, A110, H⟩ := H
      replace H : ((impl_mayFire.f t221 t222 t223 t224 t225 t226).bind fun t227 => (if t227 = true then (some true) else (impl_canFire.l0 k1 t217 (t217.length : Int) (wrap64 (x11_1 + 1))))) = some r := H
      have A11 := jA A110
      clear A110
      replace H := jR.mp H
      obtain ⟨t227, A120, H⟩ := H
      replace H : (if t227 = true then (some true) else (impl_canFire.l0 k1 t217 (t217.length : Int) (wrap64 (x11_1 + 1)))) = some r := H
      have A12 := jA A120
      clear A120
      by_cases c13 : t227 = true
      ·subst c13
       have H1 : (some true) = some r := by rw [if_pos rfl] at H; exact H
       clear H
       have H := H1
       clear H1
       obtain rfl := jV H
       have p220 : 0 ≤ (x11_1 : Int) := jH za
       have q220 : x11_1 < (t217.length : Int) := jH za
       obtain ⟨ad220, e220, hx220_0⟩ := jg (je HO_9.out).2.2 x11_1 p220 q220
       cases e220
       replace p220 := eq_true p220
       replace q220 := eq_true q220
       go_wp2_with (first | ((with_reducible refine jZ (f := 50) rfl ?_); refine goesL_ (some 16) rfl rfl Try.func50 zr rfl #[.int .i64 (rd t217 x11_1)] rfl zm ?_; (with_reducible refine (impl_controllerWith.calls (rd t217 x11_1) t221 t222 t223 t224 t225 t226 _ A11.out).mono ?_); rintro e w14 ⟨rfl, hb⟩; refine ⟨_, rfl, ?_⟩; have n0_ := jA (ji (zo HO_9) hb); have n1_ := jA (jS (g := gb216) (o := .cells #[.bool a0_0, .bool a0_1, .bool a0_2, .bool a0_3, .bool a0_4, .int .i64 a0_5] 23 (0, 0)) (zk BK216) hb); have n2_ := jA (jJ (zb1 HB GE216) hb); clear HO_9; clear BK216; clear HB; have HO_9 := n0_; have BK216 := n1_; have HB := n2_; clear n0_ n1_ n2_; (try clear hb); (try clear hb2); (try clear hk); (try clear hi)) | ((with_reducible refine jZ (f := 89) rfl ?_); refine goesL_ (some 17) rfl rfl Try.func89 zr rfl #[.agg #[.bool t221, .bool t222, .bool t223, .bool t224, .bool t225, .int .i64 t226]] rfl zm ?_; (with_reducible refine (impl_mayFire.calls t221 t222 t223 t224 t225 t226 true _ A12.out).mono ?_); rintro e w15 ⟨rfl, hb⟩; refine ⟨_, rfl, ?_⟩; have n0_ := jA (ji (zo HO_9) hb); have n1_ := jA (jS (g := gb216) (o := .cells #[.bool a0_0, .bool a0_1, .bool a0_2, .bool a0_3, .bool a0_4, .int .i64 a0_5] 23 (0, 0)) (zk BK216) hb); have n2_ := jA (jJ (zb1 HB GE216) hb); clear HO_9; clear BK216; clear HB; have HO_9 := n0_; have BK216 := n1_; have HB := n2_; clear n0_ n1_ n2_; (try clear hb); (try clear hb2); (try clear hk); (try clear hi)))
       go_ret
       exact ⟨by first | rfl | (simp [errW_none, errW_some] <;> rfl) | (simp [*, errW_none, errW_some] <;> rfl), zb1 HB GE216⟩
      ·replace c13 := Bool.eq_false_iff.mpr c13
       subst c13
       have H1 : (impl_canFire.l0 k1 t217 (t217.length : Int) (wrap64 (x11_1 + 1))) = some r := by rw [if_neg (show ¬ (false = true) by decide)] at H; exact H
       clear H
       have H := H1
       clear H1
       have H' := jA H
       clear H
       have p220 : 0 ≤ (x11_1 : Int) := jH za
       have q220 : x11_1 < (t217.length : Int) := jH za
       obtain ⟨ad220, e220, hx220_0⟩ := jg (je HO_9.out).2.2 x11_1 p220 q220
       cases e220
       replace p220 := eq_true p220
       replace q220 := eq_true q220
       go_wp2_with (first | ((with_reducible refine jZ (f := 50) rfl ?_); refine goesL_ (some 16) rfl rfl Try.func50 zr rfl #[.int .i64 (rd t217 x11_1)] rfl zm ?_; (with_reducible refine (impl_controllerWith.calls (rd t217 x11_1) t221 t222 t223 t224 t225 t226 _ A11.out).mono ?_); rintro e w16 ⟨rfl, hb⟩; refine ⟨_, rfl, ?_⟩; have n0_ := jA (ji (zo HO_9) hb); have n1_ := jA (jS (g := gb216) (o := .cells #[.bool a0_0, .bool a0_1, .bool a0_2, .bool a0_3, .bool a0_4, .int .i64 a0_5] 23 (0, 0)) (zk BK216) hb); have n2_ := jA (jJ (zb1 HB GE216) hb); clear HO_9; clear BK216; clear HB; have HO_9 := n0_; have BK216 := n1_; have HB := n2_; clear n0_ n1_ n2_; (try clear hb); (try clear hb2); (try clear hk); (try clear hi)) | ((with_reducible refine jZ (f := 89) rfl ?_); refine goesL_ (some 17) rfl rfl Try.func89 zr rfl #[.agg #[.bool t221, .bool t222, .bool t223, .bool t224, .bool t225, .int .i64 t226]] rfl zm ?_; (with_reducible refine (impl_mayFire.calls t221 t222 t223 t224 t225 t226 false _ A12.out).mono ?_); rintro e w17 ⟨rfl, hb⟩; refine ⟨_, rfl, ?_⟩; have n0_ := jA (ji (zo HO_9) hb); have n1_ := jA (jS (g := gb216) (o := .cells #[.bool a0_0, .bool a0_1, .bool a0_2, .bool a0_3, .bool a0_4, .int .i64 a0_5] 23 (0, 0)) (zk BK216) hb); have n2_ := jA (jJ (zb1 HB GE216) hb); clear HO_9; clear BK216; clear HB; have HO_9 := n0_; have BK216 := n1_; have HB := n2_; clear n0_ n1_ n2_; (try clear hb); (try clear hb2); (try clear hk); (try clear hi)))
       go_roundg k1
       case measure => have := HK1.out; omega
       case rel => exact ⟨(wrap64 (x11_1 + 1)), zz, H', ⟨by have := HK1.out; omega⟩, ⟨by (with_reducible repeat (first | apply jd | apply jc | apply jf)); exact HO_9.out⟩, ⟨by (with_reducible repeat (first | refine jD ?_ _ | refine jF ?_ | refine jE ?_ _)); exact BK216.out⟩, ⟨zb1 HB GE216⟩⟩
     ·rw [if_neg c10] at H
      exact absurd H (by simp)
    ·rw [if_neg c9] at H
     exact absurd H (by simp)
   ·rw [if_neg c8] at H
    have c8b0 : decide (x11_1 < (t217.length : Int)) = false := jh c8
    clear c8
    obtain rfl := jV H
    go_wp2
    go_ret
    exact ⟨by first | rfl | (simp [errW_none, errW_some] <;> rfl) | (simp [*, errW_none, errW_some] <;> rfl), zb1 HB GE216⟩

/-! ### impl_CanFire: function 37 -/
def impl_CanFire.f (k : Nat) (a0_0 : Bool) (a0_1 : Bool) (a0_2 : Bool) (a0_3 : Bool) (a0_4 : Bool) (a0_5 : Int) (l1 : List Int) : Option (Bool × Int) := (impl_IsSound.f a0_0 a0_1 a0_2 a0_3 a0_4 a0_5).bind fun t229 => (if t229 = true then ((impl_isHand.f k l1).bind fun t230 => (if t230 = true then ((impl_canFire.f k a0_0 a0_1 a0_2 a0_3 a0_4 a0_5 l1).bind fun t231 => (some (t231, 0))) else (some (false, 1)))) else (some (false, 1)))
theorem impl_CanFire.mono : ∀ a0 a1 a2 a3 a4 a5 a6 k, LeO (impl_CanFire.f k a0 a1 a2 a3 a4 a5 a6) (impl_CanFire.f (k + 1) a0 a1 a2 a3 a4 a5 a6) := by
 intro a0 a1 a2 a3 a4 a5 a6 k
 unfold impl_CanFire.f
 repeat' first
   | (with_reducible exact impl_canFire.mono _ _ _ _ _ _ _ _)
   | (with_reducible exact impl_isHand.mono _ _)
   | (with_reducible exact LeO.refl _)
   | (with_reducible exact LeO.none _)
   | (with_reducible refine LeO.ite ?_ ?_)
   | (with_reducible refine LeO.bind ?_ (fun _ => ?_))
   | exact impl_canFire.mono _ _ _ _ _ _ _ _
   | exact impl_isHand.mono _ _
   | exact LeO.none _
   | refine LeO.ite ?_ ?_
   | refine LeO.bind ?_ (fun _ => ?_)
set_option maxHeartbeats 8000000 in
set_option maxRecDepth 100000 in
theorem impl_CanFire.calls (k : Nat) (a0_0 : Bool) (a0_1 : Bool) (a0_2 : Bool) (a0_3 : Bool) (a0_4 : Bool) (a0_5 : Int) (A1 : Option Addr) (c1 : Nat) (l1 : List Int) (r1 : Bool) (r2 : Int) (w : World) (hr1 : Kd.C (Kd.int .i64) w A1 l1.length l1) (hc1 : l1.length ≤ c1) (h : impl_CanFire.f k a0_0 a0_1 a0_2 a0_3 a0_4 a0_5 l1 = some (r1, r2)) :
  Calls Try.prog 37 #[.agg #[.bool a0_0, .bool a0_1, .bool a0_2, .bool a0_3, .bool a0_4, .int .i64 a0_5], .slice A1 l1.length c1] w fun e w' => e = .returned (.tuple #[.bool r1, .int .i64 r2]) ∧ Below w.heap.size w w' := by
 have hu23 := Try.underlying23
 have HR1 := jA hr1
 have HC1 := jA hc1
 clear hr1 hc1
 have HB := jA (Below.refl w.heap.size w)
 have H : ((impl_IsSound.f a0_0 a0_1 a0_2 a0_3 a0_4 a0_5).bind fun t229 => (if t229 = true then ((impl_isHand.f k l1).bind fun t230 => (if t230 = true then ((impl_canFire.f k a0_0 a0_1 a0_2 a0_3 a0_4 a0_5 l1).bind fun t231 => (some (t231, 0))) else (some (false, 1)))) else (some (false, 1)))) = some (r1, r2) := h
 clear h
 replace H := jR.mp H
 obtain ⟨t229, A30, H⟩ := H
 replace H : (if t229 = true then ((impl_isHand.f k l1).bind fun t230 => (if t230 = true then ((impl_canFire.f k a0_0 a0_1 a0_2 a0_3 a0_4 a0_5 l1).bind fun t231 => (some (t231, 0))) else (some (false, 1)))) else (some (false, 1))) = some (r1, r2) := H
 have A3 := jA A30
 clear A30
 by_cases c4 : t229 = true
 ·subst c4
  have H1 : ((impl_isHand.f k l1).bind fun t230 => (if t230 = true then ((impl_canFire.f k a0_0 a0_1 a0_2 a0_3 a0_4 a0_5 l1).bind fun t231 => (some (t231, 0))) else (some (false, 1)))) = some (r1, r2) := by rw [if_pos rfl] at H; exact H
  clear H
  have H := H1
  clear H1
  replace H := jR.mp H
  obtain ⟨t230, A50, H⟩ := H
  replace H : (if t230 = true then ((impl_canFire.f k a0_0 a0_1 a0_2 a0_3 a0_4 a0_5 l1).bind fun t231 => (some (t231, 0))) else (some (false, 1))) = some (r1, r2) := H
  have A5 := jA A50
  clear A50
  by_cases c6 : t230 = true
  ·subst c6
   have H1 : ((impl_canFire.f k a0_0 a0_1 a0_2 a0_3 a0_4 a0_5 l1).bind fun t231 => (some (t231, 0))) = some (r1, r2) := by rw [if_pos rfl] at H; exact H
   clear H
   have H := H1
   clear H1
   replace H := jR.mp H
   obtain ⟨t231, A70, H⟩ := H
   replace H : (some (t231, 0)) = some (r1, r2) := H
   have A7 := jA A70
   clear A70
   simp only [jU, jY] at H
   obtain ⟨rfl, rfl⟩ := H
   go_enter Try.func37, Try.ntmps37
   go_wp2_with (first | ((with_reducible refine jQ (N := 2) rfl ?_); refine jO ?hg (N := 2) ?hd (cs := #[.bool a0_0, .bool a0_1, .bool a0_2, .bool a0_3, .bool a0_4, .int .i64 a0_5]) (t := 23) ?hr ?_; (case hd => rfl); (case hg => rfl); (case hr => first | (go_simp; done) | (go_simp; rfl)); intro gb228 hg w8 hbox hb; have n0_ := jA (jJ (zb0 HB) hb); have n1_ := jA (hbox); have n2_ := jA ((by rw [hg]; exact (jG (zb0 HB)) : w.heap.size ≤ gb228)); have n3_ := jA ((by rw [hg]; exact (jG (zb0 HB)) : w.heap.size ≤ gb228)); clear HB; have HB := n0_; have BK228 := n1_; have GW228 := n2_; have GE228 := n3_; clear n0_ n1_ n2_ n3_; clear hb hbox hg; have hcz9_0 : w8.cell? ⟨gb228, 0, none⟩ = some (.bool a0_0) := (jC BK228.out 0).trans rfl; have hcz9_1 : w8.cell? ⟨gb228, 1, none⟩ = some (.bool a0_1) := (jC BK228.out 1).trans rfl; have hcz9_2 : w8.cell? ⟨gb228, 2, none⟩ = some (.bool a0_2) := (jC BK228.out 2).trans rfl; have hcz9_3 : w8.cell? ⟨gb228, 3, none⟩ = some (.bool a0_3) := (jC BK228.out 3).trans rfl; have hcz9_4 : w8.cell? ⟨gb228, 4, none⟩ = some (.bool a0_4) := (jC BK228.out 4).trans rfl; have hcz9_5 : w8.cell? ⟨gb228, 5, none⟩ = some (.int .i64 a0_5) := (jC BK228.out 5).trans rfl; have hfz9_0 := jB BK228.out 0; have hfz9_1 := jB BK228.out 1; have hfz9_2 := jB BK228.out 2; have hfz9_3 := jB BK228.out 3; have hfz9_4 := jB BK228.out 4; have hfz9_5 := jB BK228.out 5) | ((with_reducible refine jZ (f := 27) rfl ?_); refine goesL_ (some 7) rfl rfl Try.func27 zr rfl #[.agg #[.bool a0_0, .bool a0_1, .bool a0_2, .bool a0_3, .bool a0_4, .int .i64 a0_5]] rfl zm ?_; (with_reducible refine (impl_IsSound.calls a0_0 a0_1 a0_2 a0_3 a0_4 a0_5 true _ A3.out).mono ?_); rintro e w10 ⟨rfl, hb⟩; refine ⟨_, rfl, ?_⟩; have n0_ := jA (jS (g := gb228) (o := .cells #[.bool a0_0, .bool a0_1, .bool a0_2, .bool a0_3, .bool a0_4, .int .i64 a0_5] 23 (0, 0)) (zk BK228) hb); have n1_ := jA (jJ (zb1 HB GE228) hb); clear BK228; clear HB; have BK228 := n0_; have HB := n1_; clear n0_ n1_; (try clear hb); (try clear hb2); (try clear hk); (try clear hi)) | (go_at_call 56; (with_reducible refine (impl_isHand.calls k _ _ l1 true _ ?side1 ?side2 A5.out).mono ?_); (case side1 => exact zs HR1 HB); (case side2 => exact HC1.out); rintro e w' ⟨rfl, ⟨nd, rfl⟩⟩; have hcz11_0 : w10.cell? ⟨gb228, 0, none⟩ = some (.bool a0_0) := (jC BK228.out 0).trans rfl; have hcz11_1 : w10.cell? ⟨gb228, 1, none⟩ = some (.bool a0_1) := (jC BK228.out 1).trans rfl; have hcz11_2 : w10.cell? ⟨gb228, 2, none⟩ = some (.bool a0_2) := (jC BK228.out 2).trans rfl; have hcz11_3 : w10.cell? ⟨gb228, 3, none⟩ = some (.bool a0_3) := (jC BK228.out 3).trans rfl; have hcz11_4 : w10.cell? ⟨gb228, 4, none⟩ = some (.bool a0_4) := (jC BK228.out 4).trans rfl; have hcz11_5 : w10.cell? ⟨gb228, 5, none⟩ = some (.int .i64 a0_5) := (jC BK228.out 5).trans rfl; have hfz11_0 := jB BK228.out 0; have hfz11_1 := jB BK228.out 1; have hfz11_2 := jB BK228.out 2; have hfz11_3 := jB BK228.out 3; have hfz11_4 := jB BK228.out 4; have hfz11_5 := jB BK228.out 5) | ((with_reducible refine jZ (f := 75) rfl ?_); refine goesL_ (some 16) rfl rfl Try.func75 zr rfl #[.agg #[.bool a0_0, .bool a0_1, .bool a0_2, .bool a0_3, .bool a0_4, .int .i64 a0_5], .slice A1 l1.length c1] rfl zm ?_; (with_reducible refine (impl_canFire.calls k a0_0 a0_1 a0_2 a0_3 a0_4 a0_5 _ _ l1 t231 _ ?side1 ?side2 A7.out).mono ?_); (case side1 => repeat (first | exact HR1.out | exact (Kd.C_below HR1.out (zb1 HB GE228)) | (with_reducible refine Kd.C_alloc ?_ _) | (with_reducible refine Kd.C_drewN ?_ _) | (with_reducible refine Kd.C_drew ?_))); (case side2 => exact HC1.out); rintro e w12 ⟨rfl, hb⟩; refine ⟨_, rfl, ?_⟩; have n0_ := jA (jS (g := gb228) (o := .cells #[.bool a0_0, .bool a0_1, .bool a0_2, .bool a0_3, .bool a0_4, .int .i64 a0_5] 23 (0, 0)) (zk BK228) hb); have n1_ := jA (jJ (zb1 HB GE228) hb); clear BK228; clear HB; have BK228 := n0_; have HB := n1_; clear n0_ n1_; (try clear hb); (try clear hb2); (try clear hk); (try clear hi)))
   go_ret2
   exact ⟨by first | rfl | (simp [errW_none, errW_some] <;> rfl) | (simp [*, errW_none, errW_some] <;> rfl), zb1 HB GE228⟩
  ·replace c6 := Bool.eq_false_iff.mpr c6
   subst c6
   have H1 : (some (false, 1)) = some (r1, r2) := by rw [if_neg (show ¬ (false = true) by decide)] at H; exact H
   clear H
   have H := H1
   clear H1
   simp only [jU, jY] at H
   obtain ⟨rfl, rfl⟩ := H
   go_enter Try.func37, Try.ntmps37
   go_wp2_with (first | ((with_reducible refine jQ (N := 2) rfl ?_); refine jO ?hg (N := 2) ?hd (cs := #[.bool a0_0, .bool a0_1, .bool a0_2, .bool a0_3, .bool a0_4, .int .i64 a0_5]) (t := 23) ?hr ?_; (case hd => rfl); (case hg => rfl); (case hr => first | (go_simp; done) | (go_simp; rfl)); intro gb228 hg w13 hbox hb; have n0_ := jA (jJ (zb0 HB) hb); have n1_ := jA (hbox); have n2_ := jA ((by rw [hg]; exact (jG (zb0 HB)) : w.heap.size ≤ gb228)); have n3_ := jA ((by rw [hg]; exact (jG (zb0 HB)) : w.heap.size ≤ gb228)); clear HB; have HB := n0_; have BK228 := n1_; have GW228 := n2_; have GE228 := n3_; clear n0_ n1_ n2_ n3_; clear hb hbox hg; have hcz14_0 : w13.cell? ⟨gb228, 0, none⟩ = some (.bool a0_0) := (jC BK228.out 0).trans rfl; have hcz14_1 : w13.cell? ⟨gb228, 1, none⟩ = some (.bool a0_1) := (jC BK228.out 1).trans rfl; have hcz14_2 : w13.cell? ⟨gb228, 2, none⟩ = some (.bool a0_2) := (jC BK228.out 2).trans rfl; have hcz14_3 : w13.cell? ⟨gb228, 3, none⟩ = some (.bool a0_3) := (jC BK228.out 3).trans rfl; have hcz14_4 : w13.cell? ⟨gb228, 4, none⟩ = some (.bool a0_4) := (jC BK228.out 4).trans rfl; have hcz14_5 : w13.cell? ⟨gb228, 5, none⟩ = some (.int .i64 a0_5) := (jC BK228.out 5).trans rfl; have hfz14_0 := jB BK228.out 0; have hfz14_1 := jB BK228.out 1; have hfz14_2 := jB BK228.out 2; have hfz14_3 := jB BK228.out 3; have hfz14_4 := jB BK228.out 4; have hfz14_5 := jB BK228.out 5) | ((with_reducible refine jZ (f := 27) rfl ?_); refine goesL_ (some 7) rfl rfl Try.func27 zr rfl #[.agg #[.bool a0_0, .bool a0_1, .bool a0_2, .bool a0_3, .bool a0_4, .int .i64 a0_5]] rfl zm ?_; (with_reducible refine (impl_IsSound.calls a0_0 a0_1 a0_2 a0_3 a0_4 a0_5 true _ A3.out).mono ?_); rintro e w15 ⟨rfl, hb⟩; refine ⟨_, rfl, ?_⟩; have n0_ := jA (jS (g := gb228) (o := .cells #[.bool a0_0, .bool a0_1, .bool a0_2, .bool a0_3, .bool a0_4, .int .i64 a0_5] 23 (0, 0)) (zk BK228) hb); have n1_ := jA (jJ (zb1 HB GE228) hb); clear BK228; clear HB; have BK228 := n0_; have HB := n1_; clear n0_ n1_; (try clear hb); (try clear hb2); (try clear hk); (try clear hi)) | (go_at_call 56; (with_reducible refine (impl_isHand.calls k _ _ l1 false _ ?side1 ?side2 A5.out).mono ?_); (case side1 => exact zs HR1 HB); (case side2 => exact HC1.out); rintro e w' ⟨rfl, ⟨nd, rfl⟩⟩))
   go_ret2
   exact ⟨by first | rfl | (simp [errW_none, errW_some] <;> rfl) | (simp [*, errW_none, errW_some] <;> rfl), zb1 HB GE228⟩
 ·replace c4 := Bool.eq_false_iff.mpr c4
  subst c4
  have H1 : (some (false, 1)) = some (r1, r2) := by rw [if_neg (show ¬ (false = true) by decide)] at H; exact H
  clear H
  have H := H1
  clear H1
  simp only [jU, jY] at H
  obtain ⟨rfl, rfl⟩ := H
  go_enter Try.func37, Try.ntmps37
  go_wp2_with (first | ((with_reducible refine jQ (N := 2) rfl ?_); refine jO ?hg (N := 2) ?hd (cs := #[.bool a0_0, .bool a0_1, .bool a0_2, .bool a0_3, .bool a0_4, .int .i64 a0_5]) (t := 23) ?hr ?_; (case hd => rfl); (case hg => rfl); (case hr => first | (go_simp; done) | (go_simp; rfl)); intro gb228 hg w16 hbox hb; have n0_ := jA (jJ (zb0 HB) hb); have n1_ := jA (hbox); have n2_ := jA ((by rw [hg]; exact (jG (zb0 HB)) : w.heap.size ≤ gb228)); have n3_ := jA ((by rw [hg]; exact (jG (zb0 HB)) : w.heap.size ≤ gb228)); clear HB; have HB := n0_; have BK228 := n1_; have GW228 := n2_; have GE228 := n3_; clear n0_ n1_ n2_ n3_; clear hb hbox hg; have hcz17_0 : w16.cell? ⟨gb228, 0, none⟩ = some (.bool a0_0) := (jC BK228.out 0).trans rfl; have hcz17_1 : w16.cell? ⟨gb228, 1, none⟩ = some (.bool a0_1) := (jC BK228.out 1).trans rfl; have hcz17_2 : w16.cell? ⟨gb228, 2, none⟩ = some (.bool a0_2) := (jC BK228.out 2).trans rfl; have hcz17_3 : w16.cell? ⟨gb228, 3, none⟩ = some (.bool a0_3) := (jC BK228.out 3).trans rfl; have hcz17_4 : w16.cell? ⟨gb228, 4, none⟩ = some (.bool a0_4) := (jC BK228.out 4).trans rfl; have hcz17_5 : w16.cell? ⟨gb228, 5, none⟩ = some (.int .i64 a0_5) := (jC BK228.out 5).trans rfl; have hfz17_0 := jB BK228.out 0; have hfz17_1 := jB BK228.out 1; have hfz17_2 := jB BK228.out 2; have hfz17_3 := jB BK228.out 3; have hfz17_4 := jB BK228.out 4; have hfz17_5 := jB BK228.out 5) | ((with_reducible refine jZ (f := 27) rfl ?_); refine goesL_ (some 7) rfl rfl Try.func27 zr rfl #[.agg #[.bool a0_0, .bool a0_1, .bool a0_2, .bool a0_3, .bool a0_4, .int .i64 a0_5]] rfl zm ?_; (with_reducible refine (impl_IsSound.calls a0_0 a0_1 a0_2 a0_3 a0_4 a0_5 false _ A3.out).mono ?_); rintro e w18 ⟨rfl, hb⟩; refine ⟨_, rfl, ?_⟩; have n0_ := jA (jS (g := gb228) (o := .cells #[.bool a0_0, .bool a0_1, .bool a0_2, .bool a0_3, .bool a0_4, .int .i64 a0_5] 23 (0, 0)) (zk BK228) hb); have n1_ := jA (jJ (zb1 HB GE228) hb); clear BK228; clear HB; have BK228 := n0_; have HB := n1_; clear n0_ n1_; (try clear hb); (try clear hb2); (try clear hk); (try clear hi)))
  go_ret2
  exact ⟨by first | rfl | (simp [errW_none, errW_some] <;> rfl) | (simp [*, errW_none, errW_some] <;> rfl), zb1 HB GE228⟩

/-! ### spec_l25Number: function 52 -/
def spec_l25Number.l0 : Nat → Int → List Bool → Int → Int → Option (Int)
 | 0, _, _, _, _ => none
 | k + 1, x3, x4, x5, x6 => if x6 < (x4.length : Int) then (if 0 ≤ x6 then (if rdOf false x4 x6 = true then (spec_l25Number.l0 k (wrap64 (x3 + x5)) x4 (wrap64 (2 * x5)) (wrap64 (x6 + 1))) else (spec_l25Number.l0 k x3 x4 (wrap64 (2 * x5)) (wrap64 (x6 + 1)))) else (none)) else (some x3)
def spec_l25Number.f (k : Nat) (a0_0 : Bool) (a0_1 : Bool) (a0_2 : Bool) (a0_3 : Bool) (a0_4 : Bool) (a0_5 : Int) : Option (Int) := spec_l25Number.l0 k (wrap64 (32 * a0_5)) (([a0_0, a0_1, a0_2, a0_3, a0_4] : List Bool)) 1 0
theorem spec_l25Number.mono_l : ∀ k, (∀ y0 y1 y2 y3, LeO (spec_l25Number.l0 k y0 y1 y2 y3) (spec_l25Number.l0 (k + 1) y0 y1 y2 y3))
 | 0 => fun _ _ _ _ r h => by simp [spec_l25Number.l0] at h
 | k + 1 => by
  have ih0 := spec_l25Number.mono_l k
  ·intro y0 y1 y2 y3
   unfold spec_l25Number.l0
   repeat' first
   | (with_reducible exact ih0 _ _ _ _)
   | (with_reducible exact LeO.refl _)
   | (with_reducible exact LeO.none _)
   | (with_reducible refine LeO.ite ?_ ?_)
   | (with_reducible refine LeO.bind ?_ (fun _ => ?_))
   | exact ih0 _ _ _ _
   | exact LeO.none _
   | refine LeO.ite ?_ ?_
   | refine LeO.bind ?_ (fun _ => ?_)
theorem spec_l25Number.mono : ∀ a0 a1 a2 a3 a4 a5 k, LeO (spec_l25Number.f k a0 a1 a2 a3 a4 a5) (spec_l25Number.f (k + 1) a0 a1 a2 a3 a4 a5) := by
 intro a0 a1 a2 a3 a4 a5 k
 have ih0 := spec_l25Number.mono_l k
 unfold spec_l25Number.f
 repeat' first
   | (with_reducible exact ih0 _ _ _ _)
   | (with_reducible exact LeO.refl _)
   | (with_reducible exact LeO.none _)
   | (with_reducible refine LeO.ite ?_ ?_)
   | (with_reducible refine LeO.bind ?_ (fun _ => ?_))
   | exact ih0 _ _ _ _
   | exact LeO.none _
   | refine LeO.ite ?_ ?_
   | refine LeO.bind ?_ (fun _ => ?_)
set_option maxHeartbeats 8000000 in
set_option maxRecDepth 100000 in
theorem spec_l25Number.calls (k : Nat) (a0_0 : Bool) (a0_1 : Bool) (a0_2 : Bool) (a0_3 : Bool) (a0_4 : Bool) (a0_5 : Int) (r : Int) (w : World) (h : spec_l25Number.f k a0_0 a0_1 a0_2 a0_3 a0_4 a0_5 = some r) :
  Calls Try.prog 52 #[.agg #[.bool a0_0, .bool a0_1, .bool a0_2, .bool a0_3, .bool a0_4, .int .i64 a0_5]] w fun e w' => e = .returned (.int .i64 r) ∧ Below w.heap.size w w' := by
 have hu23 := Try.underlying23
 have HB := jA (Below.refl w.heap.size w)
 have H : (spec_l25Number.l0 k (wrap64 (32 * a0_5)) (([a0_0, a0_1, a0_2, a0_3, a0_4] : List Bool)) 1 0) = some r := h
 clear h
 obtain ⟨y233, hy233⟩ : ∃ y_ : List Bool, y_ = (([a0_0, a0_1, a0_2, a0_3, a0_4] : List Bool)) := ⟨_, rfl⟩
 replace H : (spec_l25Number.l0 k (wrap64 (32 * a0_5)) y233 1 0) = some r := by first | (rw [hy233]; with_reducible exact H) | (have H2_ := (Option.bind_some _ _).symm.trans H; rw [hy233]; with_reducible exact H2_) | (have H2_ := (Option.bind_some _ _).symm.trans H; with_reducible exact H2_) | with_reducible exact H | (rw [hy233]; exact H) | exact H
 have Ny233 := jA hy233
 clear hy233
 have H' := jA H
 clear H
 go_enter Try.func52, Try.ntmps52
 go_wp2_with (first | ((with_reducible refine jQ (N := 1) rfl ?_); refine jO ?hg (N := 1) ?hd (cs := #[.bool a0_0, .bool a0_1, .bool a0_2, .bool a0_3, .bool a0_4, .int .i64 a0_5]) (t := 23) ?hr ?_; (case hd => rfl); (case hg => rfl); (case hr => first | (go_simp; done) | (go_simp; rfl)); intro gb232 hg w2 hbox hb; have n0_ := jA (jJ (zb0 HB) hb); have n1_ := jA (hbox); have n2_ := jA ((by rw [hg]; exact (jG (zb0 HB)) : w.heap.size ≤ gb232)); have n3_ := jA ((by rw [hg]; exact (jG (zb0 HB)) : w.heap.size ≤ gb232)); clear HB; have HB := n0_; have BK232 := n1_; have GW232 := n2_; have GE232 := n3_; clear n0_ n1_ n2_ n3_; clear hb hbox hg; have hcz3_0 : w2.cell? ⟨gb232, 0, none⟩ = some (.bool a0_0) := (jC BK232.out 0).trans rfl; have hcz3_1 : w2.cell? ⟨gb232, 1, none⟩ = some (.bool a0_1) := (jC BK232.out 1).trans rfl; have hcz3_2 : w2.cell? ⟨gb232, 2, none⟩ = some (.bool a0_2) := (jC BK232.out 2).trans rfl; have hcz3_3 : w2.cell? ⟨gb232, 3, none⟩ = some (.bool a0_3) := (jC BK232.out 3).trans rfl; have hcz3_4 : w2.cell? ⟨gb232, 4, none⟩ = some (.bool a0_4) := (jC BK232.out 4).trans rfl; have hcz3_5 : w2.cell? ⟨gb232, 5, none⟩ = some (.int .i64 a0_5) := (jC BK232.out 5).trans rfl; have hfz3_0 := jB BK232.out 0; have hfz3_1 := jB BK232.out 1; have hfz3_2 := jB BK232.out 2; have hfz3_3 := jB BK232.out 3; have hfz3_4 := jB BK232.out 4; have hfz3_5 := jB BK232.out 5) | ((with_reducible refine jQ (N := 20) rfl ?_); refine Kd.R_lit Kd.bool _ 4 ?hg (N := 20) ?hd (xs := ([a0_0, a0_1, a0_2, a0_3, a0_4] : List Bool)) (inner := [.bool a0_0, .bool a0_1, .bool a0_2, .bool a0_3, .bool a0_4]) (ok := fun _ => True) (okp := fun _ => True) ?hr ?hp (fun _ hk => hk) trivial (Below.refl _ _) (Nat.le_refl _) (by simp) ?_; (case hd => rfl); (case hg => rfl); (case hr => first | (go_simp; done) | (go_simp; rfl)); (case hp => exact (Reps.one (show Kd.M Kd.bool _ _ _ a0_0 [.bool a0_0] from rfl) (Reps.one (show Kd.M Kd.bool _ _ _ a0_1 [.bool a0_1] from rfl) (Reps.one (show Kd.M Kd.bool _ _ _ a0_2 [.bool a0_2] from rfl) (Reps.one (show Kd.M Kd.bool _ _ _ a0_3 [.bool a0_3] from rfl) (Reps.one (show Kd.M Kd.bool _ _ _ a0_4 [.bool a0_4] from rfl) (Reps.none _ _))))))); intro v234 w4 ho5 hb hg_ hnew_; clear hg_ hnew_; (first | rw [← Ny233.out] at ho5 | (simp only [Int.reduceToNat] at ho5; rw [← Ny233.out] at ho5)); have n0_ := jA (Kd.R_lower ho5 (jG (zb1 HB GE232))); have n1_ := jA (jS (g := gb232) (o := .cells #[.bool a0_0, .bool a0_1, .bool a0_2, .bool a0_3, .bool a0_4, .int .i64 a0_5] 23 (0, 0)) (zk BK232) hb); have n2_ := jA (jJ (zb1 HB GE232) hb); clear BK232; clear HB; have HO235 := n0_; have BK232 := n1_; have HB := n2_; clear n0_ n1_ n2_; clear hb ho5))
 go_loopg [3, 5, 6] k (fun kq v3 v5 v6 w' => ∃ (x3_1 : Int) (x5_1 : Int) (x6_1 : Int), v3 = .int .i64 x3_1 ∧ v5 = .int .i64 x5_1 ∧ v6 = .int .i64 x6_1 ∧ Aside0 (spec_l25Number.l0 kq x3_1 y233 x5_1 x6_1 = some r) ∧ Aside0 (kq ≤ k) ∧ Aside0 (Kd.R Kd.bool 4 w' w.heap.size (fun _ => True) v234 y233) ∧ Aside0 (w'.heap[gb232]? = some (.cells #[.bool a0_0, .bool a0_1, .bool a0_2, .bool a0_3, .bool a0_4, .int .i64 a0_5] 23 (0, 0))) ∧ Aside0 (Below w.heap.size w w'))
 case atStart => exact ⟨(wrap64 (32 * a0_5)), (1), (0), zz, zz, zz, H', ⟨Nat.le_refl _⟩, ⟨by (with_reducible repeat (first | apply jd | apply jc | apply jf)); exact HO235.out⟩, ⟨by (with_reducible repeat (first | refine jD ?_ _ | refine jF ?_ | refine jE ?_ _)); exact BK232.out⟩, ⟨zb1 HB GE232⟩⟩
 case round =>
  clear H'
  try clear p2
  try clear c5
  try clear hcz3_0
  try clear hcz3_1
  try clear hcz3_2
  try clear hcz3_3
  try clear hcz3_4
  try clear hcz3_5
  try clear hfz3_0
  try clear hfz3_1
  try clear hfz3_2
  try clear hfz3_3
  try clear hfz3_4
  try clear hfz3_5
  obtain ⟨x3_1, x5_1, x6_1, rfl, rfl, rfl, HA, HK1, HO_4, BK232, HB⟩ := hrel
  cases gk with
  | zero => exact absurd HA.out (by simp [spec_l25Number.l0])
  | succ k1 =>
   have H := HA.out
   clear HA
   simp only [spec_l25Number.l0] at H
   by_cases c6 : x6_1 < (y233.length : Int)
   ·rw [if_pos c6] at H
    have c6b0 : decide (x6_1 < (y233.length : Int)) = true := jT c6
    clear c6
    by_cases c7 : 0 ≤ x6_1
    ·rw [if_pos c7] at H
     have c7b0 : decide (0 ≤ x6_1) = true := jT c7
     clear c7
     obtain ⟨bq8, hbq8⟩ : ∃ b_ : Bool, b_ = (rdOf false y233 x6_1) := ⟨_, rfl⟩
     replace H : (if bq8 = true then (spec_l25Number.l0 k1 (wrap64 (x3_1 + x5_1)) y233 (wrap64 (2 * x5_1)) (wrap64 (x6_1 + 1))) else (spec_l25Number.l0 k1 x3_1 y233 (wrap64 (2 * x5_1)) (wrap64 (x6_1 + 1)))) = some r := by rw [← hbq8] at H; exact H
     have Nbq8 := jA hbq8
     clear hbq8
     by_cases c9 : bq8 = true
     ·subst c9
      have H1 : (spec_l25Number.l0 k1 (wrap64 (x3_1 + x5_1)) y233 (wrap64 (2 * x5_1)) (wrap64 (x6_1 + 1))) = some r := by rw [if_pos rfl] at H; exact H
      clear H
      have H := H1
      clear H1
      have H' := jA H
      clear H
      obtain ⟨Ao10, co10, eo10⟩ := Kd.R_slice HO_4.out
      subst eo10
      have p236 : 0 ≤ (x6_1 : Int) := jH za
      have q236 : x6_1 < (y233.length : Int) := jH za
      obtain ⟨ad236, e236, hx236_0⟩ := Kd.at_bool (je HO_4.out).2.2 x6_1 p236 q236
      (try rw [← Nbq8.out] at hx236_0)
      cases e236
      replace p236 := eq_true p236
      replace q236 := eq_true q236
      go_wp2
      go_roundg k1
      case measure => have := HK1.out; omega
      case rel => exact ⟨(wrap64 (x3_1 + x5_1)), (wrap64 (2 * x5_1)), (wrap64 (x6_1 + 1)), zz, zz, zz, H', ⟨by have := HK1.out; omega⟩, ⟨by (with_reducible repeat (first | apply jd | apply jc | apply jf)); exact HO_4.out⟩, ⟨by (with_reducible repeat (first | refine jD ?_ _ | refine jF ?_ | refine jE ?_ _)); exact BK232.out⟩, ⟨zb1 HB GE232⟩⟩
     ·replace c9 := Bool.eq_false_iff.mpr c9
      subst c9
      have H1 : (spec_l25Number.l0 k1 x3_1 y233 (wrap64 (2 * x5_1)) (wrap64 (x6_1 + 1))) = some r := by rw [if_neg (show ¬ (false = true) by decide)] at H; exact H
      clear H
      have H := H1
      clear H1
      have H' := jA H
      clear H
      obtain ⟨Ao11, co11, eo11⟩ := Kd.R_slice HO_4.out
      subst eo11
      have p236 : 0 ≤ (x6_1 : Int) := jH za
      have q236 : x6_1 < (y233.length : Int) := jH za
      obtain ⟨ad236, e236, hx236_0⟩ := Kd.at_bool (je HO_4.out).2.2 x6_1 p236 q236
      (try rw [← Nbq8.out] at hx236_0)
      cases e236
      replace p236 := eq_true p236
      replace q236 := eq_true q236
      go_wp2
      go_roundg k1
      case measure => have := HK1.out; omega
      case rel => exact ⟨(x3_1), (wrap64 (2 * x5_1)), (wrap64 (x6_1 + 1)), zz, zz, zz, H', ⟨by have := HK1.out; omega⟩, ⟨by (with_reducible repeat (first | apply jd | apply jc | apply jf)); exact HO_4.out⟩, ⟨by (with_reducible repeat (first | refine jD ?_ _ | refine jF ?_ | refine jE ?_ _)); exact BK232.out⟩, ⟨zb1 HB GE232⟩⟩
    ·rw [if_neg c7] at H
     exact absurd H (by simp)
   ·rw [if_neg c6] at H
    have c6b0 : decide (x6_1 < (y233.length : Int)) = false := jh c6
    clear c6
    obtain rfl := jV H
    obtain ⟨Ao12, co12, eo12⟩ := Kd.R_slice HO_4.out
    subst eo12
    go_wp2
    go_ret
    exact ⟨by first | rfl | (simp [errW_none, errW_some] <;> rfl) | (simp [*, errW_none, errW_some] <;> rfl), zb1 HB GE232⟩

/-! ### spec_l01In: function 78 -/
def spec_l01In.f (a0 : Int) (a1 : Int) (a2 : Int) : Option (Bool) := if a0 ≥ a1 then (some (decide (a0 ≤ a2))) else (some false)
set_option maxHeartbeats 8000000 in
set_option maxRecDepth 100000 in
theorem spec_l01In.calls (a0 : Int) (a1 : Int) (a2 : Int) (r : Bool) (w : World) (h : spec_l01In.f a0 a1 a2 = some r) :
  Calls Try.prog 78 #[.int .i64 a0, .int .i64 a1, .int .i64 a2] w fun e w' => e = .returned (.bool r) ∧ Drawn0 w w' := by
 have H : (if a0 ≥ a1 then (some (decide (a0 ≤ a2))) else (some false)) = some r := h
 clear h
 by_cases c4 : a0 ≥ a1
 ·rw [if_pos c4] at H
  have c4b0 : decide (a1 ≤ a0) = true := jT c4
  clear c4
  obtain rfl := jV H
  go_enter Try.func78, Try.ntmps78
  go_wp2
  go_ret
  exact ⟨by first | rfl | (simp; done) | (simp [*]; done), by repeat (first | exact Drawn0.refl _ | apply Drawn0.step)⟩
 ·rw [if_neg c4] at H
  have c4b0 : decide (a1 ≤ a0) = false := jh c4
  clear c4
  obtain rfl := jV H
  go_enter Try.func78, Try.ntmps78
  go_wp2
  go_ret
  exact ⟨by first | rfl | (simp; done) | (simp [*]; done), by repeat (first | exact Drawn0.refl _ | apply Drawn0.step)⟩

end Go.Proofs.Ythieppjmjgijfaa.PFnExactCanFire
