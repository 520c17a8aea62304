/- Functions and contracts that FnStops reaches (5 of 14). -/
import Derived.Test.YtddejaomlnldiaaQFnStopsx3
namespace Go.Proofs.Ytddejaomlnldiaa.PFnStops
open Go.RowKit Go.Proofs.YtddejaomlnldiaaW.PrintWords Go.Proofs.YtddejaomlnldiaaW.PrintLast Go.Proofs.YtddejaomlnldiaaW.PrintMore
attribute [local go_sem] max2_int min2_int max_two min_two max_three min_three max_four min_four   -- for this text's walks alone
set_option linter.unusedVariables false
set_option linter.unusedSimpArgs false

/-! ### impl_cueAt: function 93 -/
def impl_cueAt.l0 : Nat → Int → Int → List (S59) → Int → Int → Option (Int)
 | 0, _, _, _, _, _ => none
 | k + 1, x1, x2, x9, x10, x11 => if x11 < x10 then (if 0 ≤ x11 then (if x11 < (x9.length : Int) then (if ((rd_T59 x9 x11).f1) = x1 then (if ((rd_T59 x9 x11).f2) = x2 then (some ((rd_T59 x9 x11).f0)) else (impl_cueAt.l0 k x1 x2 x9 x10 (wrap64 (x11 + 1)))) else (impl_cueAt.l0 k x1 x2 x9 x10 (wrap64 (x11 + 1)))) else (none)) else (none)) else (some (-1))
def impl_cueAt.f (k : Nat) (l0 : List (S59)) (a1 : Int) (a2 : Int) : Option (Int) := impl_cueAt.l0 k a1 a2 l0 (l0.length : Int) 0
theorem impl_cueAt.mono_l : ∀ k, (∀ y0 y1 y2 y3 y4, LeO (impl_cueAt.l0 k y0 y1 y2 y3 y4) (impl_cueAt.l0 (k + 1) y0 y1 y2 y3 y4))
 | 0 => fun _ _ _ _ _ r h => by simp [impl_cueAt.l0] at h
 | k + 1 => by
  have ih0 := impl_cueAt.mono_l k
  ·intro y0 y1 y2 y3 y4
   unfold impl_cueAt.l0
   repeat' first
   | (with_reducible exact ih0 _ _ _ _ _)
   | (with_reducible exact LeO.refl _)
   | (with_reducible exact LeO.none _)
   | (with_reducible refine LeO.ite ?_ ?_)
   | (with_reducible refine LeO.bind ?_ (fun _ => ?_))
   | exact ih0 _ _ _ _ _
   | exact LeO.none _
   | refine LeO.ite ?_ ?_
   | refine LeO.bind ?_ (fun _ => ?_)
theorem impl_cueAt.mono : ∀ a0 a1 a2 k, LeO (impl_cueAt.f k a0 a1 a2) (impl_cueAt.f (k + 1) a0 a1 a2) := by
 intro a0 a1 a2 k
 have ih0 := impl_cueAt.mono_l k
 unfold impl_cueAt.f
 repeat' first
   | (with_reducible exact ih0 _ _ _ _ _)
   | (with_reducible exact LeO.refl _)
   | (with_reducible exact LeO.none _)
   | (with_reducible refine LeO.ite ?_ ?_)
   | (with_reducible refine LeO.bind ?_ (fun _ => ?_))
   | exact ih0 _ _ _ _ _
   | exact LeO.none _
   | refine LeO.ite ?_ ?_
   | refine LeO.bind ?_ (fun _ => ?_)
set_option maxHeartbeats 8000000 in
set_option maxRecDepth 100000 in
theorem impl_cueAt.calls (k : Nat) (A0 : Option Addr) (c0 : Nat) (l0 : List (S59)) (a1 : Int) (a2 : Int) (r : Int) (w : World) (hr0 : Kd.C k59 w A0 l0.length l0) (hc0 : l0.length ≤ c0) (h : impl_cueAt.f k l0 a1 a2 = some r) :
  Calls Try.prog 93 #[.slice A0 l0.length c0, .int .i64 a1, .int .i64 a2] w fun e w' => e = .returned (.int .i64 r) ∧ Below w.heap.size w w' := by
 have hu59 := Try.underlying59
 have HR0 := jA hr0
 have HC0 := jA hc0
 clear hr0 hc0
 have HB := jA (Below.refl w.heap.size w)
 have H : (impl_cueAt.l0 k a1 a2 l0 (l0.length : Int) 0) = some r := h
 clear h
 have H' := jA H
 clear H
 go_enter Try.func93, Try.ntmps93
 go_wp2
 go_loopg [11] k (fun kq v11 w' => ∃ (x11_1 : Int), v11 = .int .i64 x11_1 ∧ Aside0 (impl_cueAt.l0 kq a1 a2 l0 (l0.length : Int) x11_1 = some r) ∧ Aside0 (kq ≤ k) ∧ Aside0 (Below w.heap.size w w'))
 case atStart => exact ⟨(0), zz, H', ⟨Nat.le_refl _⟩, ⟨zb0 HB⟩⟩
 case round =>
  clear H'
  try clear p2
  obtain ⟨x11_1, rfl, HA, HK1, HB⟩ := hrel
  cases gk with
  | zero => exact absurd HA.out (by simp [impl_cueAt.l0])
  | succ k1 =>
   have H := HA.out
   clear HA
   simp only [impl_cueAt.l0] at H
   by_cases c4 : x11_1 < (l0.length : Int)
   ·rw [if_pos c4] at H
    have c4b0 : decide (x11_1 < (l0.length : Int)) = true := jP c4
    clear c4
    by_cases c5 : 0 ≤ x11_1
    ·rw [if_pos c5] at H
     have c5b0 : decide (0 ≤ x11_1) = true := jP c5
     clear c5
     by_cases c6 : x11_1 < (l0.length : Int)
     ·rw [if_pos c6] at H
      have c6b0 : decide (x11_1 < (l0.length : Int)) = true := jP c6
      clear c6
      by_cases c7 : ((rd_T59 l0 x11_1).f1) = a1
      ·rw [if_pos c7] at H
       have c7b0 : (((rd_T59 l0 x11_1).f1) == a1) = true := beq_iff_eq.mpr c7
       have c7b1 : (((rd_T59 l0 x11_1).f1) != a1) = false := bne_eq_false_iff_eq.mpr c7
       clear c7
       by_cases c8 : ((rd_T59 l0 x11_1).f2) = a2
       ·rw [if_pos c8] at H
        have c8b0 : (((rd_T59 l0 x11_1).f2) == a2) = true := beq_iff_eq.mpr c8
        have c8b1 : (((rd_T59 l0 x11_1).f2) != a2) = false := bne_eq_false_iff_eq.mpr c8
        clear c8
        obtain rfl := jW H
        have p187 : 0 ≤ (x11_1 : Int) := jB za
        have q187 : x11_1 < (l0.length : Int) := jB za
        obtain ⟨ad187, e187, hx187_0, hx187_1, hx187_2⟩ := at_T59 HR0.out x11_1 p187 q187
        cases e187
        replace hx187_0 := (HB.out.cell (jC w _ hx187_0)).trans hx187_0
        replace hx187_1 := (HB.out.cell (jC w _ hx187_1)).trans hx187_1
        replace hx187_2 := (HB.out.cell (jC w _ hx187_2)).trans hx187_2
        replace p187 := eq_true p187
        replace q187 := eq_true q187
        go_wp2_with (first | ((with_reducible refine gate_dst (N := 8) rfl ?_); refine box_event ?hg (N := 8) ?hd (cs := #[.int .i64 0, .int .i64 0, .int .i64 0]) (t := 59) ?hr ?_; (case hd => rfl); (case hg => rfl); (case hr => first | (go_simp; done) | (go_simp; rfl)); intro gb188 hg w9 hbox hb; have n0_ := jA (jV (zb0 HB) hb); have n1_ := jA (hbox); have n2_ := jA ((by rw [hg]; exact (jY (zb0 HB)) : w.heap.size ≤ gb188)); have n3_ := jA ((by rw [hg]; exact (jY (zb0 HB)) : w.heap.size ≤ gb188)); clear HB; have HB := n0_; have BK188 := n1_; have GW188 := n2_; have GE188 := n3_; clear n0_ n1_ n2_ n3_; clear hb hbox hg; have hcz10_0 : w9.cell? ⟨gb188, 0, none⟩ = some (.int .i64 0) := (jF BK188.out 0).trans rfl; have hcz10_1 : w9.cell? ⟨gb188, 1, none⟩ = some (.int .i64 0) := (jF BK188.out 1).trans rfl; have hcz10_2 : w9.cell? ⟨gb188, 2, none⟩ = some (.int .i64 0) := (jF BK188.out 2).trans rfl; have hfz10_0 := jX BK188.out 0; have hfz10_1 := jX BK188.out 1; have hfz10_2 := jX BK188.out 2))
        go_ret
        exact ⟨by first | rfl | (simp [errW_none, errW_some] <;> rfl) | (simp [*, errW_none, errW_some] <;> rfl), zb1 HB GE188⟩
       ·rw [if_neg c8] at H
        have c8b0 : (((rd_T59 l0 x11_1).f2) == a2) = false := beq_eq_false_iff_ne.mpr c8
        have c8b1 : (((rd_T59 l0 x11_1).f2) != a2) = true := bne_iff_ne.mpr c8
        have H' := jA H
        clear H
        have p187 : 0 ≤ (x11_1 : Int) := jB za
        have q187 : x11_1 < (l0.length : Int) := jB za
        obtain ⟨ad187, e187, hx187_0, hx187_1, hx187_2⟩ := at_T59 HR0.out x11_1 p187 q187
        cases e187
        replace hx187_0 := (HB.out.cell (jC w _ hx187_0)).trans hx187_0
        replace hx187_1 := (HB.out.cell (jC w _ hx187_1)).trans hx187_1
        replace hx187_2 := (HB.out.cell (jC w _ hx187_2)).trans hx187_2
        replace p187 := eq_true p187
        replace q187 := eq_true q187
        go_wp2_with (first | ((with_reducible refine gate_dst (N := 8) rfl ?_); refine box_event ?hg (N := 8) ?hd (cs := #[.int .i64 0, .int .i64 0, .int .i64 0]) (t := 59) ?hr ?_; (case hd => rfl); (case hg => rfl); (case hr => first | (go_simp; done) | (go_simp; rfl)); intro gb188 hg w11 hbox hb; have n0_ := jA (jV (zb0 HB) hb); have n1_ := jA (hbox); have n2_ := jA ((by rw [hg]; exact (jY (zb0 HB)) : w.heap.size ≤ gb188)); have n3_ := jA ((by rw [hg]; exact (jY (zb0 HB)) : w.heap.size ≤ gb188)); clear HB; have HB := n0_; have BK188 := n1_; have GW188 := n2_; have GE188 := n3_; clear n0_ n1_ n2_ n3_; clear hb hbox hg; have hcz12_0 : w11.cell? ⟨gb188, 0, none⟩ = some (.int .i64 0) := (jF BK188.out 0).trans rfl; have hcz12_1 : w11.cell? ⟨gb188, 1, none⟩ = some (.int .i64 0) := (jF BK188.out 1).trans rfl; have hcz12_2 : w11.cell? ⟨gb188, 2, none⟩ = some (.int .i64 0) := (jF BK188.out 2).trans rfl; have hfz12_0 := jX BK188.out 0; have hfz12_1 := jX BK188.out 1; have hfz12_2 := jX BK188.out 2))
        go_roundg k1
        case measure => have := HK1.out; omega
        case rel => exact ⟨(wrap64 (x11_1 + 1)), zz, H', ⟨by have := HK1.out; omega⟩, ⟨zb1 HB GE188⟩⟩
      ·rw [if_neg c7] at H
       have c7b0 : (((rd_T59 l0 x11_1).f1) == a1) = false := beq_eq_false_iff_ne.mpr c7
       have c7b1 : (((rd_T59 l0 x11_1).f1) != a1) = true := bne_iff_ne.mpr c7
       have H' := jA H
       clear H
       have p187 : 0 ≤ (x11_1 : Int) := jB za
       have q187 : x11_1 < (l0.length : Int) := jB za
       obtain ⟨ad187, e187, hx187_0, hx187_1, hx187_2⟩ := at_T59 HR0.out x11_1 p187 q187
       cases e187
       replace hx187_0 := (HB.out.cell (jC w _ hx187_0)).trans hx187_0
       replace hx187_1 := (HB.out.cell (jC w _ hx187_1)).trans hx187_1
       replace hx187_2 := (HB.out.cell (jC w _ hx187_2)).trans hx187_2
       replace p187 := eq_true p187
       replace q187 := eq_true q187
       go_wp2_with (first | ((with_reducible refine gate_dst (N := 8) rfl ?_); refine box_event ?hg (N := 8) ?hd (cs := #[.int .i64 0, .int .i64 0, .int .i64 0]) (t := 59) ?hr ?_; (case hd => rfl); (case hg => rfl); (case hr => first | (go_simp; done) | (go_simp; rfl)); intro gb188 hg w13 hbox hb; have n0_ := jA (jV (zb0 HB) hb); have n1_ := jA (hbox); have n2_ := jA ((by rw [hg]; exact (jY (zb0 HB)) : w.heap.size ≤ gb188)); have n3_ := jA ((by rw [hg]; exact (jY (zb0 HB)) : w.heap.size ≤ gb188)); clear HB; have HB := n0_; have BK188 := n1_; have GW188 := n2_; have GE188 := n3_; clear n0_ n1_ n2_ n3_; clear hb hbox hg; have hcz14_0 : w13.cell? ⟨gb188, 0, none⟩ = some (.int .i64 0) := (jF BK188.out 0).trans rfl; have hcz14_1 : w13.cell? ⟨gb188, 1, none⟩ = some (.int .i64 0) := (jF BK188.out 1).trans rfl; have hcz14_2 : w13.cell? ⟨gb188, 2, none⟩ = some (.int .i64 0) := (jF BK188.out 2).trans rfl; have hfz14_0 := jX BK188.out 0; have hfz14_1 := jX BK188.out 1; have hfz14_2 := jX BK188.out 2))
       go_roundg k1
       case measure => have := HK1.out; omega
       case rel => exact ⟨(wrap64 (x11_1 + 1)), zz, H', ⟨by have := HK1.out; omega⟩, ⟨zb1 HB GE188⟩⟩
     ·rw [if_neg c6] at H
      exact absurd H (by simp)
    ·rw [if_neg c5] at H
     exact absurd H (by simp)
   ·rw [if_neg c4] at H
    have c4b0 : decide (x11_1 < (l0.length : Int)) = false := ja c4
    clear c4
    obtain rfl := jW H
    go_wp2
    go_ret
    exact ⟨by first | rfl | (simp [errW_none, errW_some] <;> rfl) | (simp [*, errW_none, errW_some] <;> rfl), zb0 HB⟩

end Go.Proofs.Ytddejaomlnldiaa.PFnStops
