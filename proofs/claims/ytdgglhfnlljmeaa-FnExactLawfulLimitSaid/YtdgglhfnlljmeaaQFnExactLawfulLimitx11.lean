/- Functions and contracts that FnExactLawfulLimit reaches (12 of 12). -/
import Derived.Test.YtdgglhfnlljmeaaQFnExactLawfulLimitx10
namespace Go.Proofs.Ytdgglhfnlljmeaa.PFnExactLawfulLimit
open Go.RowKit Go.Proofs.YtdgglhfnlljmeaaW.PrintWords Go.Proofs.YtdgglhfnlljmeaaW.PrintLast Go.Proofs.YtdgglhfnlljmeaaW.PrintMore
attribute [local go_sem] max2_int min2_int max_two min_two max_three min_three max_four min_four   -- for this text's walks alone
set_option linter.unusedVariables false
set_option linter.unusedSimpArgs false
open Go.Proofs.YtdgglhfnlljmeaaX

/-! ### impl_LawfulLimit: function 32 -/
def impl_LawfulLimit.f (k : Nat) (l0 : List (S65)) (a1_0 : Int) (l1_1 : List Int) : Option (Int × Int) := (impl_IsMagazine.f k l0 a1_0 l1_1).bind fun t241 => (if t241 = true then ((impl_netIn.f k l0 a1_0 l1_1).bind fun t242 => ((impl_isMixed.f k l0 a1_0 l1_1).bind fun t243 => (if t243 = true then (some (0, 5)) else (if t242 > 1000000000 then (some (0, 5)) else (some (t242, 0)))))) else (some (0, 1)))
theorem impl_LawfulLimit.mono : ∀ a0 a1 a2 k, LeO (impl_LawfulLimit.f k a0 a1 a2) (impl_LawfulLimit.f (k + 1) a0 a1 a2) := by
 intro a0 a1 a2 k
 unfold impl_LawfulLimit.f
 repeat' first
   | (with_reducible exact impl_IsMagazine.mono _ _ _ _)
   | (with_reducible exact impl_isMixed.mono _ _ _ _)
   | (with_reducible exact impl_netIn.mono _ _ _ _)
   | (with_reducible exact LeO.refl _)
   | (with_reducible exact LeO.none _)
   | (with_reducible refine LeO.ite ?_ ?_)
   | (with_reducible refine LeO.bind ?_ (fun _ => ?_))
   | exact impl_IsMagazine.mono _ _ _ _
   | exact impl_isMixed.mono _ _ _ _
   | exact impl_netIn.mono _ _ _ _
   | exact LeO.none _
   | refine LeO.ite ?_ ?_
   | refine LeO.bind ?_ (fun _ => ?_)
set_option maxHeartbeats 8000000 in
set_option maxRecDepth 100000 in
theorem impl_LawfulLimit.calls (k : Nat) (A0 : Option Addr) (c0 : Nat) (l0 : List (S65)) (a1_0 : Int) (A1_1 : Option Addr) (c1_1 : Nat) (l1_1 : List Int) (r1 : Int) (r2 : Int) (w : World) (hr0 : Kd.C k65 w A0 l0.length l0) (hc0 : l0.length ≤ c0) (hr1_1 : Kd.C (Kd.int .i64) w A1_1 l1_1.length l1_1) (hc1_1 : l1_1.length ≤ c1_1) (h : impl_LawfulLimit.f k l0 a1_0 l1_1 = some (r1, r2)) :
  Calls Try.prog 32 #[.slice A0 l0.length c0, .agg #[.int .i64 a1_0, .slice A1_1 l1_1.length c1_1]] w fun e w' => e = .returned (.tuple #[.int .i64 r1, .int .i64 r2]) ∧ Below w.heap.size w w' := by
 have hu28 := Try.underlying28
 have HR0 := jB hr0
 have HC0 := jB hc0
 clear hr0 hc0
 have HR1_1 := jB hr1_1
 have HC1_1 := jB hc1_1
 clear hr1_1 hc1_1
 have HB := jB (Below.refl w.heap.size w)
 have H : ((impl_IsMagazine.f k l0 a1_0 l1_1).bind fun t241 => (if t241 = true then ((impl_netIn.f k l0 a1_0 l1_1).bind fun t242 => ((impl_isMixed.f k l0 a1_0 l1_1).bind fun t243 => (if t243 = true then (some (0, 5)) else (if t242 > 1000000000 then (some (0, 5)) else (some (t242, 0)))))) else (some (0, 1)))) = some (r1, r2) := h
 clear h
 replace H := jP.mp H
 obtain ⟨t241, A30, H⟩ := H
 replace H : (if t241 = true then ((impl_netIn.f k l0 a1_0 l1_1).bind fun t242 => ((impl_isMixed.f k l0 a1_0 l1_1).bind fun t243 => (if t243 = true then (some (0, 5)) else (if t242 > 1000000000 then (some (0, 5)) else (some (t242, 0)))))) else (some (0, 1))) = some (r1, r2) := H
 have A3 := jB A30
 clear A30
 by_cases c4 : t241 = true
 ·subst c4
  have H1 : ((impl_netIn.f k l0 a1_0 l1_1).bind fun t242 => ((impl_isMixed.f k l0 a1_0 l1_1).bind fun t243 => (if t243 = true then (some (0, 5)) else (if t242 > 1000000000 then (some (0, 5)) else (some (t242, 0)))))) = some (r1, r2) := by rw [if_pos rfl] at H; exact H
  clear H
  have H := H1
  clear H1
  replace H := jP.mp H
  obtain ⟨t242, A50, H⟩ := H
  replace H : ((impl_isMixed.f k l0 a1_0 l1_1).bind fun t243 => (if t243 = true then (some (0, 5)) else (if t242 > 1000000000 then (some (0, 5)) else (some (t242, 0))))) = some (r1, r2) := H
  have A5 := jB A50
  clear A50
  replace H := jP.mp H
  obtain ⟨t243, A60, H⟩ := H
  replace H : (if t243 = true then (some (0, 5)) else (if t242 > 1000000000 then (some (0, 5)) else (some (t242, 0)))) = some (r1, r2) := H
  have A6 := jB A60
  clear A60
  by_cases c7 : t243 = true
  ·subst c7
   have H1 : (some (0, 5)) = some (r1, r2) := by rw [if_pos rfl] at H; exact H
   clear H
   have H := H1
   clear H1
   simp only [Option.some.injEq, Prod.mk.injEq] at H
   obtain ⟨rfl, rfl⟩ := H
   go_enter Try.func32, Try.ntmps32
   go_wp2_with (first | ((with_reducible refine jR (N := 3) rfl ?_); refine jQ ?hg (N := 3) ?hd (cs := #[.int .i64 a1_0, .slice A1_1 l1_1.length c1_1]) (t := 28) ?hr ?_; (case hd => rfl); (case hg => rfl); (case hr => first | (go_simp; done) | (go_simp; rfl)); intro gb240 hg w8 hbox hb; have n0_ := jB (jL (zb0 HB) hb); have n1_ := jB (hbox); have n2_ := jB ((by rw [hg]; exact (jG (zb0 HB)) : w.heap.size ≤ gb240)); have n3_ := jB ((by rw [hg]; exact (jG (zb0 HB)) : w.heap.size ≤ gb240)); clear HB; have HB := n0_; have BK240 := n1_; have GW240 := n2_; have GE240 := n3_; clear n0_ n1_ n2_ n3_; clear hb hbox hg; have hcz9_0 : w8.cell? ⟨gb240, 0, none⟩ = some (.int .i64 a1_0) := (jD BK240.out 0).trans rfl; have hcz9_1 : w8.cell? ⟨gb240, 1, none⟩ = some (.slice A1_1 l1_1.length c1_1) := (jD BK240.out 1).trans rfl; have hfz9_0 := jC BK240.out 0; have hfz9_1 := jC BK240.out 1) | ((with_reducible refine jS (f := 26) rfl ?_); refine goesL_ (some 9) rfl rfl Try.func26 zr rfl #[.slice A0 l0.length c0, .agg #[.int .i64 a1_0, .slice A1_1 l1_1.length c1_1]] rfl zm ?_; (with_reducible refine (impl_IsMagazine.calls k _ _ l0 a1_0 _ _ l1_1 true _ ?side1 ?side2 ?side3 ?side4 A3.out).mono ?_); (case side1 => exact zs HR0 HB); (case side2 => exact HC0.out); (case side3 => exact zs HR1_1 HB); (case side4 => exact HC1_1.out); rintro e w10 ⟨rfl, hb⟩; refine ⟨_, rfl, ?_⟩; have n0_ := jB (jV (g := gb240) (o := .cells #[.int .i64 a1_0, .slice A1_1 l1_1.length c1_1] 28 (0, 0)) (zk BK240) hb); have n1_ := jB (jL (zb1 HB GE240) hb); clear BK240; clear HB; have BK240 := n0_; have HB := n1_; clear n0_ n1_; (try clear hb); (try clear hb2); (try clear hk); (try clear hi); have hcz11_0 : w10.cell? ⟨gb240, 0, none⟩ = some (.int .i64 a1_0) := (jD BK240.out 0).trans rfl; have hcz11_1 : w10.cell? ⟨gb240, 1, none⟩ = some (.slice A1_1 l1_1.length c1_1) := (jD BK240.out 1).trans rfl; have hfz11_0 := jC BK240.out 0; have hfz11_1 := jC BK240.out 1) | ((with_reducible refine jS (f := 64) rfl ?_); refine goesL_ (some 13) rfl rfl Try.func64 zr rfl #[.slice A0 l0.length c0, .agg #[.int .i64 a1_0, .slice A1_1 l1_1.length c1_1]] rfl zm ?_; (with_reducible refine (impl_netIn.calls k _ _ l0 a1_0 _ _ l1_1 t242 _ ?side1 ?side2 ?side3 ?side4 A5.out).mono ?_); (case side1 => exact zs HR0 HB); (case side2 => exact HC0.out); (case side3 => exact zs HR1_1 HB); (case side4 => exact HC1_1.out); rintro e w12 ⟨rfl, hb⟩; refine ⟨_, rfl, ?_⟩; have n0_ := jB (jV (g := gb240) (o := .cells #[.int .i64 a1_0, .slice A1_1 l1_1.length c1_1] 28 (0, 0)) (zk BK240) hb); have n1_ := jB (jL (zb1 HB GE240) hb); clear BK240; clear HB; have BK240 := n0_; have HB := n1_; clear n0_ n1_; (try clear hb); (try clear hb2); (try clear hk); (try clear hi); have hcz13_0 : w12.cell? ⟨gb240, 0, none⟩ = some (.int .i64 a1_0) := (jD BK240.out 0).trans rfl; have hcz13_1 : w12.cell? ⟨gb240, 1, none⟩ = some (.slice A1_1 l1_1.length c1_1) := (jD BK240.out 1).trans rfl; have hfz13_0 := jC BK240.out 0; have hfz13_1 := jC BK240.out 1) | ((with_reducible refine jS (f := 68) rfl ?_); refine goesL_ (some 16) rfl rfl Try.func68 zr rfl #[.slice A0 l0.length c0, .agg #[.int .i64 a1_0, .slice A1_1 l1_1.length c1_1]] rfl zm ?_; (with_reducible refine (impl_isMixed.calls k _ _ l0 a1_0 _ _ l1_1 true _ ?side1 ?side2 ?side3 ?side4 A6.out).mono ?_); (case side1 => exact zs HR0 HB); (case side2 => exact HC0.out); (case side3 => exact zs HR1_1 HB); (case side4 => exact HC1_1.out); rintro e w14 ⟨rfl, hb⟩; refine ⟨_, rfl, ?_⟩; have n0_ := jB (jV (g := gb240) (o := .cells #[.int .i64 a1_0, .slice A1_1 l1_1.length c1_1] 28 (0, 0)) (zk BK240) hb); have n1_ := jB (jL (zb1 HB GE240) hb); clear BK240; clear HB; have BK240 := n0_; have HB := n1_; clear n0_ n1_; (try clear hb); (try clear hb2); (try clear hk); (try clear hi)))
   go_ret2
   exact ⟨by first | rfl | (simp [errW_none, errW_some] <;> rfl) | (simp [*, errW_none, errW_some] <;> rfl), zb1 HB GE240⟩
  ·replace c7 := Bool.eq_false_iff.mpr c7
   subst c7
   have H1 : (if t242 > 1000000000 then (some (0, 5)) else (some (t242, 0))) = some (r1, r2) := by rw [if_neg (show ¬ (false = true) by decide)] at H; exact H
   clear H
   have H := H1
   clear H1
   by_cases c15 : t242 > 1000000000
   ·rw [if_pos c15] at H
    have c15b0 : decide (1000000000 < t242) = true := jO c15
    clear c15
    simp only [Option.some.injEq, Prod.mk.injEq] at H
    obtain ⟨rfl, rfl⟩ := H
    go_enter Try.func32, Try.ntmps32
    go_wp2_with (first | ((with_reducible refine jR (N := 3) rfl ?_); refine jQ ?hg (N := 3) ?hd (cs := #[.int .i64 a1_0, .slice A1_1 l1_1.length c1_1]) (t := 28) ?hr ?_; (case hd => rfl); (case hg => rfl); (case hr => first | (go_simp; done) | (go_simp; rfl)); intro gb240 hg w16 hbox hb; have n0_ := jB (jL (zb0 HB) hb); have n1_ := jB (hbox); have n2_ := jB ((by rw [hg]; exact (jG (zb0 HB)) : w.heap.size ≤ gb240)); have n3_ := jB ((by rw [hg]; exact (jG (zb0 HB)) : w.heap.size ≤ gb240)); clear HB; have HB := n0_; have BK240 := n1_; have GW240 := n2_; have GE240 := n3_; clear n0_ n1_ n2_ n3_; clear hb hbox hg; have hcz17_0 : w16.cell? ⟨gb240, 0, none⟩ = some (.int .i64 a1_0) := (jD BK240.out 0).trans rfl; have hcz17_1 : w16.cell? ⟨gb240, 1, none⟩ = some (.slice A1_1 l1_1.length c1_1) := (jD BK240.out 1).trans rfl; have hfz17_0 := jC BK240.out 0; have hfz17_1 := jC BK240.out 1) | ((with_reducible refine jS (f := 26) rfl ?_); refine goesL_ (some 9) rfl rfl Try.func26 zr rfl #[.slice A0 l0.length c0, .agg #[.int .i64 a1_0, .slice A1_1 l1_1.length c1_1]] rfl zm ?_; (with_reducible refine (impl_IsMagazine.calls k _ _ l0 a1_0 _ _ l1_1 true _ ?side1 ?side2 ?side3 ?side4 A3.out).mono ?_); (case side1 => exact zs HR0 HB); (case side2 => exact HC0.out); (case side3 => exact zs HR1_1 HB); (case side4 => exact HC1_1.out); rintro e w18 ⟨rfl, hb⟩; refine ⟨_, rfl, ?_⟩; have n0_ := jB (jV (g := gb240) (o := .cells #[.int .i64 a1_0, .slice A1_1 l1_1.length c1_1] 28 (0, 0)) (zk BK240) hb); have n1_ := jB (jL (zb1 HB GE240) hb); clear BK240; clear HB; have BK240 := n0_; have HB := n1_; clear n0_ n1_; (try clear hb); (try clear hb2); (try clear hk); (try clear hi); have hcz19_0 : w18.cell? ⟨gb240, 0, none⟩ = some (.int .i64 a1_0) := (jD BK240.out 0).trans rfl; have hcz19_1 : w18.cell? ⟨gb240, 1, none⟩ = some (.slice A1_1 l1_1.length c1_1) := (jD BK240.out 1).trans rfl; have hfz19_0 := jC BK240.out 0; have hfz19_1 := jC BK240.out 1) | ((with_reducible refine jS (f := 64) rfl ?_); refine goesL_ (some 13) rfl rfl Try.func64 zr rfl #[.slice A0 l0.length c0, .agg #[.int .i64 a1_0, .slice A1_1 l1_1.length c1_1]] rfl zm ?_; (with_reducible refine (impl_netIn.calls k _ _ l0 a1_0 _ _ l1_1 t242 _ ?side1 ?side2 ?side3 ?side4 A5.out).mono ?_); (case side1 => exact zs HR0 HB); (case side2 => exact HC0.out); (case side3 => exact zs HR1_1 HB); (case side4 => exact HC1_1.out); rintro e w20 ⟨rfl, hb⟩; refine ⟨_, rfl, ?_⟩; have n0_ := jB (jV (g := gb240) (o := .cells #[.int .i64 a1_0, .slice A1_1 l1_1.length c1_1] 28 (0, 0)) (zk BK240) hb); have n1_ := jB (jL (zb1 HB GE240) hb); clear BK240; clear HB; have BK240 := n0_; have HB := n1_; clear n0_ n1_; (try clear hb); (try clear hb2); (try clear hk); (try clear hi); have hcz21_0 : w20.cell? ⟨gb240, 0, none⟩ = some (.int .i64 a1_0) := (jD BK240.out 0).trans rfl; have hcz21_1 : w20.cell? ⟨gb240, 1, none⟩ = some (.slice A1_1 l1_1.length c1_1) := (jD BK240.out 1).trans rfl; have hfz21_0 := jC BK240.out 0; have hfz21_1 := jC BK240.out 1) | ((with_reducible refine jS (f := 68) rfl ?_); refine goesL_ (some 16) rfl rfl Try.func68 zr rfl #[.slice A0 l0.length c0, .agg #[.int .i64 a1_0, .slice A1_1 l1_1.length c1_1]] rfl zm ?_; (with_reducible refine (impl_isMixed.calls k _ _ l0 a1_0 _ _ l1_1 false _ ?side1 ?side2 ?side3 ?side4 A6.out).mono ?_); (case side1 => exact zs HR0 HB); (case side2 => exact HC0.out); (case side3 => exact zs HR1_1 HB); (case side4 => exact HC1_1.out); rintro e w22 ⟨rfl, hb⟩; refine ⟨_, rfl, ?_⟩; have n0_ := jB (jV (g := gb240) (o := .cells #[.int .i64 a1_0, .slice A1_1 l1_1.length c1_1] 28 (0, 0)) (zk BK240) hb); have n1_ := jB (jL (zb1 HB GE240) hb); clear BK240; clear HB; have BK240 := n0_; have HB := n1_; clear n0_ n1_; (try clear hb); (try clear hb2); (try clear hk); (try clear hi)))
    go_ret2
    exact ⟨by first | rfl | (simp [errW_none, errW_some] <;> rfl) | (simp [*, errW_none, errW_some] <;> rfl), zb1 HB GE240⟩
   ·rw [if_neg c15] at H
    have c15b0 : decide (1000000000 < t242) = false := jU c15
    clear c15
    simp only [Option.some.injEq, Prod.mk.injEq] at H
    obtain ⟨rfl, rfl⟩ := H
    go_enter Try.func32, Try.ntmps32
    go_wp2_with (first | ((with_reducible refine jR (N := 3) rfl ?_); refine jQ ?hg (N := 3) ?hd (cs := #[.int .i64 a1_0, .slice A1_1 l1_1.length c1_1]) (t := 28) ?hr ?_; (case hd => rfl); (case hg => rfl); (case hr => first | (go_simp; done) | (go_simp; rfl)); intro gb240 hg w23 hbox hb; have n0_ := jB (jL (zb0 HB) hb); have n1_ := jB (hbox); have n2_ := jB ((by rw [hg]; exact (jG (zb0 HB)) : w.heap.size ≤ gb240)); have n3_ := jB ((by rw [hg]; exact (jG (zb0 HB)) : w.heap.size ≤ gb240)); clear HB; have HB := n0_; have BK240 := n1_; have GW240 := n2_; have GE240 := n3_; clear n0_ n1_ n2_ n3_; clear hb hbox hg; have hcz24_0 : w23.cell? ⟨gb240, 0, none⟩ = some (.int .i64 a1_0) := (jD BK240.out 0).trans rfl; have hcz24_1 : w23.cell? ⟨gb240, 1, none⟩ = some (.slice A1_1 l1_1.length c1_1) := (jD BK240.out 1).trans rfl; have hfz24_0 := jC BK240.out 0; have hfz24_1 := jC BK240.out 1) | ((with_reducible refine jS (f := 26) rfl ?_); refine goesL_ (some 9) rfl rfl Try.func26 zr rfl #[.slice A0 l0.length c0, .agg #[.int .i64 a1_0, .slice A1_1 l1_1.length c1_1]] rfl zm ?_; (with_reducible refine (impl_IsMagazine.calls k _ _ l0 a1_0 _ _ l1_1 true _ ?side1 ?side2 ?side3 ?side4 A3.out).mono ?_); (case side1 => exact zs HR0 HB); (case side2 => exact HC0.out); (case side3 => exact zs HR1_1 HB); (case side4 => exact HC1_1.out); rintro e w25 ⟨rfl, hb⟩; refine ⟨_, rfl, ?_⟩; have n0_ := jB (jV (g := gb240) (o := .cells #[.int .i64 a1_0, .slice A1_1 l1_1.length c1_1] 28 (0, 0)) (zk BK240) hb); have n1_ := jB (jL (zb1 HB GE240) hb); clear BK240; clear HB; have BK240 := n0_; have HB := n1_; clear n0_ n1_; (try clear hb); (try clear hb2); (try clear hk); (try clear hi); have hcz26_0 : w25.cell? ⟨gb240, 0, none⟩ = some (.int .i64 a1_0) := (jD BK240.out 0).trans rfl; have hcz26_1 : w25.cell? ⟨gb240, 1, none⟩ = some (.slice A1_1 l1_1.length c1_1) := (jD BK240.out 1).trans rfl; have hfz26_0 := jC BK240.out 0; have hfz26_1 := jC BK240.out 1) | ((with_reducible refine jS (f := 64) rfl ?_); refine goesL_ (some 13) rfl rfl Try.func64 zr rfl #[.slice A0 l0.length c0, .agg #[.int .i64 a1_0, .slice A1_1 l1_1.length c1_1]] rfl zm ?_; (with_reducible refine (impl_netIn.calls k _ _ l0 a1_0 _ _ l1_1 t242 _ ?side1 ?side2 ?side3 ?side4 A5.out).mono ?_); (case side1 => exact zs HR0 HB); (case side2 => exact HC0.out); (case side3 => exact zs HR1_1 HB); (case side4 => exact HC1_1.out); rintro e w27 ⟨rfl, hb⟩; refine ⟨_, rfl, ?_⟩; have n0_ := jB (jV (g := gb240) (o := .cells #[.int .i64 a1_0, .slice A1_1 l1_1.length c1_1] 28 (0, 0)) (zk BK240) hb); have n1_ := jB (jL (zb1 HB GE240) hb); clear BK240; clear HB; have BK240 := n0_; have HB := n1_; clear n0_ n1_; (try clear hb); (try clear hb2); (try clear hk); (try clear hi); have hcz28_0 : w27.cell? ⟨gb240, 0, none⟩ = some (.int .i64 a1_0) := (jD BK240.out 0).trans rfl; have hcz28_1 : w27.cell? ⟨gb240, 1, none⟩ = some (.slice A1_1 l1_1.length c1_1) := (jD BK240.out 1).trans rfl; have hfz28_0 := jC BK240.out 0; have hfz28_1 := jC BK240.out 1) | ((with_reducible refine jS (f := 68) rfl ?_); refine goesL_ (some 16) rfl rfl Try.func68 zr rfl #[.slice A0 l0.length c0, .agg #[.int .i64 a1_0, .slice A1_1 l1_1.length c1_1]] rfl zm ?_; (with_reducible refine (impl_isMixed.calls k _ _ l0 a1_0 _ _ l1_1 false _ ?side1 ?side2 ?side3 ?side4 A6.out).mono ?_); (case side1 => exact zs HR0 HB); (case side2 => exact HC0.out); (case side3 => exact zs HR1_1 HB); (case side4 => exact HC1_1.out); rintro e w29 ⟨rfl, hb⟩; refine ⟨_, rfl, ?_⟩; have n0_ := jB (jV (g := gb240) (o := .cells #[.int .i64 a1_0, .slice A1_1 l1_1.length c1_1] 28 (0, 0)) (zk BK240) hb); have n1_ := jB (jL (zb1 HB GE240) hb); clear BK240; clear HB; have BK240 := n0_; have HB := n1_; clear n0_ n1_; (try clear hb); (try clear hb2); (try clear hk); (try clear hi)))
    go_ret2
    exact ⟨by first | rfl | (simp [errW_none, errW_some] <;> rfl) | (simp [*, errW_none, errW_some] <;> rfl), zb1 HB GE240⟩
 ·replace c4 := Bool.eq_false_iff.mpr c4
  subst c4
  have H1 : (some (0, 1)) = some (r1, r2) := by rw [if_neg (show ¬ (false = true) by decide)] at H; exact H
  clear H
  have H := H1
  clear H1
  simp only [Option.some.injEq, Prod.mk.injEq] at H
  obtain ⟨rfl, rfl⟩ := H
  go_enter Try.func32, Try.ntmps32
  go_wp2_with (first | ((with_reducible refine jR (N := 3) rfl ?_); refine jQ ?hg (N := 3) ?hd (cs := #[.int .i64 a1_0, .slice A1_1 l1_1.length c1_1]) (t := 28) ?hr ?_; (case hd => rfl); (case hg => rfl); (case hr => first | (go_simp; done) | (go_simp; rfl)); intro gb240 hg w30 hbox hb; have n0_ := jB (jL (zb0 HB) hb); have n1_ := jB (hbox); have n2_ := jB ((by rw [hg]; exact (jG (zb0 HB)) : w.heap.size ≤ gb240)); have n3_ := jB ((by rw [hg]; exact (jG (zb0 HB)) : w.heap.size ≤ gb240)); clear HB; have HB := n0_; have BK240 := n1_; have GW240 := n2_; have GE240 := n3_; clear n0_ n1_ n2_ n3_; clear hb hbox hg; have hcz31_0 : w30.cell? ⟨gb240, 0, none⟩ = some (.int .i64 a1_0) := (jD BK240.out 0).trans rfl; have hcz31_1 : w30.cell? ⟨gb240, 1, none⟩ = some (.slice A1_1 l1_1.length c1_1) := (jD BK240.out 1).trans rfl; have hfz31_0 := jC BK240.out 0; have hfz31_1 := jC BK240.out 1) | ((with_reducible refine jS (f := 26) rfl ?_); refine goesL_ (some 9) rfl rfl Try.func26 zr rfl #[.slice A0 l0.length c0, .agg #[.int .i64 a1_0, .slice A1_1 l1_1.length c1_1]] rfl zm ?_; (with_reducible refine (impl_IsMagazine.calls k _ _ l0 a1_0 _ _ l1_1 false _ ?side1 ?side2 ?side3 ?side4 A3.out).mono ?_); (case side1 => exact zs HR0 HB); (case side2 => exact HC0.out); (case side3 => exact zs HR1_1 HB); (case side4 => exact HC1_1.out); rintro e w32 ⟨rfl, hb⟩; refine ⟨_, rfl, ?_⟩; have n0_ := jB (jV (g := gb240) (o := .cells #[.int .i64 a1_0, .slice A1_1 l1_1.length c1_1] 28 (0, 0)) (zk BK240) hb); have n1_ := jB (jL (zb1 HB GE240) hb); clear BK240; clear HB; have BK240 := n0_; have HB := n1_; clear n0_ n1_; (try clear hb); (try clear hb2); (try clear hk); (try clear hi)))
  go_ret2
  exact ⟨by first | rfl | (simp [errW_none, errW_some] <;> rfl) | (simp [*, errW_none, errW_some] <;> rfl), zb1 HB GE240⟩

end Go.Proofs.Ytdgglhfnlljmeaa.PFnExactLawfulLimit
