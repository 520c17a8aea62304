/- Functions and contracts that FnExactRoomFor reaches (15 of 15). -/
import Derived.Test.YtdgglhfnlljmeaaQFnExactRoomForx13
namespace Go.Proofs.Ytdgglhfnlljmeaa.PFnExactRoomFor
open Go.RowKit Go.Proofs.YtdgglhfnlljmeaaW.PrintWords Go.Proofs.YtdgglhfnlljmeaaW.PrintLast Go.Proofs.YtdgglhfnlljmeaaW.PrintMore
attribute [local go_sem] max2_int min2_int max_two min_two max_three min_three max_four min_four   -- for this text's walks alone
set_option linter.unusedVariables false
set_option linter.unusedSimpArgs false
open Go.Proofs.YtdgglhfnlljmeaaX

/-! ### impl_isStored: function 71 -/
def impl_isStored.f (k : Nat) (l0 : List (S65)) (a1_0 : Int) (l1_1 : List Int) (a2 : Int) (a3 : Int) : Option (Bool) := (impl_withPieces.f a1_0 l1_1 a2 a3).bind fun bt297 => ((impl_IsMagazine.f k l0 bt297.1 bt297.2).bind fun t302 => (if t302 = true then ((impl_isLawful.f k l0 bt297.1 bt297.2).bind fun t303 => (some t303)) else (some false)))
theorem impl_isStored.mono : ∀ a0 a1 a2 a3 a4 k, LeO (impl_isStored.f k a0 a1 a2 a3 a4) (impl_isStored.f (k + 1) a0 a1 a2 a3 a4) := by
 intro a0 a1 a2 a3 a4 k
 unfold impl_isStored.f
 repeat' first
   | (with_reducible exact impl_IsMagazine.mono _ _ _ _)
   | (with_reducible exact impl_isLawful.mono _ _ _ _)
   | (with_reducible exact LeO.refl _)
   | (with_reducible exact LeO.none _)
   | (with_reducible refine LeO.ite ?_ ?_)
   | (with_reducible refine LeO.bind ?_ (fun _ => ?_))
   | exact impl_IsMagazine.mono _ _ _ _
   | exact impl_isLawful.mono _ _ _ _
   | exact LeO.none _
   | refine LeO.ite ?_ ?_
   | refine LeO.bind ?_ (fun _ => ?_)
set_option maxHeartbeats 8000000 in
set_option maxRecDepth 100000 in
theorem impl_isStored.calls (k : Nat) (A0 : Option Addr) (c0 : Nat) (l0 : List (S65)) (a1_0 : Int) (A1_1 : Option Addr) (c1_1 : Nat) (l1_1 : List Int) (a2 : Int) (a3 : Int) (r : Bool) (w : World) (hr0 : Kd.C k65 w A0 l0.length l0) (hc0 : l0.length ≤ c0) (hr1_1 : Kd.C (Kd.int .i64) w A1_1 l1_1.length l1_1) (hc1_1 : l1_1.length ≤ c1_1) (h : impl_isStored.f k l0 a1_0 l1_1 a2 a3 = some r) :
  Calls Try.prog 71 #[.slice A0 l0.length c0, .agg #[.int .i64 a1_0, .slice A1_1 l1_1.length c1_1], .int .i64 a2, .int .i64 a3] w fun e w' => e = .returned (.bool r) ∧ Below w.heap.size w w' := by
 have hu28 := Try.underlying28
 have HR0 := jB hr0
 have HC0 := jB hc0
 clear hr0 hc0
 have HR1_1 := jB hr1_1
 have HC1_1 := jB hc1_1
 clear hr1_1 hc1_1
 have HB := jB (Below.refl w.heap.size w)
 have H : ((impl_withPieces.f a1_0 l1_1 a2 a3).bind fun bt297 => ((impl_IsMagazine.f k l0 bt297.1 bt297.2).bind fun t302 => (if t302 = true then ((impl_isLawful.f k l0 bt297.1 bt297.2).bind fun t303 => (some t303)) else (some false)))) = some r := h
 clear h
 replace H := jP.mp H
 obtain ⟨⟨t297, t298⟩, A50, H⟩ := H
 replace H : ((impl_IsMagazine.f k l0 t297 t298).bind fun t302 => (if t302 = true then ((impl_isLawful.f k l0 t297 t298).bind fun t303 => (some t303)) else (some false))) = some r := H
 have A5 := jB A50
 clear A50
 replace H := jP.mp H
 obtain ⟨t302, A60, H⟩ := H
 replace H : (if t302 = true then ((impl_isLawful.f k l0 t297 t298).bind fun t303 => (some t303)) else (some false)) = some r := H
 have A6 := jB A60
 clear A60
 by_cases c7 : t302 = true
 ·subst c7
  have H1 : ((impl_isLawful.f k l0 t297 t298).bind fun t303 => (some t303)) = some r := by rw [if_pos rfl] at H; exact H
  clear H
  have H := H1
  clear H1
  replace H := jP.mp H
  obtain ⟨t303, A80, H⟩ := H
  replace H : (some t303) = some r := H
  have A8 := jB A80
  clear A80
  obtain rfl := jN H
  go_enter Try.func71, Try.ntmps71
  go_wp2_with (first | ((with_reducible refine jV (N := 5) rfl ?_); refine jU ?hg (N := 5) ?hd (cs := #[.int .i64 a1_0, .slice A1_1 l1_1.length c1_1]) (t := 28) ?hr ?_; (case hd => rfl); (case hg => rfl); (case hr => first | (go_simp; done) | (go_simp; rfl)); intro gb296 hg w9 hbox hb; have n0_ := jB (jK (zb0 HB) hb); have n1_ := jB (hbox); have n2_ := jB ((by rw [hg]; exact (jF (zb0 HB)) : w.heap.size ≤ gb296)); have n3_ := jB ((by rw [hg]; exact (jF (zb0 HB)) : w.heap.size ≤ gb296)); clear HB; have HB := n0_; have BK296 := n1_; have GW296 := n2_; have GE296 := n3_; clear n0_ n1_ n2_ n3_; clear hb hbox hg; have hcz10_0 : w9.cell? ⟨gb296, 0, none⟩ = some (.int .i64 a1_0) := (jC BK296.out 0).trans rfl; have hcz10_1 : w9.cell? ⟨gb296, 1, none⟩ = some (.slice A1_1 l1_1.length c1_1) := (jC BK296.out 1).trans rfl; have hfz10_0 := jD BK296.out 0; have hfz10_1 := jD BK296.out 1) | ((with_reducible refine jW (f := 74) rfl ?_); refine goesL_ (some 13) rfl rfl Try.func74 zr rfl #[.agg #[.int .i64 a1_0, .slice A1_1 l1_1.length c1_1], .int .i64 a2, .int .i64 a3] rfl zm ?_; (with_reducible refine (impl_withPieces.calls a1_0 _ _ l1_1 a2 a3 t297 t298 _ ?side1 ?side2 A5.out).mono ?_); (case side1 => exact zs HR1_1 HB); (case side2 => exact HC1_1.out); rintro e w11 ⟨v299, rfl, ho0, hb⟩; refine ⟨_, rfl, ?_⟩; have n0_ := jB (Kd.R_lower ho0 (jF (zb1 HB GE296))); have n1_ := jB (jO (g := gb296) (o := .cells #[.int .i64 a1_0, .slice A1_1 l1_1.length c1_1] 28 (0, 0)) (zk BK296) hb); have n2_ := jB (jK (zb1 HB GE296) hb); clear BK296; clear HB; have HO300 := n0_; have BK296 := n1_; have HB := n2_; clear n0_ n1_ n2_; (try clear hb); (try clear hb2); (try clear hk); (try clear hi); (try clear ho0)) | ((with_reducible refine jV (N := 9) rfl ?_); refine jU ?hg (N := 9) ?hd (cs := #[.int .i64 0, .slice none 0 0]) (t := 28) ?hr ?_; (case hd => rfl); (case hg => rfl); (case hr => first | (go_simp; done) | (go_simp; rfl)); intro gb301 hg w12 hbox hb; have n0_ := jB (Kd.R_below (zo HO300) hb); have n1_ := jB (jO (g := gb296) (o := .cells #[.int .i64 a1_0, .slice A1_1 l1_1.length c1_1] 28 (0, 0)) (zk BK296) hb); have n2_ := jB (jK (zb1 HB GE296) hb); have n3_ := jB (hbox); have n4_ := jB ((by rw [hg]; exact (jF (zb1 HB GE296)) : w.heap.size ≤ gb301)); have n5_ := jB ((by rw [hg]; exact (jF (zb1 HB GE296)) : w.heap.size ≤ gb301)); have n6_ := jB ((by rw [hg]; exact jM (blk_lt (g := gb296) (o := .cells #[.int .i64 a1_0, .slice A1_1 l1_1.length c1_1] 28 (0, 0)) (zk BK296)) : gb296 ≠ gb301)); have n7_ := jB n6_.out.symm; clear HO300; clear BK296; clear HB; have HO300 := n0_; have BK296 := n1_; have HB := n2_; have BK301 := n3_; have GW301 := n4_; have GE301 := n5_; have NB296_301 := n6_; have NB301_296 := n7_; clear n0_ n1_ n2_ n3_ n4_ n5_ n6_ n7_; clear hb hbox hg; have hnb13 := NB301_296.out; have hnc13 := NB296_301.out; have hcz14_0 : w12.cell? ⟨gb301, 0, none⟩ = some (.int .i64 0) := (jC BK301.out 0).trans rfl; have hcz14_1 : w12.cell? ⟨gb301, 1, none⟩ = some (.slice none 0 0) := (jC BK301.out 1).trans rfl; have hfz14_0 := jD BK301.out 0; have hfz14_1 := jD BK301.out 1; obtain ⟨Ao15, co15, eo15⟩ := Kd.R_slice HO300.out; subst eo15) | ((with_reducible refine jW (f := 26) rfl ?_); refine goesL_ (some 16) rfl rfl Try.func26 zr rfl #[.slice A0 l0.length c0, .agg #[.int .i64 t297, .slice Ao15 t298.length co15]] rfl zm ?_; (with_reducible refine (impl_IsMagazine.calls k _ _ l0 t297 _ _ t298 true _ ?side1 ?side2 ?side3 ?side4 A6.out).mono ?_); (case side1 => exact Kd.C_below HR0.out (zb2 HB GE296 GE301)); (case side2 => exact HC0.out); (case side3 => refine (Kd.R_reads' (e := 2) (base := w.heap.size) (ok := fun k_ => True) (n := t298.length) (c := co15) ?_).2.2; exact (by (with_reducible repeat (first | apply Kd.R_alloc | apply Kd.R_drewN | apply Kd.R_drew)); exact (Kd.R_mono (Kd.R_far (p := ⟨gb301, 1, none⟩) (Kd.R_far (p := ⟨gb301, 0, none⟩) (Kd.R_types HO300.out BK301.out (by decide)) (fun _ hk => hk.2) (.int .i64 t297)) (fun _ hk => hk.2) (.slice Ao15 t298.length co15)) (fun _ h_ => h_.1)))); (case side4 => exact (Kd.R_reads' HO300.out).2.1); rintro e w16 ⟨rfl, hb⟩; refine ⟨_, rfl, ?_⟩; have n0_ := jB (Kd.R_below (by (with_reducible repeat (first | apply Kd.R_alloc | apply Kd.R_drewN | apply Kd.R_drew)); exact (Kd.R_mono (Kd.R_far (p := ⟨gb301, 1, none⟩) (Kd.R_far (p := ⟨gb301, 0, none⟩) (Kd.R_types HO300.out BK301.out (by decide)) (fun _ hk => hk.2) (.int .i64 t297)) (fun _ hk => hk.2) (.slice Ao15 t298.length co15)) (fun _ h_ => h_.1))) hb); have n1_ := jB (jO (g := gb296) (o := .cells #[.int .i64 a1_0, .slice A1_1 l1_1.length c1_1] 28 (0, 0)) (by (with_reducible repeat (first | refine jG ?_ _ | refine jI ?_ | refine jH ?_ _)); refine jY ?_ NB296_301.out _; (with_reducible repeat (first | refine jG ?_ _ | refine jI ?_ | refine jH ?_ _)); refine jY ?_ NB296_301.out _; (with_reducible repeat (first | refine jG ?_ _ | refine jI ?_ | refine jH ?_ _)); exact BK296.out) hb); have n2_ := jB (jO (g := gb301) (o := .cells #[.int .i64 t297, .slice Ao15 t298.length co15] 28 (0, 0)) (by (with_reducible repeat (first | refine jG ?_ _ | refine jI ?_ | refine jH ?_ _)); refine ja (cs := #[.int .i64 t297, .slice none 0 0]) ?_ 1 _ rfl; (with_reducible repeat (first | refine jG ?_ _ | refine jI ?_ | refine jH ?_ _)); refine ja (cs := #[.int .i64 0, .slice none 0 0]) ?_ 0 _ rfl; (with_reducible repeat (first | refine jG ?_ _ | refine jI ?_ | refine jH ?_ _)); exact BK301.out) hb); have n3_ := jB (jK (zb2 HB GE296 GE301) hb); clear HO300; clear BK296; clear BK301; clear HB; have HO300 := n0_; have BK296 := n1_; have BK301 := n2_; have HB := n3_; clear n0_ n1_ n2_ n3_; (try clear hb); (try clear hb2); (try clear hk); (try clear hi); have hcz17_0 : w16.cell? ⟨gb301, 0, none⟩ = some (.int .i64 t297) := (jC BK301.out 0).trans rfl; have hcz17_1 : w16.cell? ⟨gb301, 1, none⟩ = some (.slice Ao15 t298.length co15) := (jC BK301.out 1).trans rfl; have hfz17_0 := jD BK301.out 0; have hfz17_1 := jD BK301.out 1) | (go_at_call 66; (with_reducible refine (impl_isLawful.calls k _ _ l0 t297 _ _ t298 t303 _ ?side1 ?side2 ?side3 ?side4 A8.out).mono ?_); (case side1 => exact zs HR0 HB); (case side2 => exact HC0.out); (case side3 => repeat (first | exact (Kd.R_reads' HO300.out).2.2 | (with_reducible refine Kd.C_alloc ?_ _) | (with_reducible refine Kd.C_drewN ?_ _) | (with_reducible refine Kd.C_drew ?_))); (case side4 => exact (Kd.R_reads' HO300.out).2.1); rintro e w18 ⟨rfl, hb⟩; have n0_ := jB (Kd.R_below (zo HO300) hb); have n1_ := jB (jO (g := gb296) (o := .cells #[.int .i64 a1_0, .slice A1_1 l1_1.length c1_1] 28 (0, 0)) (zk BK296) hb); have n2_ := jB (jO (g := gb301) (o := .cells #[.int .i64 t297, .slice Ao15 t298.length co15] 28 (0, 0)) (zk BK301) hb); have n3_ := jB (jK (zb2 HB GE296 GE301) hb); clear HO300; clear BK296; clear BK301; clear HB; have HO300 := n0_; have BK296 := n1_; have BK301 := n2_; have HB := n3_; clear n0_ n1_ n2_ n3_; (try clear hb); (try clear hb2); (try clear hk); (try clear hi)))
  go_ret
  exact ⟨by first | rfl | (simp [errW_none, errW_some] <;> rfl) | (simp [*, errW_none, errW_some] <;> rfl), zb2 HB GE296 GE301⟩
 ·replace c7 := Bool.eq_false_iff.mpr c7
  subst c7
  have H1 : (some false) = some r := by rw [if_neg (show ¬ (false = true) by decide)] at H; exact H
  clear H
  have H := H1
  clear H1
  obtain rfl := jN H
  go_enter Try.func71, Try.ntmps71
  go_wp2_with (first | ((with_reducible refine jV (N := 5) rfl ?_); refine jU ?hg (N := 5) ?hd (cs := #[.int .i64 a1_0, .slice A1_1 l1_1.length c1_1]) (t := 28) ?hr ?_; (case hd => rfl); (case hg => rfl); (case hr => first | (go_simp; done) | (go_simp; rfl)); intro gb296 hg w19 hbox hb; have n0_ := jB (jK (zb0 HB) hb); have n1_ := jB (hbox); have n2_ := jB ((by rw [hg]; exact (jF (zb0 HB)) : w.heap.size ≤ gb296)); have n3_ := jB ((by rw [hg]; exact (jF (zb0 HB)) : w.heap.size ≤ gb296)); clear HB; have HB := n0_; have BK296 := n1_; have GW296 := n2_; have GE296 := n3_; clear n0_ n1_ n2_ n3_; clear hb hbox hg; have hcz20_0 : w19.cell? ⟨gb296, 0, none⟩ = some (.int .i64 a1_0) := (jC BK296.out 0).trans rfl; have hcz20_1 : w19.cell? ⟨gb296, 1, none⟩ = some (.slice A1_1 l1_1.length c1_1) := (jC BK296.out 1).trans rfl; have hfz20_0 := jD BK296.out 0; have hfz20_1 := jD BK296.out 1) | ((with_reducible refine jW (f := 74) rfl ?_); refine goesL_ (some 13) rfl rfl Try.func74 zr rfl #[.agg #[.int .i64 a1_0, .slice A1_1 l1_1.length c1_1], .int .i64 a2, .int .i64 a3] rfl zm ?_; (with_reducible refine (impl_withPieces.calls a1_0 _ _ l1_1 a2 a3 t297 t298 _ ?side1 ?side2 A5.out).mono ?_); (case side1 => exact zs HR1_1 HB); (case side2 => exact HC1_1.out); rintro e w21 ⟨v299, rfl, ho0, hb⟩; refine ⟨_, rfl, ?_⟩; have n0_ := jB (Kd.R_lower ho0 (jF (zb1 HB GE296))); have n1_ := jB (jO (g := gb296) (o := .cells #[.int .i64 a1_0, .slice A1_1 l1_1.length c1_1] 28 (0, 0)) (zk BK296) hb); have n2_ := jB (jK (zb1 HB GE296) hb); clear BK296; clear HB; have HO300 := n0_; have BK296 := n1_; have HB := n2_; clear n0_ n1_ n2_; (try clear hb); (try clear hb2); (try clear hk); (try clear hi); (try clear ho0)) | ((with_reducible refine jV (N := 9) rfl ?_); refine jU ?hg (N := 9) ?hd (cs := #[.int .i64 0, .slice none 0 0]) (t := 28) ?hr ?_; (case hd => rfl); (case hg => rfl); (case hr => first | (go_simp; done) | (go_simp; rfl)); intro gb301 hg w22 hbox hb; have n0_ := jB (Kd.R_below (zo HO300) hb); have n1_ := jB (jO (g := gb296) (o := .cells #[.int .i64 a1_0, .slice A1_1 l1_1.length c1_1] 28 (0, 0)) (zk BK296) hb); have n2_ := jB (jK (zb1 HB GE296) hb); have n3_ := jB (hbox); have n4_ := jB ((by rw [hg]; exact (jF (zb1 HB GE296)) : w.heap.size ≤ gb301)); have n5_ := jB ((by rw [hg]; exact (jF (zb1 HB GE296)) : w.heap.size ≤ gb301)); have n6_ := jB ((by rw [hg]; exact jM (blk_lt (g := gb296) (o := .cells #[.int .i64 a1_0, .slice A1_1 l1_1.length c1_1] 28 (0, 0)) (zk BK296)) : gb296 ≠ gb301)); have n7_ := jB n6_.out.symm; clear HO300; clear BK296; clear HB; have HO300 := n0_; have BK296 := n1_; have HB := n2_; have BK301 := n3_; have GW301 := n4_; have GE301 := n5_; have NB296_301 := n6_; have NB301_296 := n7_; clear n0_ n1_ n2_ n3_ n4_ n5_ n6_ n7_; clear hb hbox hg; have hnb23 := NB301_296.out; have hnc23 := NB296_301.out; have hcz24_0 : w22.cell? ⟨gb301, 0, none⟩ = some (.int .i64 0) := (jC BK301.out 0).trans rfl; have hcz24_1 : w22.cell? ⟨gb301, 1, none⟩ = some (.slice none 0 0) := (jC BK301.out 1).trans rfl; have hfz24_0 := jD BK301.out 0; have hfz24_1 := jD BK301.out 1; obtain ⟨Ao25, co25, eo25⟩ := Kd.R_slice HO300.out; subst eo25) | ((with_reducible refine jW (f := 26) rfl ?_); refine goesL_ (some 16) rfl rfl Try.func26 zr rfl #[.slice A0 l0.length c0, .agg #[.int .i64 t297, .slice Ao25 t298.length co25]] rfl zm ?_; (with_reducible refine (impl_IsMagazine.calls k _ _ l0 t297 _ _ t298 false _ ?side1 ?side2 ?side3 ?side4 A6.out).mono ?_); (case side1 => exact Kd.C_below HR0.out (zb2 HB GE296 GE301)); (case side2 => exact HC0.out); (case side3 => refine (Kd.R_reads' (e := 2) (base := w.heap.size) (ok := fun k_ => True) (n := t298.length) (c := co25) ?_).2.2; exact (by (with_reducible repeat (first | apply Kd.R_alloc | apply Kd.R_drewN | apply Kd.R_drew)); exact (Kd.R_mono (Kd.R_far (p := ⟨gb301, 1, none⟩) (Kd.R_far (p := ⟨gb301, 0, none⟩) (Kd.R_types HO300.out BK301.out (by decide)) (fun _ hk => hk.2) (.int .i64 t297)) (fun _ hk => hk.2) (.slice Ao25 t298.length co25)) (fun _ h_ => h_.1)))); (case side4 => exact (Kd.R_reads' HO300.out).2.1); rintro e w26 ⟨rfl, hb⟩; refine ⟨_, rfl, ?_⟩; have n0_ := jB (Kd.R_below (by (with_reducible repeat (first | apply Kd.R_alloc | apply Kd.R_drewN | apply Kd.R_drew)); exact (Kd.R_mono (Kd.R_far (p := ⟨gb301, 1, none⟩) (Kd.R_far (p := ⟨gb301, 0, none⟩) (Kd.R_types HO300.out BK301.out (by decide)) (fun _ hk => hk.2) (.int .i64 t297)) (fun _ hk => hk.2) (.slice Ao25 t298.length co25)) (fun _ h_ => h_.1))) hb); have n1_ := jB (jO (g := gb296) (o := .cells #[.int .i64 a1_0, .slice A1_1 l1_1.length c1_1] 28 (0, 0)) (by (with_reducible repeat (first | refine jG ?_ _ | refine jI ?_ | refine jH ?_ _)); refine jY ?_ NB296_301.out _; (with_reducible repeat (first | refine jG ?_ _ | refine jI ?_ | refine jH ?_ _)); refine jY ?_ NB296_301.out _; (with_reducible repeat (first | refine jG ?_ _ | refine jI ?_ | refine jH ?_ _)); exact BK296.out) hb); have n2_ := jB (jO (g := gb301) (o := .cells #[.int .i64 t297, .slice Ao25 t298.length co25] 28 (0, 0)) (by (with_reducible repeat (first | refine jG ?_ _ | refine jI ?_ | refine jH ?_ _)); refine ja (cs := #[.int .i64 t297, .slice none 0 0]) ?_ 1 _ rfl; (with_reducible repeat (first | refine jG ?_ _ | refine jI ?_ | refine jH ?_ _)); refine ja (cs := #[.int .i64 0, .slice none 0 0]) ?_ 0 _ rfl; (with_reducible repeat (first | refine jG ?_ _ | refine jI ?_ | refine jH ?_ _)); exact BK301.out) hb); have n3_ := jB (jK (zb2 HB GE296 GE301) hb); clear HO300; clear BK296; clear BK301; clear HB; have HO300 := n0_; have BK296 := n1_; have BK301 := n2_; have HB := n3_; clear n0_ n1_ n2_ n3_; (try clear hb); (try clear hb2); (try clear hk); (try clear hi)))
  go_ret
  exact ⟨by first | rfl | (simp [errW_none, errW_some] <;> rfl) | (simp [*, errW_none, errW_some] <;> rfl), zb2 HB GE296 GE301⟩

/-! ### impl_RoomFor: function 34 -/
def impl_RoomFor.l0 : Nat → List (S65) → Int → Int → Int → List Int → Option (Int × Int)
 | 0, _, _, _, _, _ => none
 | k + 1, x0, x8, x9, x305000, x305001 => if x9 ≥ 0 then ((impl_isStored.f k x0 x305000 x305001 x8 x9).bind fun t307 => (if t307 = true then (some (x9, 0)) else (impl_RoomFor.l0 k x0 x8 (wrap64 (x9 - 1)) x305000 x305001))) else (some (0, 5))
def impl_RoomFor.f (k : Nat) (l0 : List (S65)) (a1_0 : Int) (l1_1 : List Int) (a2 : ByteArray) : Option (Int × Int) := (impl_IsMagazine.f k l0 a1_0 l1_1).bind fun t305 => (if t305 = true then ((impl_articleOf.f k l0 a2).bind fun t306 => (if t306 < 0 then (some (0, 4)) else (impl_RoomFor.l0 k l0 t306 1000 a1_0 l1_1))) else (some (0, 1)))
theorem impl_RoomFor.mono_l : ∀ k, (∀ y0 y1 y2 y3 y4, LeO (impl_RoomFor.l0 k y0 y1 y2 y3 y4) (impl_RoomFor.l0 (k + 1) y0 y1 y2 y3 y4))
 | 0 => fun _ _ _ _ _ r h => by simp [impl_RoomFor.l0] at h
 | k + 1 => by
  have ih0 := impl_RoomFor.mono_l k
  ·intro y0 y1 y2 y3 y4
   unfold impl_RoomFor.l0
   repeat' first
   | (with_reducible exact ih0 _ _ _ _ _)
   | (with_reducible exact impl_IsMagazine.mono _ _ _ _)
   | (with_reducible exact impl_articleOf.mono _ _ _)
   | (with_reducible exact impl_isStored.mono _ _ _ _ _ _)
   | (with_reducible exact LeO.refl _)
   | (with_reducible exact LeO.none _)
   | (with_reducible refine LeO.ite ?_ ?_)
   | (with_reducible refine LeO.bind ?_ (fun _ => ?_))
   | exact ih0 _ _ _ _ _
   | exact impl_IsMagazine.mono _ _ _ _
   | exact impl_articleOf.mono _ _ _
   | exact impl_isStored.mono _ _ _ _ _ _
   | exact LeO.none _
   | refine LeO.ite ?_ ?_
   | refine LeO.bind ?_ (fun _ => ?_)
theorem impl_RoomFor.mono : ∀ a0 a1 a2 a3 k, LeO (impl_RoomFor.f k a0 a1 a2 a3) (impl_RoomFor.f (k + 1) a0 a1 a2 a3) := by
 intro a0 a1 a2 a3 k
 have ih0 := impl_RoomFor.mono_l k
 unfold impl_RoomFor.f
 repeat' first
   | (with_reducible exact ih0 _ _ _ _ _)
   | (with_reducible exact impl_IsMagazine.mono _ _ _ _)
   | (with_reducible exact impl_articleOf.mono _ _ _)
   | (with_reducible exact impl_isStored.mono _ _ _ _ _ _)
   | (with_reducible exact LeO.refl _)
   | (with_reducible exact LeO.none _)
   | (with_reducible refine LeO.ite ?_ ?_)
   | (with_reducible refine LeO.bind ?_ (fun _ => ?_))
   | exact ih0 _ _ _ _ _
   | exact impl_IsMagazine.mono _ _ _ _
   | exact impl_articleOf.mono _ _ _
   | exact impl_isStored.mono _ _ _ _ _ _
   | exact LeO.none _
   | refine LeO.ite ?_ ?_
   | refine LeO.bind ?_ (fun _ => ?_)
set_option maxHeartbeats 8000000 in
set_option maxRecDepth 100000 in
theorem impl_RoomFor.calls (k : Nat) (A0 : Option Addr) (c0 : Nat) (l0 : List (S65)) (a1_0 : Int) (A1_1 : Option Addr) (c1_1 : Nat) (l1_1 : List Int) (a2 : ByteArray) (r1 : Int) (r2 : Int) (w : World) (hr0 : Kd.C k65 w A0 l0.length l0) (hc0 : l0.length ≤ c0) (hr1_1 : Kd.C (Kd.int .i64) w A1_1 l1_1.length l1_1) (hc1_1 : l1_1.length ≤ c1_1) (h : impl_RoomFor.f k l0 a1_0 l1_1 a2 = some (r1, r2)) :
  Calls Try.prog 34 #[.slice A0 l0.length c0, .agg #[.int .i64 a1_0, .slice A1_1 l1_1.length c1_1], .string a2] w fun e w' => e = .returned (.tuple #[.int .i64 r1, .int .i64 r2]) ∧ Below w.heap.size w w' := by
 have hu28 := Try.underlying28
 have HR0 := jB hr0
 have HC0 := jB hc0
 clear hr0 hc0
 have HR1_1 := jB hr1_1
 have HC1_1 := jB hc1_1
 clear hr1_1 hc1_1
 have HB := jB (Below.refl w.heap.size w)
 have H : ((impl_IsMagazine.f k l0 a1_0 l1_1).bind fun t305 => (if t305 = true then ((impl_articleOf.f k l0 a2).bind fun t306 => (if t306 < 0 then (some (0, 4)) else (impl_RoomFor.l0 k l0 t306 1000 a1_0 l1_1))) else (some (0, 1)))) = some (r1, r2) := h
 clear h
 replace H := jP.mp H
 obtain ⟨t305, A40, H⟩ := H
 replace H : (if t305 = true then ((impl_articleOf.f k l0 a2).bind fun t306 => (if t306 < 0 then (some (0, 4)) else (impl_RoomFor.l0 k l0 t306 1000 a1_0 l1_1))) else (some (0, 1))) = some (r1, r2) := H
 have A4 := jB A40
 clear A40
 by_cases c5 : t305 = true
 ·subst c5
  have H1 : ((impl_articleOf.f k l0 a2).bind fun t306 => (if t306 < 0 then (some (0, 4)) else (impl_RoomFor.l0 k l0 t306 1000 a1_0 l1_1))) = some (r1, r2) := by rw [if_pos rfl] at H; exact H
  clear H
  have H := H1
  clear H1
  replace H := jP.mp H
  obtain ⟨t306, A60, H⟩ := H
  replace H : (if t306 < 0 then (some (0, 4)) else (impl_RoomFor.l0 k l0 t306 1000 a1_0 l1_1)) = some (r1, r2) := H
  have A6 := jB A60
  clear A60
  by_cases c7 : t306 < 0
  ·rw [if_pos c7] at H
   have c7b0 : decide (t306 < 0) = true := jR c7
   clear c7
   simp only [Option.some.injEq, Prod.mk.injEq] at H
   obtain ⟨rfl, rfl⟩ := H
   go_enter Try.func34, Try.ntmps34
   go_wp2_with (first | ((with_reducible refine jV (N := 4) rfl ?_); refine jU ?hg (N := 4) ?hd (cs := #[.int .i64 a1_0, .slice A1_1 l1_1.length c1_1]) (t := 28) ?hr ?_; (case hd => rfl); (case hg => rfl); (case hr => first | (go_simp; done) | (go_simp; rfl)); intro gb304 hg w8 hbox hb; have n0_ := jB (jK (zb0 HB) hb); have n1_ := jB (hbox); have n2_ := jB ((by rw [hg]; exact (jF (zb0 HB)) : w.heap.size ≤ gb304)); have n3_ := jB ((by rw [hg]; exact (jF (zb0 HB)) : w.heap.size ≤ gb304)); clear HB; have HB := n0_; have BK304 := n1_; have GW304 := n2_; have GE304 := n3_; clear n0_ n1_ n2_ n3_; clear hb hbox hg; have hcz9_0 : w8.cell? ⟨gb304, 0, none⟩ = some (.int .i64 a1_0) := (jC BK304.out 0).trans rfl; have hcz9_1 : w8.cell? ⟨gb304, 1, none⟩ = some (.slice A1_1 l1_1.length c1_1) := (jC BK304.out 1).trans rfl; have hfz9_0 := jD BK304.out 0; have hfz9_1 := jD BK304.out 1) | ((with_reducible refine jW (f := 26) rfl ?_); refine goesL_ (some 12) rfl rfl Try.func26 zr rfl #[.slice A0 l0.length c0, .agg #[.int .i64 a1_0, .slice A1_1 l1_1.length c1_1]] rfl zm ?_; (with_reducible refine (impl_IsMagazine.calls k _ _ l0 a1_0 _ _ l1_1 true _ ?side1 ?side2 ?side3 ?side4 A4.out).mono ?_); (case side1 => exact zs HR0 HB); (case side2 => exact HC0.out); (case side3 => exact zs HR1_1 HB); (case side4 => exact HC1_1.out); rintro e w10 ⟨rfl, hb⟩; refine ⟨_, rfl, ?_⟩; have n0_ := jB (jO (g := gb304) (o := .cells #[.int .i64 a1_0, .slice A1_1 l1_1.length c1_1] 28 (0, 0)) (zk BK304) hb); have n1_ := jB (jK (zb1 HB GE304) hb); clear BK304; clear HB; have BK304 := n0_; have HB := n1_; clear n0_ n1_; (try clear hb); (try clear hb2); (try clear hk); (try clear hi)) | ((with_reducible refine jW (f := 70) rfl ?_); refine goesL_ (some 16) rfl rfl Try.func70 zr rfl #[.slice A0 l0.length c0, .string a2] rfl zm ?_; (with_reducible refine (impl_articleOf.calls k _ _ l0 a2 t306 _ ?side1 ?side2 A6.out).mono ?_); (case side1 => exact zs HR0 HB); (case side2 => exact HC0.out); rintro e w11 ⟨rfl, hb⟩; refine ⟨_, rfl, ?_⟩; have n0_ := jB (jO (g := gb304) (o := .cells #[.int .i64 a1_0, .slice A1_1 l1_1.length c1_1] 28 (0, 0)) (zk BK304) hb); have n1_ := jB (jK (zb1 HB GE304) hb); clear BK304; clear HB; have BK304 := n0_; have HB := n1_; clear n0_ n1_; (try clear hb); (try clear hb2); (try clear hk); (try clear hi)))
   go_ret2
   exact ⟨by first | rfl | (simp [errW_none, errW_some] <;> rfl) | (simp [*, errW_none, errW_some] <;> rfl), zb1 HB GE304⟩
  ·rw [if_neg c7] at H
   have c7b0 : decide (t306 < 0) = false := jZ c7
   clear c7
   have H' := jB H
   clear H
   go_enter Try.func34, Try.ntmps34
   go_wp2_with (first | ((with_reducible refine jV (N := 4) rfl ?_); refine jU ?hg (N := 4) ?hd (cs := #[.int .i64 a1_0, .slice A1_1 l1_1.length c1_1]) (t := 28) ?hr ?_; (case hd => rfl); (case hg => rfl); (case hr => first | (go_simp; done) | (go_simp; rfl)); intro gb304 hg w12 hbox hb; have n0_ := jB (jK (zb0 HB) hb); have n1_ := jB (hbox); have n2_ := jB ((by rw [hg]; exact (jF (zb0 HB)) : w.heap.size ≤ gb304)); have n3_ := jB ((by rw [hg]; exact (jF (zb0 HB)) : w.heap.size ≤ gb304)); clear HB; have HB := n0_; have BK304 := n1_; have GW304 := n2_; have GE304 := n3_; clear n0_ n1_ n2_ n3_; clear hb hbox hg; have hcz13_0 : w12.cell? ⟨gb304, 0, none⟩ = some (.int .i64 a1_0) := (jC BK304.out 0).trans rfl; have hcz13_1 : w12.cell? ⟨gb304, 1, none⟩ = some (.slice A1_1 l1_1.length c1_1) := (jC BK304.out 1).trans rfl; have hfz13_0 := jD BK304.out 0; have hfz13_1 := jD BK304.out 1) | ((with_reducible refine jW (f := 26) rfl ?_); refine goesL_ (some 12) rfl rfl Try.func26 zr rfl #[.slice A0 l0.length c0, .agg #[.int .i64 a1_0, .slice A1_1 l1_1.length c1_1]] rfl zm ?_; (with_reducible refine (impl_IsMagazine.calls k _ _ l0 a1_0 _ _ l1_1 true _ ?side1 ?side2 ?side3 ?side4 A4.out).mono ?_); (case side1 => exact zs HR0 HB); (case side2 => exact HC0.out); (case side3 => exact zs HR1_1 HB); (case side4 => exact HC1_1.out); rintro e w14 ⟨rfl, hb⟩; refine ⟨_, rfl, ?_⟩; have n0_ := jB (jO (g := gb304) (o := .cells #[.int .i64 a1_0, .slice A1_1 l1_1.length c1_1] 28 (0, 0)) (zk BK304) hb); have n1_ := jB (jK (zb1 HB GE304) hb); clear BK304; clear HB; have BK304 := n0_; have HB := n1_; clear n0_ n1_; (try clear hb); (try clear hb2); (try clear hk); (try clear hi)) | ((with_reducible refine jW (f := 70) rfl ?_); refine goesL_ (some 16) rfl rfl Try.func70 zr rfl #[.slice A0 l0.length c0, .string a2] rfl zm ?_; (with_reducible refine (impl_articleOf.calls k _ _ l0 a2 t306 _ ?side1 ?side2 A6.out).mono ?_); (case side1 => exact zs HR0 HB); (case side2 => exact HC0.out); rintro e w15 ⟨rfl, hb⟩; refine ⟨_, rfl, ?_⟩; have n0_ := jB (jO (g := gb304) (o := .cells #[.int .i64 a1_0, .slice A1_1 l1_1.length c1_1] 28 (0, 0)) (zk BK304) hb); have n1_ := jB (jK (zb1 HB GE304) hb); clear BK304; clear HB; have BK304 := n0_; have HB := n1_; clear n0_ n1_; (try clear hb); (try clear hb2); (try clear hk); (try clear hi)))
   go_loopg [9] k (fun kq v9 w' => ∃ (x9_1 : Int), v9 = .int .i64 x9_1 ∧ Aside0 (impl_RoomFor.l0 kq l0 t306 x9_1 a1_0 l1_1 = some (r1, r2)) ∧ Aside0 (kq ≤ k) ∧ Aside0 (w'.heap[gb304]? = some (.cells #[.int .i64 a1_0, (.slice A1_1 l1_1.length c1_1)] 28 (0, 0))) ∧ Aside0 (Below w.heap.size w w'))
   case atStart => exact ⟨(1000), zz, H', ⟨Nat.le_refl _⟩, ⟨by (with_reducible repeat (first | refine jG ?_ _ | refine jI ?_ | refine jH ?_ _)); exact BK304.out⟩, ⟨zb1 HB GE304⟩⟩
   case round =>
    clear H'
    try clear c1
    try clear c2
    try clear p2
    try clear c3
    try clear c5
    try clear c7
    try clear c7b0
    try clear hcz13_0
    try clear hcz13_1
    try clear hcz9_0
    try clear hcz9_1
    try clear hfz13_0
    try clear hfz13_1
    try clear hfz9_0
    try clear hfz9_1
    obtain ⟨x9_1, rfl, HA, HK1, BK304, HB⟩ := hrel
    cases gk with
    | zero => exact absurd HA.out (by simp [impl_RoomFor.l0])
    | succ k1 =>
     have H := HA.out
     clear HA
     simp only [impl_RoomFor.l0] at H
     by_cases c16 : x9_1 ≥ 0
     ·rw [if_pos c16] at H
      have c16b0 : decide (0 ≤ x9_1) = true := jR c16
      clear c16
      replace H := jP.mp H
      obtain ⟨t307, A170, H⟩ := H
      replace H : (if t307 = true then (some (x9_1, 0)) else (impl_RoomFor.l0 k1 l0 t306 (wrap64 (x9_1 - 1)) a1_0 l1_1)) = some (r1, r2) := H
      have A17 := jB A170
      clear A170
      by_cases c18 : t307 = true
      ·subst c18
       have H1 : (some (x9_1, 0)) = some (r1, r2) := by rw [if_pos rfl] at H; exact H
       clear H
       have H := H1
       clear H1
       simp only [Option.some.injEq, Prod.mk.injEq] at H
       obtain ⟨rfl, rfl⟩ := H
       have hcz19_0 : wr.cell? ⟨gb304, 0, none⟩ = some (.int .i64 a1_0) := (jC BK304.out 0).trans rfl
       have hcz19_1 : wr.cell? ⟨gb304, 1, none⟩ = some (.slice A1_1 l1_1.length c1_1) := (jC BK304.out 1).trans rfl
       have hfz19_0 := jD BK304.out 0
       have hfz19_1 := jD BK304.out 1
       go_wp2_with (first | ((with_reducible refine jW (f := 71) rfl ?_); refine goesL_ (some 27) rfl rfl Try.func71 zr rfl #[.slice A0 l0.length c0, .agg #[.int .i64 a1_0, .slice A1_1 l1_1.length c1_1], .int .i64 t306, .int .i64 x9_1] rfl zm ?_; (with_reducible refine (impl_isStored.calls k1 _ _ l0 a1_0 _ _ l1_1 t306 x9_1 true _ ?side1 ?side2 ?side3 ?side4 A17.out).mono ?_); (case side1 => exact zs HR0 HB); (case side2 => exact HC0.out); (case side3 => exact zs HR1_1 HB); (case side4 => exact HC1_1.out); rintro e w20 ⟨rfl, hb⟩; refine ⟨_, rfl, ?_⟩; have n0_ := jB (jO (g := gb304) (o := .cells #[.int .i64 a1_0, .slice A1_1 l1_1.length c1_1] 28 (0, 0)) (zk BK304) hb); have n1_ := jB (jK (zb1 HB GE304) hb); clear BK304; clear HB; have BK304 := n0_; have HB := n1_; clear n0_ n1_; (try clear hb); (try clear hb2); (try clear hk); (try clear hi)))
       go_ret2
       exact ⟨by first | rfl | (simp [errW_none, errW_some] <;> rfl) | (simp [*, errW_none, errW_some] <;> rfl), zb1 HB GE304⟩
      ·replace c18 := Bool.eq_false_iff.mpr c18
       subst c18
       have H1 : (impl_RoomFor.l0 k1 l0 t306 (wrap64 (x9_1 - 1)) a1_0 l1_1) = some (r1, r2) := by rw [if_neg (show ¬ (false = true) by decide)] at H; exact H
       clear H
       have H := H1
       clear H1
       have H' := jB H
       clear H
       have hcz21_0 : wr.cell? ⟨gb304, 0, none⟩ = some (.int .i64 a1_0) := (jC BK304.out 0).trans rfl
       have hcz21_1 : wr.cell? ⟨gb304, 1, none⟩ = some (.slice A1_1 l1_1.length c1_1) := (jC BK304.out 1).trans rfl
       have hfz21_0 := jD BK304.out 0
       have hfz21_1 := jD BK304.out 1
       go_wp2_with (first | ((with_reducible refine jW (f := 71) rfl ?_); refine goesL_ (some 27) rfl rfl Try.func71 zr rfl #[.slice A0 l0.length c0, .agg #[.int .i64 a1_0, .slice A1_1 l1_1.length c1_1], .int .i64 t306, .int .i64 x9_1] rfl zm ?_; (with_reducible refine (impl_isStored.calls k1 _ _ l0 a1_0 _ _ l1_1 t306 x9_1 false _ ?side1 ?side2 ?side3 ?side4 A17.out).mono ?_); (case side1 => exact zs HR0 HB); (case side2 => exact HC0.out); (case side3 => exact zs HR1_1 HB); (case side4 => exact HC1_1.out); rintro e w22 ⟨rfl, hb⟩; refine ⟨_, rfl, ?_⟩; have n0_ := jB (jO (g := gb304) (o := .cells #[.int .i64 a1_0, .slice A1_1 l1_1.length c1_1] 28 (0, 0)) (zk BK304) hb); have n1_ := jB (jK (zb1 HB GE304) hb); clear BK304; clear HB; have BK304 := n0_; have HB := n1_; clear n0_ n1_; (try clear hb); (try clear hb2); (try clear hk); (try clear hi)))
       go_roundg k1
       case measure => have := HK1.out; omega
       case rel => exact ⟨(wrap64 (x9_1 - 1)), zz, H', ⟨by have := HK1.out; omega⟩, ⟨by (with_reducible repeat (first | refine jG ?_ _ | refine jI ?_ | refine jH ?_ _)); exact BK304.out⟩, ⟨zb1 HB GE304⟩⟩
     ·rw [if_neg c16] at H
      have c16b0 : decide (0 ≤ x9_1) = false := jZ c16
      clear c16
      simp only [Option.some.injEq, Prod.mk.injEq] at H
      obtain ⟨rfl, rfl⟩ := H
      go_wp2
      go_ret2
      exact ⟨by first | rfl | (simp [errW_none, errW_some] <;> rfl) | (simp [*, errW_none, errW_some] <;> rfl), zb1 HB GE304⟩
 ·replace c5 := Bool.eq_false_iff.mpr c5
  subst c5
  have H1 : (some (0, 1)) = some (r1, r2) := by rw [if_neg (show ¬ (false = true) by decide)] at H; exact H
  clear H
  have H := H1
  clear H1
  simp only [Option.some.injEq, Prod.mk.injEq] at H
  obtain ⟨rfl, rfl⟩ := H
  go_enter Try.func34, Try.ntmps34
  go_wp2_with (first | ((with_reducible refine jV (N := 4) rfl ?_); refine jU ?hg (N := 4) ?hd (cs := #[.int .i64 a1_0, .slice A1_1 l1_1.length c1_1]) (t := 28) ?hr ?_; (case hd => rfl); (case hg => rfl); (case hr => first | (go_simp; done) | (go_simp; rfl)); intro gb304 hg w23 hbox hb; have n0_ := jB (jK (zb0 HB) hb); have n1_ := jB (hbox); have n2_ := jB ((by rw [hg]; exact (jF (zb0 HB)) : w.heap.size ≤ gb304)); have n3_ := jB ((by rw [hg]; exact (jF (zb0 HB)) : w.heap.size ≤ gb304)); clear HB; have HB := n0_; have BK304 := n1_; have GW304 := n2_; have GE304 := n3_; clear n0_ n1_ n2_ n3_; clear hb hbox hg; have hcz24_0 : w23.cell? ⟨gb304, 0, none⟩ = some (.int .i64 a1_0) := (jC BK304.out 0).trans rfl; have hcz24_1 : w23.cell? ⟨gb304, 1, none⟩ = some (.slice A1_1 l1_1.length c1_1) := (jC BK304.out 1).trans rfl; have hfz24_0 := jD BK304.out 0; have hfz24_1 := jD BK304.out 1) | ((with_reducible refine jW (f := 26) rfl ?_); refine goesL_ (some 12) rfl rfl Try.func26 zr rfl #[.slice A0 l0.length c0, .agg #[.int .i64 a1_0, .slice A1_1 l1_1.length c1_1]] rfl zm ?_; (with_reducible refine (impl_IsMagazine.calls k _ _ l0 a1_0 _ _ l1_1 false _ ?side1 ?side2 ?side3 ?side4 A4.out).mono ?_); (case side1 => exact zs HR0 HB); (case side2 => exact HC0.out); (case side3 => exact zs HR1_1 HB); (case side4 => exact HC1_1.out); rintro e w25 ⟨rfl, hb⟩; refine ⟨_, rfl, ?_⟩; have n0_ := jB (jO (g := gb304) (o := .cells #[.int .i64 a1_0, .slice A1_1 l1_1.length c1_1] 28 (0, 0)) (zk BK304) hb); have n1_ := jB (jK (zb1 HB GE304) hb); clear BK304; clear HB; have BK304 := n0_; have HB := n1_; clear n0_ n1_; (try clear hb); (try clear hb2); (try clear hk); (try clear hi)))
  go_ret2
  exact ⟨by first | rfl | (simp [errW_none, errW_some] <;> rfl) | (simp [*, errW_none, errW_some] <;> rfl), zb1 HB GE304⟩

end Go.Proofs.Ytdgglhfnlljmeaa.PFnExactRoomFor
