/- Functions and contracts that FnMagazines reaches (23 of 24). -/
import Derived.Test.YtdgglhfnlljmeaaQFnMagazinesx21
namespace Go.Proofs.Ytdgglhfnlljmeaa.PFnMagazines
open Go.RowKit Go.Proofs.YtdgglhfnlljmeaaW.PrintWords Go.Proofs.YtdgglhfnlljmeaaW.PrintLast Go.Proofs.YtdgglhfnlljmeaaW.PrintMore
attribute [local go_sem] max2_int min2_int max_two min_two max_three min_three max_four min_four   -- for this text's walks alone
set_option linter.unusedVariables false
set_option linter.unusedSimpArgs false

/-! ### laws_likeMagazine: function 42 -/
def laws_likeMagazine.f (k : Nat) (a0_0 : Int) (l0_1 : List Int) (a1_0 : Int) (l1_1 : List Int) : Option (Bool) := if a0_0 = a1_0 then ((laws_likeInts.f k l0_1 l1_1).bind fun t543 => (some t543)) else (some false)
theorem laws_likeMagazine.mono : ∀ a0 a1 a2 a3 k, LeO (laws_likeMagazine.f k a0 a1 a2 a3) (laws_likeMagazine.f (k + 1) a0 a1 a2 a3) := by
 intro a0 a1 a2 a3 k
 unfold laws_likeMagazine.f
 repeat' first
   | (with_reducible exact laws_likeInts.mono _ _ _)
   | (with_reducible exact LeO.refl _)
   | (with_reducible exact LeO.none _)
   | (with_reducible refine LeO.ite ?_ ?_)
   | (with_reducible refine LeO.bind ?_ (fun _ => ?_))
   | exact laws_likeInts.mono _ _ _
   | exact LeO.none _
   | refine LeO.ite ?_ ?_
   | refine LeO.bind ?_ (fun _ => ?_)
set_option maxHeartbeats 8000000 in
set_option maxRecDepth 100000 in
theorem laws_likeMagazine.calls (k : Nat) (a0_0 : Int) (A0_1 : Option Addr) (c0_1 : Nat) (l0_1 : List Int) (a1_0 : Int) (A1_1 : Option Addr) (c1_1 : Nat) (l1_1 : List Int) (r : Bool) (w : World) (hr0_1 : Kd.C (Kd.int .i64) w A0_1 l0_1.length l0_1) (hc0_1 : l0_1.length ≤ c0_1) (hr1_1 : Kd.C (Kd.int .i64) w A1_1 l1_1.length l1_1) (hc1_1 : l1_1.length ≤ c1_1) (h : laws_likeMagazine.f k a0_0 l0_1 a1_0 l1_1 = some r) :
  Calls Try.prog 42 #[.agg #[.int .i64 a0_0, .slice A0_1 l0_1.length c0_1], .agg #[.int .i64 a1_0, .slice A1_1 l1_1.length c1_1]] w fun e w' => e = .returned (.bool r) ∧ Below w.heap.size w w' := by
 have hu28 := Try.underlying28
 have HR0_1 := jA hr0_1
 have HC0_1 := jA hc0_1
 clear hr0_1 hc0_1
 have HR1_1 := jA hr1_1
 have HC1_1 := jA hc1_1
 clear hr1_1 hc1_1
 have HB := jA (Below.refl w.heap.size w)
 have H := h
 unfold laws_likeMagazine.f at H
 clear h
 by_cases c3 : a0_0 = a1_0
 ·rw [if_pos c3] at H
  have c3b0 : (a0_0 == a1_0) = true := beq_iff_eq.mpr c3
  have c3b1 : (a0_0 != a1_0) = false := bne_eq_false_iff_eq.mpr c3
  clear c3
  replace H := jB.mp H
  obtain ⟨t543, A40, H⟩ := H
  replace H : (some t543) = some r := H
  have A4 := jA A40
  clear A40
  obtain rfl := jK H
  go_enter Try.func42, Try.ntmps42
  go_wp2_with (first | ((with_reducible refine jL (N := 2) rfl ?_); refine zE 2 #[.int .i64 a0_0, .slice A0_1 l0_1.length c0_1] 28 ?_; intro gb541 hg w5 hbox hb; have BK541 := jA (hbox); have GW541 := zg0 hg HB; have GE541 := zg0 hg HB; replace HB := zS0 HB hb; clear hb hbox hg) | ((with_reducible refine jL (N := 3) rfl ?_); refine zE 3 #[.int .i64 a1_0, .slice A1_1 l1_1.length c1_1] 28 ?_; intro gb542 hg w6 hbox hb; have BK542 := jA (hbox); have GW542 := zg1 hg HB GE541; have GE542 := zg1 hg HB GE541; replace HB := zS1 HB GE541 hb; have NB541_542 := zn hg BK541; replace BK541 := zB BK541 hb; have NB542_541 := jA NB541_542.out.symm; clear hb hbox hg; have hnb7 := NB541_542.out; have hnc7 := NB542_541.out; have hcz8 := zc2 BK541; have hcz9 := zc2 BK542) | (go_at_call 80; (with_reducible refine (laws_likeInts.calls k _ _ l0_1 _ _ l1_1 t543 _ ?side1 ?side2 ?side3 ?side4 A4.out).mono ?_); (case side1 => exact zs HR0_1 HB); (case side2 => exact HC0_1.out); (case side3 => exact zs HR1_1 HB); (case side4 => exact HC1_1.out); rintro e w' ⟨rfl, ⟨nd, rfl⟩⟩))
  go_ret
  exact ⟨ze, zb2 HB GE541 GE542⟩
 ·rw [if_neg c3] at H
  have c3b0 : (a0_0 == a1_0) = false := beq_eq_false_iff_ne.mpr c3
  have c3b1 : (a0_0 != a1_0) = true := bne_iff_ne.mpr c3
  obtain rfl := jK H
  go_enter Try.func42, Try.ntmps42
  go_wp2_with (first | ((with_reducible refine jL (N := 2) rfl ?_); refine zE 2 #[.int .i64 a0_0, .slice A0_1 l0_1.length c0_1] 28 ?_; intro gb541 hg w10 hbox hb; have BK541 := jA (hbox); have GW541 := zg0 hg HB; have GE541 := zg0 hg HB; replace HB := zS0 HB hb; clear hb hbox hg) | ((with_reducible refine jL (N := 3) rfl ?_); refine zE 3 #[.int .i64 a1_0, .slice A1_1 l1_1.length c1_1] 28 ?_; intro gb542 hg w11 hbox hb; have BK542 := jA (hbox); have GW542 := zg1 hg HB GE541; have GE542 := zg1 hg HB GE541; replace HB := zS1 HB GE541 hb; have NB541_542 := zn hg BK541; replace BK541 := zB BK541 hb; have NB542_541 := jA NB541_542.out.symm; clear hb hbox hg; have hnb12 := NB541_542.out; have hnc12 := NB542_541.out; have hcz13 := zc2 BK541; have hcz14 := zc2 BK542))
  go_ret
  exact ⟨ze, zb2 HB GE541 GE542⟩

end Go.Proofs.Ytdgglhfnlljmeaa.PFnMagazines
