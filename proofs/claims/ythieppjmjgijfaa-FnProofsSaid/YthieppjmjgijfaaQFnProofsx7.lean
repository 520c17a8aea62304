/- Functions and contracts that FnProofs reaches (8 of 22). -/
import Derived.Test.YthieppjmjgijfaaQFnProofsx6
namespace Go.Proofs.Ythieppjmjgijfaa.PFnProofs
open Go.RowKit Go.Proofs.YthieppjmjgijfaaW.PrintWords Go.Proofs.YthieppjmjgijfaaW.PrintLast Go.Proofs.YthieppjmjgijfaaW.PrintMore
attribute [local go_sem] max2_int min2_int max_two min_two max_three min_three max_four min_four   -- for this text's walks alone
set_option linter.unusedVariables false
set_option linter.unusedSimpArgs false

/-! ### spec_l01Pick: function 61 -/
def spec_l01Pick.f (s0_0 : List Int) (s0_1 : Int) (s0_2 : Int) (l1 : List Int) : Option (Int × Int × Int) := (spec_l01Next.f s0_0 s0_1 s0_2 (l1.length : Int)).bind fun bt269 => (if 0 ≤ bt269.1 then (if bt269.1 < (l1.length : Int) then (some (rd l1 bt269.1, bt269.2.1, bt269.2.2)) else (none)) else (none))
set_option maxHeartbeats 8000000 in
set_option maxRecDepth 100000 in
theorem spec_l01Pick.calls (g : Nat) (s0_0 : List Int) (s0_1 : Int) (s0_2 : Int) (A1 : Option Addr) (c1 : Nat) (l1 : List Int) (r1 : Int) (r2 : Int) (r3 : Int) (w0 w : World) (hI : IsS95 w0 w g s0_0 s0_1 s0_2) (hB : Below w0.heap.size w0 w) (hr1 : Kd.C (Kd.int .i64) w A1 l1.length l1) (hc1 : l1.length ≤ c1) (hf1 : ∀ ad, A1 = some ad → 0 < l1.length → ad.block ≠ g) (h : spec_l01Pick.f s0_0 s0_1 s0_2 l1 = some (r1, r2, r3)) :
  Calls Try.prog 61 #[.pointer (some ⟨g, 0, none⟩), .slice A1 l1.length c1] w fun e w' => e = .returned (.int .i64 r1) ∧ IsS95 w0 w' g s0_0 r2 r3 ∧ Below w0.heap.size w0 w' ∧ KeepBut w w' g none := by
 have HR1 := jA hr1
 have HC1 := jA hc1
 clear hr1 hc1
 have HI0 := jA hI
 have HK := jA (KeepBut.refl w g none)
 have HL := jA hB.size
 clear hI
 have HW0 := jA hB.size
 have HB := jA hB
 clear hB
 have H := h
 unfold spec_l01Pick.f at H
 clear h
 replace H := jC.mp H
 obtain ⟨⟨t269, t270, t271⟩, A30, H⟩ := H
 try dsimp only at H
 have A3 := jA A30
 clear A30
 by_cases c4 : 0 ≤ t269
 ·rw [if_pos c4] at H
  have c4b0 : decide (0 ≤ t269) = true := jI c4
  clear c4
  by_cases c5 : t269 < (l1.length : Int)
  ·rw [if_pos c5] at H
   have c5b0 : decide (t269 < (l1.length : Int)) = true := jI c5
   clear c5
   simp only [jH, jK] at H
   obtain ⟨rfl, rfl, rfl⟩ := H
   go_enter Try.func61, Try.ntmps61
   go_wp2_with (first | ((with_reducible refine jG (f := 62) rfl ?_); refine zL (some 9) Try.func62 #[.pointer (some ⟨g, 0, none⟩), .int .i64 (l1.length : Int)] ?_; (with_reducible refine (spec_l01Next.calls g s0_0 s0_1 s0_2 (l1.length : Int) t269 t270 t271 w0 _ ?side1 ?side2 A3.out).mono ?_); (case side1 => exact zr3 HI0); (case side2 => exact zr4 HB HI0); rintro e w6 ⟨rfl, hi, hb, hk⟩; refine ⟨_, rfl, ?_⟩; replace HK := jA (KeepBut.trans (zh0 HK) hk (.inl rfl)); replace HB := jA (hb); replace HI0 := jA (hi); (try clear hb); (try clear hb2); (try clear hk); (try clear hi); have p272 : 0 ≤ (t269 : Int) := jB za; have q272 : t269 < (l1.length : Int) := jB za; obtain ⟨ad272, e272, hx272_0⟩ := jR HR1.out t269 p272 q272; cases e272; replace hx272_0 := keep_cell HK.out hx272_0 (by first | (rw [jV]; exact hf1 _ rfl (by omega)) | exact hf1 _ rfl (by omega) | exact hf1 ad272 rfl (by omega)); replace p272 := eq_true p272; replace q272 := eq_true q272))
   go_ret
   exact ⟨ze, zr3 HI0, zr4 HB HI0, zh0 HK⟩
  ·rw [if_neg c5] at H
   exact absurd H (by simp)
 ·rw [if_neg c4] at H
  exact absurd H (by simp)

/-! ### spec_l21Input: function 90 -/
def spec_l21Input.f (a0_0 : Bool) (a0_1 : Bool) (a0_2 : Bool) (a0_3 : Bool) (a0_4 : Bool) (a0_5 : Int) (a1 : Int) : Option (Bool × Bool × Bool × Bool × Bool × Int × Int) := (spec_l01In.f a1 0 9).bind fun t275 => (if t275 = true then ((spec_l21Give.f a0_0 a0_1 a0_2 a0_3 a0_4 a0_5 a1).bind fun bt276 => (if bt276.2.2.2.2.2.2 = true then (some (bt276.1, bt276.2.1, bt276.2.2.1, bt276.2.2.2.1, bt276.2.2.2.2.1, bt276.2.2.2.2.2.1, 0)) else (some (a0_0, a0_1, a0_2, a0_3, a0_4, a0_5, 5)))) else (some (a0_0, a0_1, a0_2, a0_3, a0_4, a0_5, 2)))
set_option maxHeartbeats 8000000 in
set_option maxRecDepth 100000 in
theorem spec_l21Input.calls (a0_0 : Bool) (a0_1 : Bool) (a0_2 : Bool) (a0_3 : Bool) (a0_4 : Bool) (a0_5 : Int) (a1 : Int) (r1 : Bool) (r2 : Bool) (r3 : Bool) (r4 : Bool) (r5 : Bool) (r6 : Int) (r7 : Int) (w : World) (h : spec_l21Input.f a0_0 a0_1 a0_2 a0_3 a0_4 a0_5 a1 = some (r1, r2, r3, r4, r5, r6, r7)) :
  Calls Try.prog 90 #[.agg #[.bool a0_0, .bool a0_1, .bool a0_2, .bool a0_3, .bool a0_4, .int .i64 a0_5], .int .i64 a1] w fun e w' => e = .returned (.tuple #[.agg #[.bool r1, .bool r2, .bool r3, .bool r4, .bool r5, .int .i64 r6], .int .i64 r7]) ∧ Below w.heap.size w w' := by
 have hu23 := Try.underlying23
 have HB := jA (Below.refl w.heap.size w)
 have H := h
 unfold spec_l21Input.f at H
 clear h
 replace H := jC.mp H
 obtain ⟨t275, A30, H⟩ := H
 try dsimp only at H
 have A3 := jA A30
 clear A30
 by_cases c4 : t275 = true
 ·subst c4
  rw [if_pos rfl] at H
  replace H := jC.mp H
  obtain ⟨⟨t276, t277, t278, t279, t280, t281, t282⟩, A50, H⟩ := H
  try dsimp only at H
  have A5 := jA A50
  clear A50
  by_cases c6 : t282 = true
  ·subst c6
   rw [if_pos rfl] at H
   simp only [jH, jK] at H
   obtain ⟨rfl, rfl, rfl, rfl, rfl, rfl, rfl⟩ := H
   go_enter Try.func90, Try.ntmps90
   go_wp2_with (first | ((with_reducible refine jJ (N := 2) rfl ?_); refine zE 2 #[.bool a0_0, .bool a0_1, .bool a0_2, .bool a0_3, .bool a0_4, .int .i64 a0_5] 23 ?_; intro gb273 hg w7 hbox hb; have BK273 := jA (hbox); have GW273 := zg0 hg HB; have GE273 := zg0 hg HB; replace HB := zS0 HB hb; clear hb hbox hg) | ((with_reducible refine jJ (N := 4) rfl ?_); refine zE 4 #[.bool false, .bool false, .bool false, .bool false, .bool false, .int .i64 0] 23 ?_; intro gb274 hg w8 hbox hb; have BK274 := jA (hbox); have GW274 := zg1 hg HB GE273; have GE274 := zg1 hg HB GE273; replace HB := zS1 HB GE273 hb; have NB273_274 := zn hg BK273; replace BK273 := zB BK273 hb; have NB274_273 := jA NB273_274.out.symm; clear hb hbox hg) | ((with_reducible refine jG (f := 78) rfl ?_); refine zL (some 9) Try.func78 #[.int .i64 a1, .int .i64 0, .int .i64 9] ?_; (with_reducible refine (spec_l01In.calls a1 0 9 true _ A3.out).mono ?_); rintro e w' ⟨rfl, ⟨nd, rfl⟩⟩; refine ⟨_, rfl, ?_⟩; (try (rw [drewN_self w8]; generalize hq_ : World.drewN w8 _ = w8; replace BK273 : Aside0 (w8.heap[gb273]? = some (.cells #[.bool a0_0, .bool a0_1, .bool a0_2, .bool a0_3, .bool a0_4, .int .i64 a0_5] 23 (0, 0))) := ⟨by rw [← hq_]; exact (zk BK273)⟩; replace BK274 : Aside0 (w8.heap[gb274]? = some (.cells #[.bool false, .bool false, .bool false, .bool false, .bool false, .int .i64 0] 23 (0, 0))) := ⟨by rw [← hq_]; exact (zk BK274)⟩; replace HB : Aside0 (Below w.heap.size w w8) := ⟨by rw [← hq_]; exact (zb2 HB GE273 GE274)⟩; clear hq_)); have hnb9 := NB273_274.out; have hnc9 := NB274_273.out; have hcz10 := zc6 BK273) | ((with_reducible refine jG (f := 87) rfl ?_); refine zL (some 15) Try.func87 #[.agg #[.bool a0_0, .bool a0_1, .bool a0_2, .bool a0_3, .bool a0_4, .int .i64 a0_5], .int .i64 a1] ?_; (with_reducible refine (spec_l21Give.calls a0_0 a0_1 a0_2 a0_3 a0_4 a0_5 a1 t276 t277 t278 t279 t280 t281 true _ A5.out).mono ?_); rintro e w11 ⟨rfl, hb⟩; refine ⟨_, rfl, ?_⟩; replace BK273 := zB BK273 hb; replace BK274 := zB BK274 hb; replace HB := zS2 HB GE273 GE274 hb; clear hb) | ((with_reducible refine jJ (N := 6) rfl ?_); refine zE 6 #[.bool false, .bool false, .bool false, .bool false, .bool false, .int .i64 0] 23 ?_; intro gb283 hg w12 hbox hb; have BK283 := jA (hbox); have GW283 := zg2 hg HB GE273 GE274; have GE283 := zg2 hg HB GE273 GE274; replace HB := zS2 HB GE273 GE274 hb; have NB273_283 := zn hg BK273; replace BK273 := zB BK273 hb; have NB283_273 := jA NB273_283.out.symm; have NB274_283 := zn hg BK274; replace BK274 := zB BK274 hb; have NB283_274 := jA NB274_283.out.symm; clear hb hbox hg; have hnb13 := NB283_273.out; have hnc13 := NB273_283.out; have hnb14 := NB283_274.out; have hnc14 := NB274_283.out; have hcz15 := zc6 BK283; have hcz16 := zc6 BK274))
   refine jQ (results_ct rfl _ _ gb274 23 #[.bool t276, .bool t277, .bool t278, .bool t279, .bool t280, .int .i64 t281] (0, 0) _ rfl (zP1 BK274 NB274_283) Try.underlying23 rfl zr) rfl ?_
   exact ⟨ze, zb3 HB GE273 GE274 GE283⟩
  ·replace c6 := Bool.eq_false_iff.mpr c6
   subst c6
   rw [if_neg zfalse] at H
   simp only [jH, jK] at H
   obtain ⟨rfl, rfl, rfl, rfl, rfl, rfl, rfl⟩ := H
   go_enter Try.func90, Try.ntmps90
   go_wp2_with (first | ((with_reducible refine jJ (N := 2) rfl ?_); refine zE 2 #[.bool a0_0, .bool a0_1, .bool a0_2, .bool a0_3, .bool a0_4, .int .i64 a0_5] 23 ?_; intro gb273 hg w17 hbox hb; have BK273 := jA (hbox); have GW273 := zg0 hg HB; have GE273 := zg0 hg HB; replace HB := zS0 HB hb; clear hb hbox hg) | ((with_reducible refine jJ (N := 4) rfl ?_); refine zE 4 #[.bool false, .bool false, .bool false, .bool false, .bool false, .int .i64 0] 23 ?_; intro gb274 hg w18 hbox hb; have BK274 := jA (hbox); have GW274 := zg1 hg HB GE273; have GE274 := zg1 hg HB GE273; replace HB := zS1 HB GE273 hb; have NB273_274 := zn hg BK273; replace BK273 := zB BK273 hb; have NB274_273 := jA NB273_274.out.symm; clear hb hbox hg) | ((with_reducible refine jG (f := 78) rfl ?_); refine zL (some 9) Try.func78 #[.int .i64 a1, .int .i64 0, .int .i64 9] ?_; (with_reducible refine (spec_l01In.calls a1 0 9 true _ A3.out).mono ?_); rintro e w' ⟨rfl, ⟨nd, rfl⟩⟩; refine ⟨_, rfl, ?_⟩; (try (rw [drewN_self w18]; generalize hq_ : World.drewN w18 _ = w18; replace BK273 : Aside0 (w18.heap[gb273]? = some (.cells #[.bool a0_0, .bool a0_1, .bool a0_2, .bool a0_3, .bool a0_4, .int .i64 a0_5] 23 (0, 0))) := ⟨by rw [← hq_]; exact (zk BK273)⟩; replace BK274 : Aside0 (w18.heap[gb274]? = some (.cells #[.bool false, .bool false, .bool false, .bool false, .bool false, .int .i64 0] 23 (0, 0))) := ⟨by rw [← hq_]; exact (zk BK274)⟩; replace HB : Aside0 (Below w.heap.size w w18) := ⟨by rw [← hq_]; exact (zb2 HB GE273 GE274)⟩; clear hq_)); have hnb19 := NB273_274.out; have hnc19 := NB274_273.out; have hcz20 := zc6 BK273) | ((with_reducible refine jG (f := 87) rfl ?_); refine zL (some 15) Try.func87 #[.agg #[.bool a0_0, .bool a0_1, .bool a0_2, .bool a0_3, .bool a0_4, .int .i64 a0_5], .int .i64 a1] ?_; (with_reducible refine (spec_l21Give.calls a0_0 a0_1 a0_2 a0_3 a0_4 a0_5 a1 t276 t277 t278 t279 t280 t281 false _ A5.out).mono ?_); rintro e w21 ⟨rfl, hb⟩; refine ⟨_, rfl, ?_⟩; replace BK273 := zB BK273 hb; replace BK274 := zB BK274 hb; replace HB := zS2 HB GE273 GE274 hb; clear hb) | ((with_reducible refine jJ (N := 6) rfl ?_); refine zE 6 #[.bool false, .bool false, .bool false, .bool false, .bool false, .int .i64 0] 23 ?_; intro gb283 hg w22 hbox hb; have BK283 := jA (hbox); have GW283 := zg2 hg HB GE273 GE274; have GE283 := zg2 hg HB GE273 GE274; replace HB := zS2 HB GE273 GE274 hb; have NB273_283 := zn hg BK273; replace BK273 := zB BK273 hb; have NB283_273 := jA NB273_283.out.symm; have NB274_283 := zn hg BK274; replace BK274 := zB BK274 hb; have NB283_274 := jA NB274_283.out.symm; clear hb hbox hg; have hnb23 := NB283_273.out; have hnc23 := NB273_283.out; have hnb24 := NB283_274.out; have hnc24 := NB274_283.out; have hcz25 := zc6 BK283; have hcz26 := zc6 BK273; have hcz27 := zc6 BK274))
   refine jQ (results_ct rfl _ _ gb274 23 #[.bool a0_0, .bool a0_1, .bool a0_2, .bool a0_3, .bool a0_4, .int .i64 a0_5] (0, 0) _ rfl (zP1 BK274 NB274_283) Try.underlying23 rfl zr) rfl ?_
   exact ⟨ze, zb3 HB GE273 GE274 GE283⟩
 ·replace c4 := Bool.eq_false_iff.mpr c4
  subst c4
  rw [if_neg zfalse] at H
  simp only [jH, jK] at H
  obtain ⟨rfl, rfl, rfl, rfl, rfl, rfl, rfl⟩ := H
  go_enter Try.func90, Try.ntmps90
  go_wp2_with (first | ((with_reducible refine jJ (N := 2) rfl ?_); refine zE 2 #[.bool a0_0, .bool a0_1, .bool a0_2, .bool a0_3, .bool a0_4, .int .i64 a0_5] 23 ?_; intro gb273 hg w28 hbox hb; have BK273 := jA (hbox); have GW273 := zg0 hg HB; have GE273 := zg0 hg HB; replace HB := zS0 HB hb; clear hb hbox hg) | ((with_reducible refine jJ (N := 4) rfl ?_); refine zE 4 #[.bool false, .bool false, .bool false, .bool false, .bool false, .int .i64 0] 23 ?_; intro gb274 hg w29 hbox hb; have BK274 := jA (hbox); have GW274 := zg1 hg HB GE273; have GE274 := zg1 hg HB GE273; replace HB := zS1 HB GE273 hb; have NB273_274 := zn hg BK273; replace BK273 := zB BK273 hb; have NB274_273 := jA NB273_274.out.symm; clear hb hbox hg) | ((with_reducible refine jG (f := 78) rfl ?_); refine zL (some 9) Try.func78 #[.int .i64 a1, .int .i64 0, .int .i64 9] ?_; (with_reducible refine (spec_l01In.calls a1 0 9 false _ A3.out).mono ?_); rintro e w' ⟨rfl, ⟨nd, rfl⟩⟩; refine ⟨_, rfl, ?_⟩; (try (rw [drewN_self w29]; generalize hq_ : World.drewN w29 _ = w29; replace BK273 : Aside0 (w29.heap[gb273]? = some (.cells #[.bool a0_0, .bool a0_1, .bool a0_2, .bool a0_3, .bool a0_4, .int .i64 a0_5] 23 (0, 0))) := ⟨by rw [← hq_]; exact (zk BK273)⟩; replace BK274 : Aside0 (w29.heap[gb274]? = some (.cells #[.bool false, .bool false, .bool false, .bool false, .bool false, .int .i64 0] 23 (0, 0))) := ⟨by rw [← hq_]; exact (zk BK274)⟩; replace HB : Aside0 (Below w.heap.size w w29) := ⟨by rw [← hq_]; exact (zb2 HB GE273 GE274)⟩; clear hq_)); have hnb30 := NB273_274.out; have hnc30 := NB274_273.out; have hcz31 := zc6 BK273; have hcz32 := zc6 BK274))
  refine jQ (results_ct rfl _ _ gb274 23 #[.bool a0_0, .bool a0_1, .bool a0_2, .bool a0_3, .bool a0_4, .int .i64 a0_5] (0, 0) _ rfl (zP0 BK274) Try.underlying23 rfl zr) rfl ?_
  exact ⟨ze, zb2 HB GE273 GE274⟩

end Go.Proofs.Ythieppjmjgijfaa.PFnProofs
