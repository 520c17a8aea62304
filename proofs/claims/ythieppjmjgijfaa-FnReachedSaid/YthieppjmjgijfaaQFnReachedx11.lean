/- Functions and contracts that FnReached reaches (12 of 22). -/
import Derived.Test.YthieppjmjgijfaaQFnReachedx10
namespace Go.Proofs.Ythieppjmjgijfaa.PFnReached
open Go.RowKit Go.Proofs.YthieppjmjgijfaaW.PrintWords Go.Proofs.YthieppjmjgijfaaW.PrintLast Go.Proofs.YthieppjmjgijfaaW.PrintMore
attribute [local go_sem] max2_int min2_int max_two min_two max_three min_three max_four min_four   -- for this text's walks alone
set_option linter.unusedVariables false
set_option linter.unusedSimpArgs false

/-! ### spec_l01Pick: function 61 -/
def spec_l01Pick.f (s0_0 : List Int) (s0_1 : Int) (s0_2 : Int) (l1 : List Int) : Option (Int × Int × Int) := (spec_l01Next.f s0_0 s0_1 s0_2 (l1.length : Int)).bind fun bt392 => (if 0 ≤ bt392.1 then (if bt392.1 < (l1.length : Int) then (some (rd l1 bt392.1, bt392.2.1, bt392.2.2)) else (none)) else (none))
set_option maxHeartbeats 8000000 in
set_option maxRecDepth 100000 in
theorem spec_l01Pick.calls (g : Nat) (s0_0 : List Int) (s0_1 : Int) (s0_2 : Int) (A1 : Option Addr) (c1 : Nat) (l1 : List Int) (r1 : Int) (r2 : Int) (r3 : Int) (w0 w : World) (hI : IsS95 w0 w g s0_0 s0_1 s0_2) (hB : Below w0.heap.size w0 w) (hr1 : Kd.C (Kd.int .i64) w A1 l1.length l1) (hc1 : l1.length ≤ c1) (hf1 : ∀ ad, A1 = some ad → 0 < l1.length → ad.block ≠ g) (h : spec_l01Pick.f s0_0 s0_1 s0_2 l1 = some (r1, r2, r3)) :
  Calls Try.prog 61 #[.pointer (some ⟨g, 0, none⟩), .slice A1 l1.length c1] w fun e w' => e = .returned (.int .i64 r1) ∧ IsS95 w0 w' g s0_0 r2 r3 ∧ Below w0.heap.size w0 w' ∧ KeepBut w w' g none := by
 have HR1 := jA hr1
 have HC1 := jA hc1
 clear hr1 hc1
 have HI0 := jA hI
 have HK := jA (KeepBut.refl w g none)
 have HL := jA hB.size
 clear hI
 have HW0 := jA hB.size
 have HB := jA hB
 clear hB
 have H := h
 unfold spec_l01Pick.f at H
 clear h
 replace H := jD.mp H
 obtain ⟨⟨t392, t393, t394⟩, A30, H⟩ := H
 try dsimp only at H
 have A3 := jA A30
 clear A30
 by_cases c4 : 0 ≤ t392
 ·rw [if_pos c4] at H
  have c4b0 : decide (0 ≤ t392) = true := jJ c4
  clear c4
  by_cases c5 : t392 < (l1.length : Int)
  ·rw [if_pos c5] at H
   have c5b0 : decide (t392 < (l1.length : Int)) = true := jJ c5
   clear c5
   simp only [jI, jM] at H
   obtain ⟨rfl, rfl, rfl⟩ := H
   go_enter Try.func61, Try.ntmps61
   go_wp2_with (first | ((with_reducible refine jH (f := 62) rfl ?_); refine zL (some 9) Try.func62 #[.pointer (some ⟨g, 0, none⟩), .int .i64 (l1.length : Int)] ?_; (with_reducible refine (spec_l01Next.calls g s0_0 s0_1 s0_2 (l1.length : Int) t392 t393 t394 w0 _ ?side1 ?side2 A3.out).mono ?_); (case side1 => exact zr3 HI0); (case side2 => exact zr4 HB HI0); rintro e w6 ⟨rfl, hi, hb, hk⟩; refine ⟨_, rfl, ?_⟩; replace HK := jA (KeepBut.trans (zh0 HK) hk (.inl rfl)); replace HB := jA (hb); replace HI0 := jA (hi); (try clear hb); (try clear hb2); (try clear hk); (try clear hi); have p395 : 0 ≤ (t392 : Int) := jB za; have q395 : t392 < (l1.length : Int) := jB za; obtain ⟨ad395, e395, hx395_0⟩ := jR HR1.out t392 p395 q395; cases e395; replace hx395_0 := keep_cell HK.out hx395_0 (by first | (rw [jX]; exact hf1 _ rfl (by omega)) | exact hf1 _ rfl (by omega) | exact hf1 ad395 rfl (by omega)); replace p395 := eq_true p395; replace q395 := eq_true q395))
   go_ret
   exact ⟨ze, zr3 HI0, zr4 HB HI0, zh0 HK⟩
  ·rw [if_neg c5] at H
   exact absurd H (by simp)
 ·rw [if_neg c4] at H
  exact absurd H (by simp)

/-! ### spec_l21Input: function 90 -/
def spec_l21Input.f (a0_0 : Bool) (a0_1 : Bool) (a0_2 : Bool) (a0_3 : Bool) (a0_4 : Bool) (a0_5 : Int) (a1 : Int) : Option (Bool × Bool × Bool × Bool × Bool × Int × Int) := (spec_l01In.f a1 0 9).bind fun t398 => (if t398 = true then ((spec_l21Give.f a0_0 a0_1 a0_2 a0_3 a0_4 a0_5 a1).bind fun bt399 => (if bt399.2.2.2.2.2.2 = true then (some (bt399.1, bt399.2.1, bt399.2.2.1, bt399.2.2.2.1, bt399.2.2.2.2.1, bt399.2.2.2.2.2.1, 0)) else (some (a0_0, a0_1, a0_2, a0_3, a0_4, a0_5, 5)))) else (some (a0_0, a0_1, a0_2, a0_3, a0_4, a0_5, 2)))
set_option maxHeartbeats 8000000 in
set_option maxRecDepth 100000 in
theorem spec_l21Input.calls (a0_0 : Bool) (a0_1 : Bool) (a0_2 : Bool) (a0_3 : Bool) (a0_4 : Bool) (a0_5 : Int) (a1 : Int) (r1 : Bool) (r2 : Bool) (r3 : Bool) (r4 : Bool) (r5 : Bool) (r6 : Int) (r7 : Int) (w : World) (h : spec_l21Input.f a0_0 a0_1 a0_2 a0_3 a0_4 a0_5 a1 = some (r1, r2, r3, r4, r5, r6, r7)) :
  Calls Try.prog 90 #[.agg #[.bool a0_0, .bool a0_1, .bool a0_2, .bool a0_3, .bool a0_4, .int .i64 a0_5], .int .i64 a1] w fun e w' => e = .returned (.tuple #[.agg #[.bool r1, .bool r2, .bool r3, .bool r4, .bool r5, .int .i64 r6], .int .i64 r7]) ∧ Below w.heap.size w w' := by
 have hu23 := Try.underlying23
 have HB := jA (Below.refl w.heap.size w)
 have H := h
 unfold spec_l21Input.f at H
 clear h
 replace H := jD.mp H
 obtain ⟨t398, A30, H⟩ := H
 try dsimp only at H
 have A3 := jA A30
 clear A30
 by_cases c4 : t398 = true
 ·subst c4
  rw [if_pos rfl] at H
  replace H := jD.mp H
  obtain ⟨⟨t399, t400, t401, t402, t403, t404, t405⟩, A50, H⟩ := H
  try dsimp only at H
  have A5 := jA A50
  clear A50
  by_cases c6 : t405 = true
  ·subst c6
   rw [if_pos rfl] at H
   simp only [jI, jM] at H
   obtain ⟨rfl, rfl, rfl, rfl, rfl, rfl, rfl⟩ := H
   go_enter Try.func90, Try.ntmps90
   go_wp2_with (first | ((with_reducible refine jK (N := 2) rfl ?_); refine zE 2 #[.bool a0_0, .bool a0_1, .bool a0_2, .bool a0_3, .bool a0_4, .int .i64 a0_5] 23 ?_; intro gb396 hg w7 hbox hb; have BK396 := jA (hbox); have GW396 := zg0 hg HB; have GE396 := zg0 hg HB; replace HB := zS0 HB hb; clear hb hbox hg) | ((with_reducible refine jK (N := 4) rfl ?_); refine zE 4 #[.bool false, .bool false, .bool false, .bool false, .bool false, .int .i64 0] 23 ?_; intro gb397 hg w8 hbox hb; have BK397 := jA (hbox); have GW397 := zg1 hg HB GE396; have GE397 := zg1 hg HB GE396; replace HB := zS1 HB GE396 hb; have NB396_397 := zn hg BK396; replace BK396 := zB BK396 hb; have NB397_396 := jA NB396_397.out.symm; clear hb hbox hg) | ((with_reducible refine jH (f := 78) rfl ?_); refine zL (some 9) Try.func78 #[.int .i64 a1, .int .i64 0, .int .i64 9] ?_; (with_reducible refine (spec_l01In.calls a1 0 9 true _ A3.out).mono ?_); rintro e w' ⟨rfl, ⟨nd, rfl⟩⟩; refine ⟨_, rfl, ?_⟩; (try (rw [drewN_self w8]; generalize hq_ : World.drewN w8 _ = w8; replace BK396 : Aside0 (w8.heap[gb396]? = some (.cells #[.bool a0_0, .bool a0_1, .bool a0_2, .bool a0_3, .bool a0_4, .int .i64 a0_5] 23 (0, 0))) := ⟨by rw [← hq_]; exact (zk BK396)⟩; replace BK397 : Aside0 (w8.heap[gb397]? = some (.cells #[.bool false, .bool false, .bool false, .bool false, .bool false, .int .i64 0] 23 (0, 0))) := ⟨by rw [← hq_]; exact (zk BK397)⟩; replace HB : Aside0 (Below w.heap.size w w8) := ⟨by rw [← hq_]; exact (zb2 HB GE396 GE397)⟩; clear hq_)); have hnb9 := NB396_397.out; have hnc9 := NB397_396.out; have hcz10 := zc6 BK396) | ((with_reducible refine jH (f := 87) rfl ?_); refine zL (some 15) Try.func87 #[.agg #[.bool a0_0, .bool a0_1, .bool a0_2, .bool a0_3, .bool a0_4, .int .i64 a0_5], .int .i64 a1] ?_; (with_reducible refine (spec_l21Give.calls a0_0 a0_1 a0_2 a0_3 a0_4 a0_5 a1 t399 t400 t401 t402 t403 t404 true _ A5.out).mono ?_); rintro e w11 ⟨rfl, hb⟩; refine ⟨_, rfl, ?_⟩; replace BK396 := zB BK396 hb; replace BK397 := zB BK397 hb; replace HB := zS2 HB GE396 GE397 hb; clear hb) | ((with_reducible refine jK (N := 6) rfl ?_); refine zE 6 #[.bool false, .bool false, .bool false, .bool false, .bool false, .int .i64 0] 23 ?_; intro gb406 hg w12 hbox hb; have BK406 := jA (hbox); have GW406 := zg2 hg HB GE396 GE397; have GE406 := zg2 hg HB GE396 GE397; replace HB := zS2 HB GE396 GE397 hb; have NB396_406 := zn hg BK396; replace BK396 := zB BK396 hb; have NB406_396 := jA NB396_406.out.symm; have NB397_406 := zn hg BK397; replace BK397 := zB BK397 hb; have NB406_397 := jA NB397_406.out.symm; clear hb hbox hg; have hnb13 := NB406_396.out; have hnc13 := NB396_406.out; have hnb14 := NB406_397.out; have hnc14 := NB397_406.out; have hcz15 := zc6 BK406; have hcz16 := zc6 BK397))
   refine jT (results_ct rfl _ _ gb397 23 #[.bool t399, .bool t400, .bool t401, .bool t402, .bool t403, .int .i64 t404] (0, 0) _ rfl (zP1 BK397 NB397_406) Try.underlying23 rfl zr) rfl ?_
   exact ⟨ze, zb3 HB GE396 GE397 GE406⟩
  ·replace c6 := Bool.eq_false_iff.mpr c6
   subst c6
   rw [if_neg zfalse] at H
   simp only [jI, jM] at H
   obtain ⟨rfl, rfl, rfl, rfl, rfl, rfl, rfl⟩ := H
   go_enter Try.func90, Try.ntmps90
   go_wp2_with (first | ((with_reducible refine jK (N := 2) rfl ?_); refine zE 2 #[.bool a0_0, .bool a0_1, .bool a0_2, .bool a0_3, .bool a0_4, .int .i64 a0_5] 23 ?_; intro gb396 hg w17 hbox hb; have BK396 := jA (hbox); have GW396 := zg0 hg HB; have GE396 := zg0 hg HB; replace HB := zS0 HB hb; clear hb hbox hg) | ((with_reducible refine jK (N := 4) rfl ?_); refine zE 4 #[.bool false, .bool false, .bool false, .bool false, .bool false, .int .i64 0] 23 ?_; intro gb397 hg w18 hbox hb; have BK397 := jA (hbox); have GW397 := zg1 hg HB GE396; have GE397 := zg1 hg HB GE396; replace HB := zS1 HB GE396 hb; have NB396_397 := zn hg BK396; replace BK396 := zB BK396 hb; have NB397_396 := jA NB396_397.out.symm; clear hb hbox hg) | ((with_reducible refine jH (f := 78) rfl ?_); refine zL (some 9) Try.func78 #[.int .i64 a1, .int .i64 0, .int .i64 9] ?_; (with_reducible refine (spec_l01In.calls a1 0 9 true _ A3.out).mono ?_); rintro e w' ⟨rfl, ⟨nd, rfl⟩⟩; refine ⟨_, rfl, ?_⟩; (try (rw [drewN_self w18]; generalize hq_ : World.drewN w18 _ = w18; replace BK396 : Aside0 (w18.heap[gb396]? = some (.cells #[.bool a0_0, .bool a0_1, .bool a0_2, .bool a0_3, .bool a0_4, .int .i64 a0_5] 23 (0, 0))) := ⟨by rw [← hq_]; exact (zk BK396)⟩; replace BK397 : Aside0 (w18.heap[gb397]? = some (.cells #[.bool false, .bool false, .bool false, .bool false, .bool false, .int .i64 0] 23 (0, 0))) := ⟨by rw [← hq_]; exact (zk BK397)⟩; replace HB : Aside0 (Below w.heap.size w w18) := ⟨by rw [← hq_]; exact (zb2 HB GE396 GE397)⟩; clear hq_)); have hnb19 := NB396_397.out; have hnc19 := NB397_396.out; have hcz20 := zc6 BK396) | ((with_reducible refine jH (f := 87) rfl ?_); refine zL (some 15) Try.func87 #[.agg #[.bool a0_0, .bool a0_1, .bool a0_2, .bool a0_3, .bool a0_4, .int .i64 a0_5], .int .i64 a1] ?_; (with_reducible refine (spec_l21Give.calls a0_0 a0_1 a0_2 a0_3 a0_4 a0_5 a1 t399 t400 t401 t402 t403 t404 false _ A5.out).mono ?_); rintro e w21 ⟨rfl, hb⟩; refine ⟨_, rfl, ?_⟩; replace BK396 := zB BK396 hb; replace BK397 := zB BK397 hb; replace HB := zS2 HB GE396 GE397 hb; clear hb) | ((with_reducible refine jK (N := 6) rfl ?_); refine zE 6 #[.bool false, .bool false, .bool false, .bool false, .bool false, .int .i64 0] 23 ?_; intro gb406 hg w22 hbox hb; have BK406 := jA (hbox); have GW406 := zg2 hg HB GE396 GE397; have GE406 := zg2 hg HB GE396 GE397; replace HB := zS2 HB GE396 GE397 hb; have NB396_406 := zn hg BK396; replace BK396 := zB BK396 hb; have NB406_396 := jA NB396_406.out.symm; have NB397_406 := zn hg BK397; replace BK397 := zB BK397 hb; have NB406_397 := jA NB397_406.out.symm; clear hb hbox hg; have hnb23 := NB406_396.out; have hnc23 := NB396_406.out; have hnb24 := NB406_397.out; have hnc24 := NB397_406.out; have hcz25 := zc6 BK406; have hcz26 := zc6 BK396; have hcz27 := zc6 BK397))
   refine jT (results_ct rfl _ _ gb397 23 #[.bool a0_0, .bool a0_1, .bool a0_2, .bool a0_3, .bool a0_4, .int .i64 a0_5] (0, 0) _ rfl (zP1 BK397 NB397_406) Try.underlying23 rfl zr) rfl ?_
   exact ⟨ze, zb3 HB GE396 GE397 GE406⟩
 ·replace c4 := Bool.eq_false_iff.mpr c4
  subst c4
  rw [if_neg zfalse] at H
  simp only [jI, jM] at H
  obtain ⟨rfl, rfl, rfl, rfl, rfl, rfl, rfl⟩ := H
  go_enter Try.func90, Try.ntmps90
  go_wp2_with (first | ((with_reducible refine jK (N := 2) rfl ?_); refine zE 2 #[.bool a0_0, .bool a0_1, .bool a0_2, .bool a0_3, .bool a0_4, .int .i64 a0_5] 23 ?_; intro gb396 hg w28 hbox hb; have BK396 := jA (hbox); have GW396 := zg0 hg HB; have GE396 := zg0 hg HB; replace HB := zS0 HB hb; clear hb hbox hg) | ((with_reducible refine jK (N := 4) rfl ?_); refine zE 4 #[.bool false, .bool false, .bool false, .bool false, .bool false, .int .i64 0] 23 ?_; intro gb397 hg w29 hbox hb; have BK397 := jA (hbox); have GW397 := zg1 hg HB GE396; have GE397 := zg1 hg HB GE396; replace HB := zS1 HB GE396 hb; have NB396_397 := zn hg BK396; replace BK396 := zB BK396 hb; have NB397_396 := jA NB396_397.out.symm; clear hb hbox hg) | ((with_reducible refine jH (f := 78) rfl ?_); refine zL (some 9) Try.func78 #[.int .i64 a1, .int .i64 0, .int .i64 9] ?_; (with_reducible refine (spec_l01In.calls a1 0 9 false _ A3.out).mono ?_); rintro e w' ⟨rfl, ⟨nd, rfl⟩⟩; refine ⟨_, rfl, ?_⟩; (try (rw [drewN_self w29]; generalize hq_ : World.drewN w29 _ = w29; replace BK396 : Aside0 (w29.heap[gb396]? = some (.cells #[.bool a0_0, .bool a0_1, .bool a0_2, .bool a0_3, .bool a0_4, .int .i64 a0_5] 23 (0, 0))) := ⟨by rw [← hq_]; exact (zk BK396)⟩; replace BK397 : Aside0 (w29.heap[gb397]? = some (.cells #[.bool false, .bool false, .bool false, .bool false, .bool false, .int .i64 0] 23 (0, 0))) := ⟨by rw [← hq_]; exact (zk BK397)⟩; replace HB : Aside0 (Below w.heap.size w w29) := ⟨by rw [← hq_]; exact (zb2 HB GE396 GE397)⟩; clear hq_)); have hnb30 := NB396_397.out; have hnc30 := NB397_396.out; have hcz31 := zc6 BK396; have hcz32 := zc6 BK397))
  refine jT (results_ct rfl _ _ gb397 23 #[.bool a0_0, .bool a0_1, .bool a0_2, .bool a0_3, .bool a0_4, .int .i64 a0_5] (0, 0) _ rfl (zP0 BK397) Try.underlying23 rfl zr) rfl ?_
  exact ⟨ze, zb2 HB GE396 GE397⟩

end Go.Proofs.Ythieppjmjgijfaa.PFnReached
