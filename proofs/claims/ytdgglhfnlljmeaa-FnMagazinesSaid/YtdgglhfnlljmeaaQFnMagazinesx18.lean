/- Functions and contracts that FnMagazines reaches (19 of 24). -/
import Derived.Test.YtdgglhfnlljmeaaQFnMagazinesx17
namespace Go.Proofs.Ytdgglhfnlljmeaa.PFnMagazines
open Go.RowKit Go.Proofs.YtdgglhfnlljmeaaW.PrintWords Go.Proofs.YtdgglhfnlljmeaaW.PrintLast Go.Proofs.YtdgglhfnlljmeaaW.PrintMore
attribute [local go_sem] max2_int min2_int max_two min_two max_three min_three max_four min_four   -- for this text's walks alone
set_option linter.unusedVariables false
set_option linter.unusedSimpArgs false

/-! ### impl_StorePieces: function 39 -/
def impl_StorePieces.f (k : Nat) (l0 : List (S65)) (a1_0 : Int) (l1_1 : List Int) (a2 : ByteArray) (a3 : Int) : Option (Int × List Int × Int) := (impl_IsMagazine.f k l0 a1_0 l1_1).bind fun t480 => (if t480 = true then ((impl_within.f a3 0 1000).bind fun t481 => (if t481 = true then ((impl_articleOf.f k l0 a2).bind fun t482 => (if t482 < 0 then (some (0, ([] : List Int), 4)) else ((impl_isStored.f k l0 a1_0 l1_1 t482 a3).bind fun t483 => (if t483 = true then ((impl_withPieces.f a1_0 l1_1 t482 a3).bind fun bt484 => (some (bt484.1, bt484.2, 0))) else (some (0, ([] : List Int), 5)))))) else (some (0, ([] : List Int), 2)))) else (some (0, ([] : List Int), 1)))
theorem impl_StorePieces.mono : ∀ a0 a1 a2 a3 a4 k, LeO (impl_StorePieces.f k a0 a1 a2 a3 a4) (impl_StorePieces.f (k + 1) a0 a1 a2 a3 a4) := by
 intro a0 a1 a2 a3 a4 k
 unfold impl_StorePieces.f
 repeat' first
   | (with_reducible exact impl_IsMagazine.mono _ _ _ _)
   | (with_reducible exact impl_articleOf.mono _ _ _)
   | (with_reducible exact impl_isStored.mono _ _ _ _ _ _)
   | (with_reducible exact LeO.refl _)
   | (with_reducible exact LeO.none _)
   | (with_reducible refine LeO.ite ?_ ?_)
   | (with_reducible refine LeO.bind ?_ (fun _ => ?_))
   | exact impl_IsMagazine.mono _ _ _ _
   | exact impl_articleOf.mono _ _ _
   | exact impl_isStored.mono _ _ _ _ _ _
   | exact LeO.none _
   | refine LeO.ite ?_ ?_
   | refine LeO.bind ?_ (fun _ => ?_)
set_option maxHeartbeats 8000000 in
set_option maxRecDepth 100000 in
theorem impl_StorePieces.calls (k : Nat) (A0 : Option Addr) (c0 : Nat) (l0 : List (S65)) (a1_0 : Int) (A1_1 : Option Addr) (c1_1 : Nat) (l1_1 : List Int) (a2 : ByteArray) (a3 : Int) (r1 : Int) (r2 : List Int) (r3 : Int) (w : World) (hr0 : Kd.C k65 w A0 l0.length l0) (hc0 : l0.length ≤ c0) (hr1_1 : Kd.C (Kd.int .i64) w A1_1 l1_1.length l1_1) (hc1_1 : l1_1.length ≤ c1_1) (h : impl_StorePieces.f k l0 a1_0 l1_1 a2 a3 = some (r1, r2, r3)) :
  Calls Try.prog 39 #[.slice A0 l0.length c0, .agg #[.int .i64 a1_0, .slice A1_1 l1_1.length c1_1], .string a2, .int .i64 a3] w fun e w' => ∃ v1_ : Value, e = .returned (.tuple #[.agg #[.int .i64 r1, v1_], .int .i64 r3]) ∧ Kd.R (Kd.int .i64) 2 w' w.heap.size (fun _ => True) v1_ r2 ∧ Below w.heap.size w w' := by
 have hu28 := Try.underlying28
 have HR0 := jA hr0
 have HC0 := jA hc0
 clear hr0 hc0
 have HR1_1 := jA hr1_1
 have HC1_1 := jA hc1_1
 clear hr1_1 hc1_1
 have HB := jA (Below.refl w.heap.size w)
 have H := h
 unfold impl_StorePieces.f at H
 clear h
 replace H := jB.mp H
 obtain ⟨t480, A50, H⟩ := H
 try dsimp only at H
 have A5 := jA A50
 clear A50
 by_cases c6 : t480 = true
 ·subst c6
  rw [if_pos rfl] at H
  replace H := jB.mp H
  obtain ⟨t481, A70, H⟩ := H
  try dsimp only at H
  have A7 := jA A70
  clear A70
  by_cases c8 : t481 = true
  ·subst c8
   rw [if_pos rfl] at H
   replace H := jB.mp H
   obtain ⟨t482, A90, H⟩ := H
   try dsimp only at H
   have A9 := jA A90
   clear A90
   by_cases c10 : t482 < 0
   ·rw [if_pos c10] at H
    have c10b0 : decide (t482 < 0) = true := jJ c10
    clear c10
    simp only [jN, jO] at H
    obtain ⟨rfl, rfl, rfl⟩ := H
    go_enter Try.func39, Try.ntmps39
    go_wp2_with (first | ((with_reducible refine jL (N := 5) rfl ?_); refine zE 5 #[.int .i64 a1_0, .slice A1_1 l1_1.length c1_1] 28 ?_; intro gb478 hg w11 hbox hb; have BK478 := jA (hbox); have GW478 := zg0 hg HB; have GE478 := zg0 hg HB; replace HB := zS0 HB hb; clear hb hbox hg) | ((with_reducible refine jL (N := 8) rfl ?_); refine zE 8 #[.int .i64 0, .slice none 0 0] 28 ?_; intro gb479 hg w12 hbox hb; have BK479 := jA (hbox); have GW479 := zg1 hg HB GE478; have GE479 := zg1 hg HB GE478; replace HB := zS1 HB GE478 hb; have NB478_479 := zn hg BK478; replace BK478 := zB BK478 hb; have NB479_478 := jA NB478_479.out.symm; clear hb hbox hg; have hnb13 := NB478_479.out; have hnc13 := NB479_478.out; have hcz14 := zc2 BK478) | ((with_reducible refine jD (f := 26) rfl ?_); refine zL (some 13) Try.func26 #[.slice A0 l0.length c0, .agg #[.int .i64 a1_0, .slice A1_1 l1_1.length c1_1]] ?_; (with_reducible refine (impl_IsMagazine.calls k _ _ l0 a1_0 _ _ l1_1 true _ ?side1 ?side2 ?side3 ?side4 A5.out).mono ?_); (case side1 => exact zs HR0 HB); (case side2 => exact HC0.out); (case side3 => exact zs HR1_1 HB); (case side4 => exact HC1_1.out); rintro e w15 ⟨rfl, hb⟩; refine ⟨_, rfl, ?_⟩; replace BK478 := zB BK478 hb; replace BK479 := zB BK479 hb; replace HB := zS2 HB GE478 GE479 hb; clear hb) | ((with_reducible refine jD (f := 61) rfl ?_); refine zL (some 17) Try.func61 #[.int .i64 a3, .int .i64 0, .int .i64 1000] ?_; (with_reducible refine (impl_within.calls a3 0 1000 true _ A7.out).mono ?_); rintro e w' ⟨rfl, ⟨nd, rfl⟩⟩; refine ⟨_, rfl, ?_⟩; (try (rw [drewN_self w15]; generalize hq_ : World.drewN w15 _ = w15; replace BK478 : Aside0 (w15.heap[gb478]? = some (.cells #[.int .i64 a1_0, .slice A1_1 l1_1.length c1_1] 28 (0, 0))) := ⟨by rw [← hq_]; exact (zk BK478)⟩; replace BK479 : Aside0 (w15.heap[gb479]? = some (.cells #[.int .i64 0, .slice none 0 0] 28 (0, 0))) := ⟨by rw [← hq_]; exact (zk BK479)⟩; replace HB : Aside0 (Below w.heap.size w w15) := ⟨by rw [← hq_]; exact (zb2 HB GE478 GE479)⟩; clear hq_))) | ((with_reducible refine jD (f := 70) rfl ?_); refine zL (some 22) Try.func70 #[.slice A0 l0.length c0, .string a2] ?_; (with_reducible refine (impl_articleOf.calls k _ _ l0 a2 t482 _ ?side1 ?side2 A9.out).mono ?_); (case side1 => exact zs HR0 HB); (case side2 => exact HC0.out); rintro e w16 ⟨rfl, hb⟩; refine ⟨_, rfl, ?_⟩; replace BK478 := zB BK478 hb; replace BK479 := zB BK479 hb; replace HB := zS2 HB GE478 GE479 hb; clear hb; have hcz17 := zc2 BK479))
    refine jX (results_ct rfl _ _ gb479 28 #[.int .i64 0, .slice none 0 0] (0, 0) _ rfl (zP0 BK479) Try.underlying28 rfl zr) rfl ?_
    exact ⟨_, ze, by first | exact Kd.R_nil _ _ _ _ _ | exact Kd.N_nil _ _ _ _ _ | exact Kd.V_nil _ _ _ _ _ | exact Kd.Q_nil _ _ _ _ _ | exact Kd.S_nil _ _ _ _ _, zb2 HB GE478 GE479⟩
   ·rw [if_neg c10] at H
    have c10b0 : decide (t482 < 0) = false := jQ c10
    clear c10
    replace H := jB.mp H
    obtain ⟨t483, A180, H⟩ := H
    try dsimp only at H
    have A18 := jA A180
    clear A180
    by_cases c19 : t483 = true
    ·subst c19
     rw [if_pos rfl] at H
     replace H := jB.mp H
     obtain ⟨⟨t484, t485⟩, A200, H⟩ := H
     try dsimp only at H
     have A20 := jA A200
     clear A200
     simp only [jN, jO] at H
     obtain ⟨rfl, rfl, rfl⟩ := H
     go_enter Try.func39, Try.ntmps39
     go_wp2_with (first | ((with_reducible refine jL (N := 5) rfl ?_); refine zE 5 #[.int .i64 a1_0, .slice A1_1 l1_1.length c1_1] 28 ?_; intro gb478 hg w21 hbox hb; have BK478 := jA (hbox); have GW478 := zg0 hg HB; have GE478 := zg0 hg HB; replace HB := zS0 HB hb; clear hb hbox hg) | ((with_reducible refine jL (N := 8) rfl ?_); refine zE 8 #[.int .i64 0, .slice none 0 0] 28 ?_; intro gb479 hg w22 hbox hb; have BK479 := jA (hbox); have GW479 := zg1 hg HB GE478; have GE479 := zg1 hg HB GE478; replace HB := zS1 HB GE478 hb; have NB478_479 := zn hg BK478; replace BK478 := zB BK478 hb; have NB479_478 := jA NB478_479.out.symm; clear hb hbox hg; have hnb23 := NB478_479.out; have hnc23 := NB479_478.out; have hcz24 := zc2 BK478) | ((with_reducible refine jD (f := 26) rfl ?_); refine zL (some 13) Try.func26 #[.slice A0 l0.length c0, .agg #[.int .i64 a1_0, .slice A1_1 l1_1.length c1_1]] ?_; (with_reducible refine (impl_IsMagazine.calls k _ _ l0 a1_0 _ _ l1_1 true _ ?side1 ?side2 ?side3 ?side4 A5.out).mono ?_); (case side1 => exact zs HR0 HB); (case side2 => exact HC0.out); (case side3 => exact zs HR1_1 HB); (case side4 => exact HC1_1.out); rintro e w25 ⟨rfl, hb⟩; refine ⟨_, rfl, ?_⟩; replace BK478 := zB BK478 hb; replace BK479 := zB BK479 hb; replace HB := zS2 HB GE478 GE479 hb; clear hb) | ((with_reducible refine jD (f := 61) rfl ?_); refine zL (some 17) Try.func61 #[.int .i64 a3, .int .i64 0, .int .i64 1000] ?_; (with_reducible refine (impl_within.calls a3 0 1000 true _ A7.out).mono ?_); rintro e w' ⟨rfl, ⟨nd, rfl⟩⟩; refine ⟨_, rfl, ?_⟩; (try (rw [drewN_self w25]; generalize hq_ : World.drewN w25 _ = w25; replace BK478 : Aside0 (w25.heap[gb478]? = some (.cells #[.int .i64 a1_0, .slice A1_1 l1_1.length c1_1] 28 (0, 0))) := ⟨by rw [← hq_]; exact (zk BK478)⟩; replace BK479 : Aside0 (w25.heap[gb479]? = some (.cells #[.int .i64 0, .slice none 0 0] 28 (0, 0))) := ⟨by rw [← hq_]; exact (zk BK479)⟩; replace HB : Aside0 (Below w.heap.size w w25) := ⟨by rw [← hq_]; exact (zb2 HB GE478 GE479)⟩; clear hq_))) | ((with_reducible refine jD (f := 70) rfl ?_); refine zL (some 22) Try.func70 #[.slice A0 l0.length c0, .string a2] ?_; (with_reducible refine (impl_articleOf.calls k _ _ l0 a2 t482 _ ?side1 ?side2 A9.out).mono ?_); (case side1 => exact zs HR0 HB); (case side2 => exact HC0.out); rintro e w26 ⟨rfl, hb⟩; refine ⟨_, rfl, ?_⟩; replace BK478 := zB BK478 hb; replace BK479 := zB BK479 hb; replace HB := zS2 HB GE478 GE479 hb; clear hb; have hcz27 := zc2 BK478) | ((with_reducible refine jD (f := 71) rfl ?_); refine zL (some 30) Try.func71 #[.slice A0 l0.length c0, .agg #[.int .i64 a1_0, .slice A1_1 l1_1.length c1_1], .int .i64 t482, .int .i64 a3] ?_; (with_reducible refine (impl_isStored.calls k _ _ l0 a1_0 _ _ l1_1 t482 a3 true _ ?side1 ?side2 ?side3 ?side4 A18.out).mono ?_); (case side1 => exact zs HR0 HB); (case side2 => exact HC0.out); (case side3 => exact zs HR1_1 HB); (case side4 => exact HC1_1.out); rintro e w28 ⟨rfl, hb⟩; refine ⟨_, rfl, ?_⟩; replace BK478 := zB BK478 hb; replace BK479 := zB BK479 hb; replace HB := zS2 HB GE478 GE479 hb; clear hb; have hcz29 := zc2 BK478) | ((with_reducible refine jD (f := 74) rfl ?_); refine zL (some 36) Try.func74 #[.agg #[.int .i64 a1_0, .slice A1_1 l1_1.length c1_1], .int .i64 t482, .int .i64 a3] ?_; (with_reducible refine (impl_withPieces.calls a1_0 _ _ l1_1 t482 a3 t484 t485 _ ?side1 ?side2 A20.out).mono ?_); (case side1 => exact zs HR1_1 HB); (case side2 => exact HC1_1.out); rintro e w30 ⟨v486, rfl, ho0, hb⟩; refine ⟨_, rfl, ?_⟩; have HO487 := jA (jU ho0 (jW (zb2 HB GE478 GE479))); replace BK478 := zB BK478 hb; replace BK479 := zB BK479 hb; replace HB := zS2 HB GE478 GE479 hb; (try clear hb); (try clear hb2); (try clear hk); (try clear hi); (try clear ho0); have hcz31 := zc2 BK479; obtain ⟨Ao32, co32, eo32⟩ := Kd.R_slice HO487.out; subst eo32))
     refine jX (results_ct rfl _ _ gb479 28 #[.int .i64 t484, .slice Ao32 t485.length co32] (0, 0) _ rfl (zP0 BK479) Try.underlying28 rfl zr) rfl ?_
     exact ⟨_, ze, zT HO487 BK479, zb2 HB GE478 GE479⟩
    ·replace c19 := Bool.eq_false_iff.mpr c19
     subst c19
     rw [if_neg zfalse] at H
     simp only [jN, jO] at H
     obtain ⟨rfl, rfl, rfl⟩ := H
     go_enter Try.func39, Try.ntmps39
     go_wp2_with (first | ((with_reducible refine jL (N := 5) rfl ?_); refine zE 5 #[.int .i64 a1_0, .slice A1_1 l1_1.length c1_1] 28 ?_; intro gb478 hg w33 hbox hb; have BK478 := jA (hbox); have GW478 := zg0 hg HB; have GE478 := zg0 hg HB; replace HB := zS0 HB hb; clear hb hbox hg) | ((with_reducible refine jL (N := 8) rfl ?_); refine zE 8 #[.int .i64 0, .slice none 0 0] 28 ?_; intro gb479 hg w34 hbox hb; have BK479 := jA (hbox); have GW479 := zg1 hg HB GE478; have GE479 := zg1 hg HB GE478; replace HB := zS1 HB GE478 hb; have NB478_479 := zn hg BK478; replace BK478 := zB BK478 hb; have NB479_478 := jA NB478_479.out.symm; clear hb hbox hg; have hnb35 := NB478_479.out; have hnc35 := NB479_478.out; have hcz36 := zc2 BK478) | ((with_reducible refine jD (f := 26) rfl ?_); refine zL (some 13) Try.func26 #[.slice A0 l0.length c0, .agg #[.int .i64 a1_0, .slice A1_1 l1_1.length c1_1]] ?_; (with_reducible refine (impl_IsMagazine.calls k _ _ l0 a1_0 _ _ l1_1 true _ ?side1 ?side2 ?side3 ?side4 A5.out).mono ?_); (case side1 => exact zs HR0 HB); (case side2 => exact HC0.out); (case side3 => exact zs HR1_1 HB); (case side4 => exact HC1_1.out); rintro e w37 ⟨rfl, hb⟩; refine ⟨_, rfl, ?_⟩; replace BK478 := zB BK478 hb; replace BK479 := zB BK479 hb; replace HB := zS2 HB GE478 GE479 hb; clear hb) | ((with_reducible refine jD (f := 61) rfl ?_); refine zL (some 17) Try.func61 #[.int .i64 a3, .int .i64 0, .int .i64 1000] ?_; (with_reducible refine (impl_within.calls a3 0 1000 true _ A7.out).mono ?_); rintro e w' ⟨rfl, ⟨nd, rfl⟩⟩; refine ⟨_, rfl, ?_⟩; (try (rw [drewN_self w37]; generalize hq_ : World.drewN w37 _ = w37; replace BK478 : Aside0 (w37.heap[gb478]? = some (.cells #[.int .i64 a1_0, .slice A1_1 l1_1.length c1_1] 28 (0, 0))) := ⟨by rw [← hq_]; exact (zk BK478)⟩; replace BK479 : Aside0 (w37.heap[gb479]? = some (.cells #[.int .i64 0, .slice none 0 0] 28 (0, 0))) := ⟨by rw [← hq_]; exact (zk BK479)⟩; replace HB : Aside0 (Below w.heap.size w w37) := ⟨by rw [← hq_]; exact (zb2 HB GE478 GE479)⟩; clear hq_))) | ((with_reducible refine jD (f := 70) rfl ?_); refine zL (some 22) Try.func70 #[.slice A0 l0.length c0, .string a2] ?_; (with_reducible refine (impl_articleOf.calls k _ _ l0 a2 t482 _ ?side1 ?side2 A9.out).mono ?_); (case side1 => exact zs HR0 HB); (case side2 => exact HC0.out); rintro e w38 ⟨rfl, hb⟩; refine ⟨_, rfl, ?_⟩; replace BK478 := zB BK478 hb; replace BK479 := zB BK479 hb; replace HB := zS2 HB GE478 GE479 hb; clear hb; have hcz39 := zc2 BK478) | ((with_reducible refine jD (f := 71) rfl ?_); refine zL (some 30) Try.func71 #[.slice A0 l0.length c0, .agg #[.int .i64 a1_0, .slice A1_1 l1_1.length c1_1], .int .i64 t482, .int .i64 a3] ?_; (with_reducible refine (impl_isStored.calls k _ _ l0 a1_0 _ _ l1_1 t482 a3 false _ ?side1 ?side2 ?side3 ?side4 A18.out).mono ?_); (case side1 => exact zs HR0 HB); (case side2 => exact HC0.out); (case side3 => exact zs HR1_1 HB); (case side4 => exact HC1_1.out); rintro e w40 ⟨rfl, hb⟩; refine ⟨_, rfl, ?_⟩; replace BK478 := zB BK478 hb; replace BK479 := zB BK479 hb; replace HB := zS2 HB GE478 GE479 hb; clear hb; have hcz41 := zc2 BK479))
     refine jX (results_ct rfl _ _ gb479 28 #[.int .i64 0, .slice none 0 0] (0, 0) _ rfl (zP0 BK479) Try.underlying28 rfl zr) rfl ?_
     exact ⟨_, ze, by first | exact Kd.R_nil _ _ _ _ _ | exact Kd.N_nil _ _ _ _ _ | exact Kd.V_nil _ _ _ _ _ | exact Kd.Q_nil _ _ _ _ _ | exact Kd.S_nil _ _ _ _ _, zb2 HB GE478 GE479⟩
  ·replace c8 := Bool.eq_false_iff.mpr c8
   subst c8
   rw [if_neg zfalse] at H
   simp only [jN, jO] at H
   obtain ⟨rfl, rfl, rfl⟩ := H
   go_enter Try.func39, Try.ntmps39
   go_wp2_with (first | ((with_reducible refine jL (N := 5) rfl ?_); refine zE 5 #[.int .i64 a1_0, .slice A1_1 l1_1.length c1_1] 28 ?_; intro gb478 hg w42 hbox hb; have BK478 := jA (hbox); have GW478 := zg0 hg HB; have GE478 := zg0 hg HB; replace HB := zS0 HB hb; clear hb hbox hg) | ((with_reducible refine jL (N := 8) rfl ?_); refine zE 8 #[.int .i64 0, .slice none 0 0] 28 ?_; intro gb479 hg w43 hbox hb; have BK479 := jA (hbox); have GW479 := zg1 hg HB GE478; have GE479 := zg1 hg HB GE478; replace HB := zS1 HB GE478 hb; have NB478_479 := zn hg BK478; replace BK478 := zB BK478 hb; have NB479_478 := jA NB478_479.out.symm; clear hb hbox hg; have hnb44 := NB478_479.out; have hnc44 := NB479_478.out; have hcz45 := zc2 BK478) | ((with_reducible refine jD (f := 26) rfl ?_); refine zL (some 13) Try.func26 #[.slice A0 l0.length c0, .agg #[.int .i64 a1_0, .slice A1_1 l1_1.length c1_1]] ?_; (with_reducible refine (impl_IsMagazine.calls k _ _ l0 a1_0 _ _ l1_1 true _ ?side1 ?side2 ?side3 ?side4 A5.out).mono ?_); (case side1 => exact zs HR0 HB); (case side2 => exact HC0.out); (case side3 => exact zs HR1_1 HB); (case side4 => exact HC1_1.out); rintro e w46 ⟨rfl, hb⟩; refine ⟨_, rfl, ?_⟩; replace BK478 := zB BK478 hb; replace BK479 := zB BK479 hb; replace HB := zS2 HB GE478 GE479 hb; clear hb) | ((with_reducible refine jD (f := 61) rfl ?_); refine zL (some 17) Try.func61 #[.int .i64 a3, .int .i64 0, .int .i64 1000] ?_; (with_reducible refine (impl_within.calls a3 0 1000 false _ A7.out).mono ?_); rintro e w' ⟨rfl, ⟨nd, rfl⟩⟩; refine ⟨_, rfl, ?_⟩; (try (rw [drewN_self w46]; generalize hq_ : World.drewN w46 _ = w46; replace BK478 : Aside0 (w46.heap[gb478]? = some (.cells #[.int .i64 a1_0, .slice A1_1 l1_1.length c1_1] 28 (0, 0))) := ⟨by rw [← hq_]; exact (zk BK478)⟩; replace BK479 : Aside0 (w46.heap[gb479]? = some (.cells #[.int .i64 0, .slice none 0 0] 28 (0, 0))) := ⟨by rw [← hq_]; exact (zk BK479)⟩; replace HB : Aside0 (Below w.heap.size w w46) := ⟨by rw [← hq_]; exact (zb2 HB GE478 GE479)⟩; clear hq_)); have hcz47 := zc2 BK479))
   refine jX (results_ct rfl _ _ gb479 28 #[.int .i64 0, .slice none 0 0] (0, 0) _ rfl (zP0 BK479) Try.underlying28 rfl zr) rfl ?_
   exact ⟨_, ze, by first | exact Kd.R_nil _ _ _ _ _ | exact Kd.N_nil _ _ _ _ _ | exact Kd.V_nil _ _ _ _ _ | exact Kd.Q_nil _ _ _ _ _ | exact Kd.S_nil _ _ _ _ _, zb2 HB GE478 GE479⟩
 ·replace c6 := Bool.eq_false_iff.mpr c6
  subst c6
  rw [if_neg zfalse] at H
  simp only [jN, jO] at H
  obtain ⟨rfl, rfl, rfl⟩ := H
  go_enter Try.func39, Try.ntmps39
  go_wp2_with (first | ((with_reducible refine jL (N := 5) rfl ?_); refine zE 5 #[.int .i64 a1_0, .slice A1_1 l1_1.length c1_1] 28 ?_; intro gb478 hg w48 hbox hb; have BK478 := jA (hbox); have GW478 := zg0 hg HB; have GE478 := zg0 hg HB; replace HB := zS0 HB hb; clear hb hbox hg) | ((with_reducible refine jL (N := 8) rfl ?_); refine zE 8 #[.int .i64 0, .slice none 0 0] 28 ?_; intro gb479 hg w49 hbox hb; have BK479 := jA (hbox); have GW479 := zg1 hg HB GE478; have GE479 := zg1 hg HB GE478; replace HB := zS1 HB GE478 hb; have NB478_479 := zn hg BK478; replace BK478 := zB BK478 hb; have NB479_478 := jA NB478_479.out.symm; clear hb hbox hg; have hnb50 := NB478_479.out; have hnc50 := NB479_478.out; have hcz51 := zc2 BK478) | ((with_reducible refine jD (f := 26) rfl ?_); refine zL (some 13) Try.func26 #[.slice A0 l0.length c0, .agg #[.int .i64 a1_0, .slice A1_1 l1_1.length c1_1]] ?_; (with_reducible refine (impl_IsMagazine.calls k _ _ l0 a1_0 _ _ l1_1 false _ ?side1 ?side2 ?side3 ?side4 A5.out).mono ?_); (case side1 => exact zs HR0 HB); (case side2 => exact HC0.out); (case side3 => exact zs HR1_1 HB); (case side4 => exact HC1_1.out); rintro e w52 ⟨rfl, hb⟩; refine ⟨_, rfl, ?_⟩; replace BK478 := zB BK478 hb; replace BK479 := zB BK479 hb; replace HB := zS2 HB GE478 GE479 hb; clear hb; have hcz53 := zc2 BK479))
  refine jX (results_ct rfl _ _ gb479 28 #[.int .i64 0, .slice none 0 0] (0, 0) _ rfl (zP0 BK479) Try.underlying28 rfl zr) rfl ?_
  exact ⟨_, ze, by first | exact Kd.R_nil _ _ _ _ _ | exact Kd.N_nil _ _ _ _ _ | exact Kd.V_nil _ _ _ _ _ | exact Kd.Q_nil _ _ _ _ _ | exact Kd.S_nil _ _ _ _ _, zb2 HB GE478 GE479⟩

/-! ### spec_l03Find: function 73 -/
def spec_l03Find.l0 : Nat → List (S65) → ByteArray → Int → Option (Int)
 | 0, _, _, _ => none
 | k + 1, x0, x1, x5 => if x5 < (x0.length : Int) then (if 0 ≤ x5 then (if ((rd_T65 x0 x5).f0).toList = x1.toList then (some x5) else (spec_l03Find.l0 k x0 x1 (wrap64 (x5 + 1)))) else (none)) else (some (-1))
def spec_l03Find.f (k : Nat) (l0 : List (S65)) (a1 : ByteArray) : Option (Int) := spec_l03Find.l0 k l0 a1 0
theorem spec_l03Find.mono_l : ∀ k, (∀ y0 y1 y2, LeO (spec_l03Find.l0 k y0 y1 y2) (spec_l03Find.l0 (k + 1) y0 y1 y2))
 | 0 => fun _ _ _ r h => by simp [spec_l03Find.l0] at h
 | k + 1 => by
  have ih0 := spec_l03Find.mono_l k
  ·intro y0 y1 y2
   unfold spec_l03Find.l0
   repeat' first
   | (with_reducible exact ih0 _ _ _)
   | (with_reducible exact LeO.refl _)
   | (with_reducible exact LeO.none _)
   | (with_reducible refine LeO.ite ?_ ?_)
   | (with_reducible refine LeO.bind ?_ (fun _ => ?_))
   | exact ih0 _ _ _
   | exact LeO.none _
   | refine LeO.ite ?_ ?_
   | refine LeO.bind ?_ (fun _ => ?_)
theorem spec_l03Find.mono : ∀ a0 a1 k, LeO (spec_l03Find.f k a0 a1) (spec_l03Find.f (k + 1) a0 a1) := by
 intro a0 a1 k
 have ih0 := spec_l03Find.mono_l k
 unfold spec_l03Find.f
 repeat' first
   | (with_reducible exact ih0 _ _ _)
   | (with_reducible exact LeO.refl _)
   | (with_reducible exact LeO.none _)
   | (with_reducible refine LeO.ite ?_ ?_)
   | (with_reducible refine LeO.bind ?_ (fun _ => ?_))
   | exact ih0 _ _ _
   | exact LeO.none _
   | refine LeO.ite ?_ ?_
   | refine LeO.bind ?_ (fun _ => ?_)
set_option maxHeartbeats 8000000 in
set_option maxRecDepth 100000 in
theorem spec_l03Find.calls (k : Nat) (A0 : Option Addr) (c0 : Nat) (l0 : List (S65)) (a1 : ByteArray) (r : Int) (w : World) (hr0 : Kd.C k65 w A0 l0.length l0) (hc0 : l0.length ≤ c0) (h : spec_l03Find.f k l0 a1 = some r) :
  Calls Try.prog 73 #[.slice A0 l0.length c0, .string a1] w fun e w' => e = .returned (.int .i64 r) ∧ Drawn0 w w' := by
 have HR0 := jA hr0
 have HC0 := jA hc0
 clear hr0 hc0
 have H : (spec_l03Find.l0 k l0 a1 0) = some r := h
 clear h
 have H' := jA H
 clear H
 go_enter Try.func73, Try.ntmps73
 go_wp2
 go_loopg [5] k (fun kq v5 w' => ∃ (x5_1 : Int), v5 = .int .i64 x5_1 ∧ Aside0 (spec_l03Find.l0 kq l0 a1 x5_1 = some r) ∧ Aside0 (kq ≤ k) ∧ Drawn0 w w')
 case atStart => exact ⟨(0), zz, H', ⟨Nat.le_refl _⟩, by repeat (first | exact Drawn0.refl _ | apply Drawn0.step)⟩
 case round =>
  clear H'
  try clear p2
  obtain ⟨x5_1, rfl, HA, HK1, ⟨m1, rfl⟩⟩ := hrel
  cases gk with
  | zero => exact absurd HA.out (by simp [spec_l03Find.l0])
  | succ k1 =>
   have H := HA.out
   clear HA
   simp only [spec_l03Find.l0] at H
   by_cases c3 : x5_1 < (l0.length : Int)
   ·rw [if_pos c3] at H
    have c3b0 : decide (x5_1 < (l0.length : Int)) = true := jJ c3
    clear c3
    by_cases c4 : 0 ≤ x5_1
    ·rw [if_pos c4] at H
     have c4b0 : decide (0 ≤ x5_1) = true := jJ c4
     clear c4
     by_cases c5 : ((rd_T65 l0 x5_1).f0).toList = a1.toList
     ·rw [if_pos c5] at H
      have c5b0 : (((rd_T65 l0 x5_1).f0).toList == a1.toList) = true := beq_iff_eq.mpr c5
      have c5b1 : (((rd_T65 l0 x5_1).f0).toList != a1.toList) = false := bne_eq_false_iff_eq.mpr c5
      clear c5
      obtain rfl := jK H
      have p488 : 0 ≤ (x5_1 : Int) := jC za
      have q488 : x5_1 < (l0.length : Int) := jC za
      obtain ⟨ad488, e488, hx488_0, hx488_1, hx488_2, hx488_3, hx488_4, hx488_5, hx488_6, hx488_7, hx488_8⟩ := at_T65 HR0.out x5_1 p488 q488
      cases e488
      replace p488 := eq_true p488
      replace q488 := eq_true q488
      go_wp2
      go_ret
      exact ⟨by first | rfl | (simp; done) | (simp [*]; done), by repeat (first | exact Drawn0.refl _ | apply Drawn0.step)⟩
     ·rw [if_neg c5] at H
      have c5b0 : (((rd_T65 l0 x5_1).f0).toList == a1.toList) = false := beq_eq_false_iff_ne.mpr c5
      have c5b1 : (((rd_T65 l0 x5_1).f0).toList != a1.toList) = true := bne_iff_ne.mpr c5
      have H' := jA H
      clear H
      have p488 : 0 ≤ (x5_1 : Int) := jC za
      have q488 : x5_1 < (l0.length : Int) := jC za
      obtain ⟨ad488, e488, hx488_0, hx488_1, hx488_2, hx488_3, hx488_4, hx488_5, hx488_6, hx488_7, hx488_8⟩ := at_T65 HR0.out x5_1 p488 q488
      cases e488
      replace p488 := eq_true p488
      replace q488 := eq_true q488
      go_wp2
      go_roundg k1
      case measure => have := HK1.out; omega
      case rel => exact ⟨(wrap64 (x5_1 + 1)), zz, H', ⟨by have := HK1.out; omega⟩, by repeat (first | exact Drawn0.refl _ | apply Drawn0.step)⟩
    ·rw [if_neg c4] at H
     exact absurd H (by simp)
   ·rw [if_neg c3] at H
    have c3b0 : decide (x5_1 < (l0.length : Int)) = false := jQ c3
    clear c3
    obtain rfl := jK H
    go_wp2
    go_ret
    exact ⟨by first | rfl | (simp; done) | (simp [*]; done), by repeat (first | exact Drawn0.refl _ | apply Drawn0.step)⟩

/-! ### spec_l26Code: function 69 -/
def spec_l26Code.f (k : Nat) (l0 : List (S65)) (a1_0 : Int) (l1_1 : List Int) (a2 : ByteArray) (a3 : Int) : Option (Int) := (spec_IsMagazine.f k l0 a1_0 l1_1).bind fun t490 => (if t490 = true then ((spec_l01In.f a3 0 1000).bind fun t491 => (if t491 = true then ((spec_l03Find.f k l0 a2).bind fun t492 => (if t492 < 0 then (some 4) else (some 0))) else (some 2))) else (some 1))
theorem spec_l26Code.mono : ∀ a0 a1 a2 a3 a4 k, LeO (spec_l26Code.f k a0 a1 a2 a3 a4) (spec_l26Code.f (k + 1) a0 a1 a2 a3 a4) := by
 intro a0 a1 a2 a3 a4 k
 unfold spec_l26Code.f
 repeat' first
   | (with_reducible exact spec_IsMagazine.mono _ _ _ _)
   | (with_reducible exact spec_l03Find.mono _ _ _)
   | (with_reducible exact LeO.refl _)
   | (with_reducible exact LeO.none _)
   | (with_reducible refine LeO.ite ?_ ?_)
   | (with_reducible refine LeO.bind ?_ (fun _ => ?_))
   | exact spec_IsMagazine.mono _ _ _ _
   | exact spec_l03Find.mono _ _ _
   | exact LeO.none _
   | refine LeO.ite ?_ ?_
   | refine LeO.bind ?_ (fun _ => ?_)
set_option maxHeartbeats 8000000 in
set_option maxRecDepth 100000 in
theorem spec_l26Code.calls (k : Nat) (A0 : Option Addr) (c0 : Nat) (l0 : List (S65)) (a1_0 : Int) (A1_1 : Option Addr) (c1_1 : Nat) (l1_1 : List Int) (a2 : ByteArray) (a3 : Int) (r : Int) (w : World) (hr0 : Kd.C k65 w A0 l0.length l0) (hc0 : l0.length ≤ c0) (hr1_1 : Kd.C (Kd.int .i64) w A1_1 l1_1.length l1_1) (hc1_1 : l1_1.length ≤ c1_1) (h : spec_l26Code.f k l0 a1_0 l1_1 a2 a3 = some r) :
  Calls Try.prog 69 #[.slice A0 l0.length c0, .agg #[.int .i64 a1_0, .slice A1_1 l1_1.length c1_1], .string a2, .int .i64 a3] w fun e w' => e = .returned (.int .i64 r) ∧ Below w.heap.size w w' := by
 have hu28 := Try.underlying28
 have HR0 := jA hr0
 have HC0 := jA hc0
 clear hr0 hc0
 have HR1_1 := jA hr1_1
 have HC1_1 := jA hc1_1
 clear hr1_1 hc1_1
 have HB := jA (Below.refl w.heap.size w)
 have H := h
 unfold spec_l26Code.f at H
 clear h
 replace H := jB.mp H
 obtain ⟨t490, A50, H⟩ := H
 try dsimp only at H
 have A5 := jA A50
 clear A50
 by_cases c6 : t490 = true
 ·subst c6
  rw [if_pos rfl] at H
  replace H := jB.mp H
  obtain ⟨t491, A70, H⟩ := H
  try dsimp only at H
  have A7 := jA A70
  clear A70
  by_cases c8 : t491 = true
  ·subst c8
   rw [if_pos rfl] at H
   replace H := jB.mp H
   obtain ⟨t492, A90, H⟩ := H
   try dsimp only at H
   have A9 := jA A90
   clear A90
   by_cases c10 : t492 < 0
   ·rw [if_pos c10] at H
    have c10b0 : decide (t492 < 0) = true := jJ c10
    clear c10
    obtain rfl := jK H
    go_enter Try.func69, Try.ntmps69
    go_wp2_with (first | ((with_reducible refine jL (N := 5) rfl ?_); refine zE 5 #[.int .i64 a1_0, .slice A1_1 l1_1.length c1_1] 28 ?_; intro gb489 hg w11 hbox hb; have BK489 := jA (hbox); have GW489 := zg0 hg HB; have GE489 := zg0 hg HB; replace HB := zS0 HB hb; clear hb hbox hg; have hcz12 := zc2 BK489) | ((with_reducible refine jD (f := 25) rfl ?_); refine zL (some 12) Try.func25 #[.slice A0 l0.length c0, .agg #[.int .i64 a1_0, .slice A1_1 l1_1.length c1_1]] ?_; (with_reducible refine (spec_IsMagazine.calls k _ _ l0 a1_0 _ _ l1_1 true _ ?side1 ?side2 ?side3 ?side4 A5.out).mono ?_); (case side1 => exact zs HR0 HB); (case side2 => exact HC0.out); (case side3 => exact zs HR1_1 HB); (case side4 => exact HC1_1.out); rintro e w13 ⟨rfl, hb⟩; refine ⟨_, rfl, ?_⟩; replace BK489 := zB BK489 hb; replace HB := zS1 HB GE489 hb; clear hb) | ((with_reducible refine jD (f := 58) rfl ?_); refine zL (some 16) Try.func58 #[.int .i64 a3, .int .i64 0, .int .i64 1000] ?_; (with_reducible refine (spec_l01In.calls a3 0 1000 true _ A7.out).mono ?_); rintro e w' ⟨rfl, ⟨nd, rfl⟩⟩; refine ⟨_, rfl, ?_⟩) | ((with_reducible refine jD (f := 73) rfl ?_); refine zL (some 21) Try.func73 #[.slice A0 l0.length c0, .string a2] ?_; (with_reducible refine (spec_l03Find.calls k _ _ l0 a2 t492 _ ?side1 ?side2 A9.out).mono ?_); (case side1 => repeat (first | exact HR0.out | exact (Kd.C_below HR0.out (zb1 HB GE489)) | (with_reducible refine Kd.C_alloc ?_ _) | (with_reducible refine Kd.C_drewN ?_ _) | (with_reducible refine Kd.C_drew ?_))); (case side2 => exact HC0.out); rintro e w' ⟨rfl, ⟨nd, rfl⟩⟩; refine ⟨_, rfl, ?_⟩))
    go_ret
    exact ⟨ze, zb1 HB GE489⟩
   ·rw [if_neg c10] at H
    have c10b0 : decide (t492 < 0) = false := jQ c10
    clear c10
    obtain rfl := jK H
    go_enter Try.func69, Try.ntmps69
    go_wp2_with (first | ((with_reducible refine jL (N := 5) rfl ?_); refine zE 5 #[.int .i64 a1_0, .slice A1_1 l1_1.length c1_1] 28 ?_; intro gb489 hg w14 hbox hb; have BK489 := jA (hbox); have GW489 := zg0 hg HB; have GE489 := zg0 hg HB; replace HB := zS0 HB hb; clear hb hbox hg; have hcz15 := zc2 BK489) | ((with_reducible refine jD (f := 25) rfl ?_); refine zL (some 12) Try.func25 #[.slice A0 l0.length c0, .agg #[.int .i64 a1_0, .slice A1_1 l1_1.length c1_1]] ?_; (with_reducible refine (spec_IsMagazine.calls k _ _ l0 a1_0 _ _ l1_1 true _ ?side1 ?side2 ?side3 ?side4 A5.out).mono ?_); (case side1 => exact zs HR0 HB); (case side2 => exact HC0.out); (case side3 => exact zs HR1_1 HB); (case side4 => exact HC1_1.out); rintro e w16 ⟨rfl, hb⟩; refine ⟨_, rfl, ?_⟩; replace BK489 := zB BK489 hb; replace HB := zS1 HB GE489 hb; clear hb) | ((with_reducible refine jD (f := 58) rfl ?_); refine zL (some 16) Try.func58 #[.int .i64 a3, .int .i64 0, .int .i64 1000] ?_; (with_reducible refine (spec_l01In.calls a3 0 1000 true _ A7.out).mono ?_); rintro e w' ⟨rfl, ⟨nd, rfl⟩⟩; refine ⟨_, rfl, ?_⟩) | ((with_reducible refine jD (f := 73) rfl ?_); refine zL (some 21) Try.func73 #[.slice A0 l0.length c0, .string a2] ?_; (with_reducible refine (spec_l03Find.calls k _ _ l0 a2 t492 _ ?side1 ?side2 A9.out).mono ?_); (case side1 => repeat (first | exact HR0.out | exact (Kd.C_below HR0.out (zb1 HB GE489)) | (with_reducible refine Kd.C_alloc ?_ _) | (with_reducible refine Kd.C_drewN ?_ _) | (with_reducible refine Kd.C_drew ?_))); (case side2 => exact HC0.out); rintro e w' ⟨rfl, ⟨nd, rfl⟩⟩; refine ⟨_, rfl, ?_⟩))
    go_ret
    exact ⟨ze, zb1 HB GE489⟩
  ·replace c8 := Bool.eq_false_iff.mpr c8
   subst c8
   rw [if_neg zfalse] at H
   obtain rfl := jK H
   go_enter Try.func69, Try.ntmps69
   go_wp2_with (first | ((with_reducible refine jL (N := 5) rfl ?_); refine zE 5 #[.int .i64 a1_0, .slice A1_1 l1_1.length c1_1] 28 ?_; intro gb489 hg w17 hbox hb; have BK489 := jA (hbox); have GW489 := zg0 hg HB; have GE489 := zg0 hg HB; replace HB := zS0 HB hb; clear hb hbox hg; have hcz18 := zc2 BK489) | ((with_reducible refine jD (f := 25) rfl ?_); refine zL (some 12) Try.func25 #[.slice A0 l0.length c0, .agg #[.int .i64 a1_0, .slice A1_1 l1_1.length c1_1]] ?_; (with_reducible refine (spec_IsMagazine.calls k _ _ l0 a1_0 _ _ l1_1 true _ ?side1 ?side2 ?side3 ?side4 A5.out).mono ?_); (case side1 => exact zs HR0 HB); (case side2 => exact HC0.out); (case side3 => exact zs HR1_1 HB); (case side4 => exact HC1_1.out); rintro e w19 ⟨rfl, hb⟩; refine ⟨_, rfl, ?_⟩; replace BK489 := zB BK489 hb; replace HB := zS1 HB GE489 hb; clear hb) | ((with_reducible refine jD (f := 58) rfl ?_); refine zL (some 16) Try.func58 #[.int .i64 a3, .int .i64 0, .int .i64 1000] ?_; (with_reducible refine (spec_l01In.calls a3 0 1000 false _ A7.out).mono ?_); rintro e w' ⟨rfl, ⟨nd, rfl⟩⟩; refine ⟨_, rfl, ?_⟩))
   go_ret
   exact ⟨ze, zb1 HB GE489⟩
 ·replace c6 := Bool.eq_false_iff.mpr c6
  subst c6
  rw [if_neg zfalse] at H
  obtain rfl := jK H
  go_enter Try.func69, Try.ntmps69
  go_wp2_with (first | ((with_reducible refine jL (N := 5) rfl ?_); refine zE 5 #[.int .i64 a1_0, .slice A1_1 l1_1.length c1_1] 28 ?_; intro gb489 hg w20 hbox hb; have BK489 := jA (hbox); have GW489 := zg0 hg HB; have GE489 := zg0 hg HB; replace HB := zS0 HB hb; clear hb hbox hg; have hcz21 := zc2 BK489) | ((with_reducible refine jD (f := 25) rfl ?_); refine zL (some 12) Try.func25 #[.slice A0 l0.length c0, .agg #[.int .i64 a1_0, .slice A1_1 l1_1.length c1_1]] ?_; (with_reducible refine (spec_IsMagazine.calls k _ _ l0 a1_0 _ _ l1_1 false _ ?side1 ?side2 ?side3 ?side4 A5.out).mono ?_); (case side1 => exact zs HR0 HB); (case side2 => exact HC0.out); (case side3 => exact zs HR1_1 HB); (case side4 => exact HC1_1.out); rintro e w22 ⟨rfl, hb⟩; refine ⟨_, rfl, ?_⟩; replace BK489 := zB BK489 hb; replace HB := zS1 HB GE489 hb; clear hb))
  go_ret
  exact ⟨ze, zb1 HB GE489⟩

end Go.Proofs.Ytdgglhfnlljmeaa.PFnMagazines
