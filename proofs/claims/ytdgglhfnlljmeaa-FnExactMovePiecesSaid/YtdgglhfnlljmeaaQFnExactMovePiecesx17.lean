/- Functions and contracts that FnExactMovePieces reaches (18 of 24). -/
import Derived.Test.YtdgglhfnlljmeaaQFnExactMovePiecesx16
namespace Go.Proofs.Ytdgglhfnlljmeaa.PFnExactMovePieces
open Go.RowKit Go.Proofs.YtdgglhfnlljmeaaW.PrintWords Go.Proofs.YtdgglhfnlljmeaaW.PrintLast Go.Proofs.YtdgglhfnlljmeaaW.PrintMore
attribute [local go_sem] max2_int min2_int max_two min_two max_three min_three max_four min_four   -- for this text's walks alone
set_option linter.unusedVariables false
set_option linter.unusedSimpArgs false
open Go.Proofs.YtdgglhfnlljmeaaX

/-! ### impl_StorePieces: function 39 -/
def impl_StorePieces.f (k : Nat) (l0 : List (S65)) (a1_0 : Int) (l1_1 : List Int) (a2 : ByteArray) (a3 : Int) : Option (Int × List Int × Int) := (impl_IsMagazine.f k l0 a1_0 l1_1).bind fun t311 => (if t311 = true then ((impl_within.f a3 0 1000).bind fun t312 => (if t312 = true then ((impl_articleOf.f k l0 a2).bind fun t313 => (if t313 < 0 then (some (0, ([] : List Int), 4)) else ((impl_isStored.f k l0 a1_0 l1_1 t313 a3).bind fun t314 => (if t314 = true then ((impl_withPieces.f a1_0 l1_1 t313 a3).bind fun bt315 => (some (bt315.1, bt315.2, 0))) else (some (0, ([] : List Int), 5)))))) else (some (0, ([] : List Int), 2)))) else (some (0, ([] : List Int), 1)))
theorem impl_StorePieces.mono : ∀ a0 a1 a2 a3 a4 k, LeO (impl_StorePieces.f k a0 a1 a2 a3 a4) (impl_StorePieces.f (k + 1) a0 a1 a2 a3 a4) := by
 intro a0 a1 a2 a3 a4 k
 unfold impl_StorePieces.f
 repeat' first
   | (with_reducible exact impl_IsMagazine.mono _ _ _ _)
   | (with_reducible exact impl_articleOf.mono _ _ _)
   | (with_reducible exact impl_isStored.mono _ _ _ _ _ _)
   | (with_reducible exact LeO.refl _)
   | (with_reducible exact LeO.none _)
   | (with_reducible refine LeO.ite ?_ ?_)
   | (with_reducible refine LeO.bind ?_ (fun _ => ?_))
   | exact impl_IsMagazine.mono _ _ _ _
   | exact impl_articleOf.mono _ _ _
   | exact impl_isStored.mono _ _ _ _ _ _
   | exact LeO.none _
   | refine LeO.ite ?_ ?_
   | refine LeO.bind ?_ (fun _ => ?_)
set_option maxHeartbeats 8000000 in
set_option maxRecDepth 100000 in
theorem impl_StorePieces.calls (k : Nat) (A0 : Option Addr) (c0 : Nat) (l0 : List (S65)) (a1_0 : Int) (A1_1 : Option Addr) (c1_1 : Nat) (l1_1 : List Int) (a2 : ByteArray) (a3 : Int) (r1 : Int) (r2 : List Int) (r3 : Int) (w : World) (hr0 : Kd.C k65 w A0 l0.length l0) (hc0 : l0.length ≤ c0) (hr1_1 : Kd.C (Kd.int .i64) w A1_1 l1_1.length l1_1) (hc1_1 : l1_1.length ≤ c1_1) (h : impl_StorePieces.f k l0 a1_0 l1_1 a2 a3 = some (r1, r2, r3)) :
  Calls Try.prog 39 #[.slice A0 l0.length c0, .agg #[.int .i64 a1_0, .slice A1_1 l1_1.length c1_1], .string a2, .int .i64 a3] w fun e w' => ∃ v1_ : Value, e = .returned (.tuple #[.agg #[.int .i64 r1, v1_], .int .i64 r3]) ∧ Kd.R (Kd.int .i64) 2 w' w.heap.size (fun _ => True) v1_ r2 ∧ Below w.heap.size w w' := by
 have hu28 := Try.underlying28
 have HR0 := jA hr0
 have HC0 := jA hc0
 clear hr0 hc0
 have HR1_1 := jA hr1_1
 have HC1_1 := jA hc1_1
 clear hr1_1 hc1_1
 have HB := jA (Below.refl w.heap.size w)
 have H := h
 unfold impl_StorePieces.f at H
 clear h
 replace H := jG.mp H
 obtain ⟨t311, A50, H⟩ := H
 try dsimp only at H
 have A5 := jA A50
 clear A50
 by_cases c6 : t311 = true
 ·subst c6
  rw [if_pos rfl] at H
  replace H := jG.mp H
  obtain ⟨t312, A70, H⟩ := H
  try dsimp only at H
  have A7 := jA A70
  clear A70
  by_cases c8 : t312 = true
  ·subst c8
   rw [if_pos rfl] at H
   replace H := jG.mp H
   obtain ⟨t313, A90, H⟩ := H
   try dsimp only at H
   have A9 := jA A90
   clear A90
   by_cases c10 : t313 < 0
   ·rw [if_pos c10] at H
    have c10b0 : decide (t313 < 0) = true := jI c10
    clear c10
    simp only [jN, jQ] at H
    obtain ⟨rfl, rfl, rfl⟩ := H
    go_enter Try.func39, Try.ntmps39
    go_wp2_with (first | ((with_reducible refine jJ (N := 5) rfl ?_); refine zE 5 #[.int .i64 a1_0, .slice A1_1 l1_1.length c1_1] 28 ?_; intro gb309 hg w11 hbox hb; have BK309 := jA (hbox); have GW309 := zg0 hg HB; have GE309 := zg0 hg HB; replace HB := zS0 HB hb; clear hb hbox hg) | ((with_reducible refine jJ (N := 8) rfl ?_); refine zE 8 #[.int .i64 0, .slice none 0 0] 28 ?_; intro gb310 hg w12 hbox hb; have BK310 := jA (hbox); have GW310 := zg1 hg HB GE309; have GE310 := zg1 hg HB GE309; replace HB := zS1 HB GE309 hb; have NB309_310 := zn hg BK309; replace BK309 := zB BK309 hb; have NB310_309 := jA NB309_310.out.symm; clear hb hbox hg; have hnb13 := NB309_310.out; have hnc13 := NB310_309.out; have hcz14 := zc2 BK309) | ((with_reducible refine jK (f := 26) rfl ?_); refine zL (some 13) Try.func26 #[.slice A0 l0.length c0, .agg #[.int .i64 a1_0, .slice A1_1 l1_1.length c1_1]] ?_; (with_reducible refine (impl_IsMagazine.calls k _ _ l0 a1_0 _ _ l1_1 true _ ?side1 ?side2 ?side3 ?side4 A5.out).mono ?_); (case side1 => exact zs HR0 HB); (case side2 => exact HC0.out); (case side3 => exact zs HR1_1 HB); (case side4 => exact HC1_1.out); rintro e w15 ⟨rfl, hb⟩; refine ⟨_, rfl, ?_⟩; replace BK309 := zB BK309 hb; replace BK310 := zB BK310 hb; replace HB := zS2 HB GE309 GE310 hb; clear hb) | ((with_reducible refine jK (f := 61) rfl ?_); refine zL (some 17) Try.func61 #[.int .i64 a3, .int .i64 0, .int .i64 1000] ?_; (with_reducible refine (impl_within.calls a3 0 1000 true _ A7.out).mono ?_); rintro e w' ⟨rfl, ⟨nd, rfl⟩⟩; refine ⟨_, rfl, ?_⟩; (try (rw [drewN_self w15]; generalize hq_ : World.drewN w15 _ = w15; replace BK309 : Aside0 (w15.heap[gb309]? = some (.cells #[.int .i64 a1_0, .slice A1_1 l1_1.length c1_1] 28 (0, 0))) := ⟨by rw [← hq_]; exact (zk BK309)⟩; replace BK310 : Aside0 (w15.heap[gb310]? = some (.cells #[.int .i64 0, .slice none 0 0] 28 (0, 0))) := ⟨by rw [← hq_]; exact (zk BK310)⟩; replace HB : Aside0 (Below w.heap.size w w15) := ⟨by rw [← hq_]; exact (zb2 HB GE309 GE310)⟩; clear hq_))) | ((with_reducible refine jK (f := 70) rfl ?_); refine zL (some 22) Try.func70 #[.slice A0 l0.length c0, .string a2] ?_; (with_reducible refine (impl_articleOf.calls k _ _ l0 a2 t313 _ ?side1 ?side2 A9.out).mono ?_); (case side1 => exact zs HR0 HB); (case side2 => exact HC0.out); rintro e w16 ⟨rfl, hb⟩; refine ⟨_, rfl, ?_⟩; replace BK309 := zB BK309 hb; replace BK310 := zB BK310 hb; replace HB := zS2 HB GE309 GE310 hb; clear hb; have hcz17 := zc2 BK310))
    refine bodyPost_ret (results_ct rfl _ _ gb310 28 #[.int .i64 0, .slice none 0 0] (0, 0) _ rfl (zP0 BK310) Try.underlying28 rfl zr) rfl ?_
    exact ⟨_, ze, by first | exact Kd.R_nil _ _ _ _ _ | exact Kd.N_nil _ _ _ _ _ | exact Kd.V_nil _ _ _ _ _ | exact Kd.Q_nil _ _ _ _ _ | exact Kd.S_nil _ _ _ _ _, zb2 HB GE309 GE310⟩
   ·rw [if_neg c10] at H
    have c10b0 : decide (t313 < 0) = false := jM c10
    clear c10
    replace H := jG.mp H
    obtain ⟨t314, A180, H⟩ := H
    try dsimp only at H
    have A18 := jA A180
    clear A180
    by_cases c19 : t314 = true
    ·subst c19
     rw [if_pos rfl] at H
     replace H := jG.mp H
     obtain ⟨⟨t315, t316⟩, A200, H⟩ := H
     try dsimp only at H
     have A20 := jA A200
     clear A200
     simp only [jN, jQ] at H
     obtain ⟨rfl, rfl, rfl⟩ := H
     go_enter Try.func39, Try.ntmps39
     go_wp2_with (first | ((with_reducible refine jJ (N := 5) rfl ?_); refine zE 5 #[.int .i64 a1_0, .slice A1_1 l1_1.length c1_1] 28 ?_; intro gb309 hg w21 hbox hb; have BK309 := jA (hbox); have GW309 := zg0 hg HB; have GE309 := zg0 hg HB; replace HB := zS0 HB hb; clear hb hbox hg) | ((with_reducible refine jJ (N := 8) rfl ?_); refine zE 8 #[.int .i64 0, .slice none 0 0] 28 ?_; intro gb310 hg w22 hbox hb; have BK310 := jA (hbox); have GW310 := zg1 hg HB GE309; have GE310 := zg1 hg HB GE309; replace HB := zS1 HB GE309 hb; have NB309_310 := zn hg BK309; replace BK309 := zB BK309 hb; have NB310_309 := jA NB309_310.out.symm; clear hb hbox hg; have hnb23 := NB309_310.out; have hnc23 := NB310_309.out; have hcz24 := zc2 BK309) | ((with_reducible refine jK (f := 26) rfl ?_); refine zL (some 13) Try.func26 #[.slice A0 l0.length c0, .agg #[.int .i64 a1_0, .slice A1_1 l1_1.length c1_1]] ?_; (with_reducible refine (impl_IsMagazine.calls k _ _ l0 a1_0 _ _ l1_1 true _ ?side1 ?side2 ?side3 ?side4 A5.out).mono ?_); (case side1 => exact zs HR0 HB); (case side2 => exact HC0.out); (case side3 => exact zs HR1_1 HB); (case side4 => exact HC1_1.out); rintro e w25 ⟨rfl, hb⟩; refine ⟨_, rfl, ?_⟩; replace BK309 := zB BK309 hb; replace BK310 := zB BK310 hb; replace HB := zS2 HB GE309 GE310 hb; clear hb) | ((with_reducible refine jK (f := 61) rfl ?_); refine zL (some 17) Try.func61 #[.int .i64 a3, .int .i64 0, .int .i64 1000] ?_; (with_reducible refine (impl_within.calls a3 0 1000 true _ A7.out).mono ?_); rintro e w' ⟨rfl, ⟨nd, rfl⟩⟩; refine ⟨_, rfl, ?_⟩; (try (rw [drewN_self w25]; generalize hq_ : World.drewN w25 _ = w25; replace BK309 : Aside0 (w25.heap[gb309]? = some (.cells #[.int .i64 a1_0, .slice A1_1 l1_1.length c1_1] 28 (0, 0))) := ⟨by rw [← hq_]; exact (zk BK309)⟩; replace BK310 : Aside0 (w25.heap[gb310]? = some (.cells #[.int .i64 0, .slice none 0 0] 28 (0, 0))) := ⟨by rw [← hq_]; exact (zk BK310)⟩; replace HB : Aside0 (Below w.heap.size w w25) := ⟨by rw [← hq_]; exact (zb2 HB GE309 GE310)⟩; clear hq_))) | ((with_reducible refine jK (f := 70) rfl ?_); refine zL (some 22) Try.func70 #[.slice A0 l0.length c0, .string a2] ?_; (with_reducible refine (impl_articleOf.calls k _ _ l0 a2 t313 _ ?side1 ?side2 A9.out).mono ?_); (case side1 => exact zs HR0 HB); (case side2 => exact HC0.out); rintro e w26 ⟨rfl, hb⟩; refine ⟨_, rfl, ?_⟩; replace BK309 := zB BK309 hb; replace BK310 := zB BK310 hb; replace HB := zS2 HB GE309 GE310 hb; clear hb; have hcz27 := zc2 BK309) | ((with_reducible refine jK (f := 71) rfl ?_); refine zL (some 30) Try.func71 #[.slice A0 l0.length c0, .agg #[.int .i64 a1_0, .slice A1_1 l1_1.length c1_1], .int .i64 t313, .int .i64 a3] ?_; (with_reducible refine (impl_isStored.calls k _ _ l0 a1_0 _ _ l1_1 t313 a3 true _ ?side1 ?side2 ?side3 ?side4 A18.out).mono ?_); (case side1 => exact zs HR0 HB); (case side2 => exact HC0.out); (case side3 => exact zs HR1_1 HB); (case side4 => exact HC1_1.out); rintro e w28 ⟨rfl, hb⟩; refine ⟨_, rfl, ?_⟩; replace BK309 := zB BK309 hb; replace BK310 := zB BK310 hb; replace HB := zS2 HB GE309 GE310 hb; clear hb; have hcz29 := zc2 BK309) | ((with_reducible refine jK (f := 74) rfl ?_); refine zL (some 36) Try.func74 #[.agg #[.int .i64 a1_0, .slice A1_1 l1_1.length c1_1], .int .i64 t313, .int .i64 a3] ?_; (with_reducible refine (impl_withPieces.calls a1_0 _ _ l1_1 t313 a3 t315 t316 _ ?side1 ?side2 A20.out).mono ?_); (case side1 => exact zs HR1_1 HB); (case side2 => exact HC1_1.out); rintro e w30 ⟨v317, rfl, ho0, hb⟩; refine ⟨_, rfl, ?_⟩; have HO318 := jA (Kd.R_lower ho0 (below_size (zb2 HB GE309 GE310))); replace BK309 := zB BK309 hb; replace BK310 := zB BK310 hb; replace HB := zS2 HB GE309 GE310 hb; (try clear hb); (try clear hb2); (try clear hk); (try clear hi); (try clear ho0); have hcz31 := zc2 BK310; obtain ⟨Ao32, co32, eo32⟩ := Kd.R_slice HO318.out; subst eo32))
     refine bodyPost_ret (results_ct rfl _ _ gb310 28 #[.int .i64 t315, .slice Ao32 t316.length co32] (0, 0) _ rfl (zP0 BK310) Try.underlying28 rfl zr) rfl ?_
     exact ⟨_, ze, zT HO318 BK310, zb2 HB GE309 GE310⟩
    ·replace c19 := Bool.eq_false_iff.mpr c19
     subst c19
     rw [if_neg zfalse] at H
     simp only [jN, jQ] at H
     obtain ⟨rfl, rfl, rfl⟩ := H
     go_enter Try.func39, Try.ntmps39
     go_wp2_with (first | ((with_reducible refine jJ (N := 5) rfl ?_); refine zE 5 #[.int .i64 a1_0, .slice A1_1 l1_1.length c1_1] 28 ?_; intro gb309 hg w33 hbox hb; have BK309 := jA (hbox); have GW309 := zg0 hg HB; have GE309 := zg0 hg HB; replace HB := zS0 HB hb; clear hb hbox hg) | ((with_reducible refine jJ (N := 8) rfl ?_); refine zE 8 #[.int .i64 0, .slice none 0 0] 28 ?_; intro gb310 hg w34 hbox hb; have BK310 := jA (hbox); have GW310 := zg1 hg HB GE309; have GE310 := zg1 hg HB GE309; replace HB := zS1 HB GE309 hb; have NB309_310 := zn hg BK309; replace BK309 := zB BK309 hb; have NB310_309 := jA NB309_310.out.symm; clear hb hbox hg; have hnb35 := NB309_310.out; have hnc35 := NB310_309.out; have hcz36 := zc2 BK309) | ((with_reducible refine jK (f := 26) rfl ?_); refine zL (some 13) Try.func26 #[.slice A0 l0.length c0, .agg #[.int .i64 a1_0, .slice A1_1 l1_1.length c1_1]] ?_; (with_reducible refine (impl_IsMagazine.calls k _ _ l0 a1_0 _ _ l1_1 true _ ?side1 ?side2 ?side3 ?side4 A5.out).mono ?_); (case side1 => exact zs HR0 HB); (case side2 => exact HC0.out); (case side3 => exact zs HR1_1 HB); (case side4 => exact HC1_1.out); rintro e w37 ⟨rfl, hb⟩; refine ⟨_, rfl, ?_⟩; replace BK309 := zB BK309 hb; replace BK310 := zB BK310 hb; replace HB := zS2 HB GE309 GE310 hb; clear hb) | ((with_reducible refine jK (f := 61) rfl ?_); refine zL (some 17) Try.func61 #[.int .i64 a3, .int .i64 0, .int .i64 1000] ?_; (with_reducible refine (impl_within.calls a3 0 1000 true _ A7.out).mono ?_); rintro e w' ⟨rfl, ⟨nd, rfl⟩⟩; refine ⟨_, rfl, ?_⟩; (try (rw [drewN_self w37]; generalize hq_ : World.drewN w37 _ = w37; replace BK309 : Aside0 (w37.heap[gb309]? = some (.cells #[.int .i64 a1_0, .slice A1_1 l1_1.length c1_1] 28 (0, 0))) := ⟨by rw [← hq_]; exact (zk BK309)⟩; replace BK310 : Aside0 (w37.heap[gb310]? = some (.cells #[.int .i64 0, .slice none 0 0] 28 (0, 0))) := ⟨by rw [← hq_]; exact (zk BK310)⟩; replace HB : Aside0 (Below w.heap.size w w37) := ⟨by rw [← hq_]; exact (zb2 HB GE309 GE310)⟩; clear hq_))) | ((with_reducible refine jK (f := 70) rfl ?_); refine zL (some 22) Try.func70 #[.slice A0 l0.length c0, .string a2] ?_; (with_reducible refine (impl_articleOf.calls k _ _ l0 a2 t313 _ ?side1 ?side2 A9.out).mono ?_); (case side1 => exact zs HR0 HB); (case side2 => exact HC0.out); rintro e w38 ⟨rfl, hb⟩; refine ⟨_, rfl, ?_⟩; replace BK309 := zB BK309 hb; replace BK310 := zB BK310 hb; replace HB := zS2 HB GE309 GE310 hb; clear hb; have hcz39 := zc2 BK309) | ((with_reducible refine jK (f := 71) rfl ?_); refine zL (some 30) Try.func71 #[.slice A0 l0.length c0, .agg #[.int .i64 a1_0, .slice A1_1 l1_1.length c1_1], .int .i64 t313, .int .i64 a3] ?_; (with_reducible refine (impl_isStored.calls k _ _ l0 a1_0 _ _ l1_1 t313 a3 false _ ?side1 ?side2 ?side3 ?side4 A18.out).mono ?_); (case side1 => exact zs HR0 HB); (case side2 => exact HC0.out); (case side3 => exact zs HR1_1 HB); (case side4 => exact HC1_1.out); rintro e w40 ⟨rfl, hb⟩; refine ⟨_, rfl, ?_⟩; replace BK309 := zB BK309 hb; replace BK310 := zB BK310 hb; replace HB := zS2 HB GE309 GE310 hb; clear hb; have hcz41 := zc2 BK310))
     refine bodyPost_ret (results_ct rfl _ _ gb310 28 #[.int .i64 0, .slice none 0 0] (0, 0) _ rfl (zP0 BK310) Try.underlying28 rfl zr) rfl ?_
     exact ⟨_, ze, by first | exact Kd.R_nil _ _ _ _ _ | exact Kd.N_nil _ _ _ _ _ | exact Kd.V_nil _ _ _ _ _ | exact Kd.Q_nil _ _ _ _ _ | exact Kd.S_nil _ _ _ _ _, zb2 HB GE309 GE310⟩
  ·replace c8 := Bool.eq_false_iff.mpr c8
   subst c8
   rw [if_neg zfalse] at H
   simp only [jN, jQ] at H
   obtain ⟨rfl, rfl, rfl⟩ := H
   go_enter Try.func39, Try.ntmps39
   go_wp2_with (first | ((with_reducible refine jJ (N := 5) rfl ?_); refine zE 5 #[.int .i64 a1_0, .slice A1_1 l1_1.length c1_1] 28 ?_; intro gb309 hg w42 hbox hb; have BK309 := jA (hbox); have GW309 := zg0 hg HB; have GE309 := zg0 hg HB; replace HB := zS0 HB hb; clear hb hbox hg) | ((with_reducible refine jJ (N := 8) rfl ?_); refine zE 8 #[.int .i64 0, .slice none 0 0] 28 ?_; intro gb310 hg w43 hbox hb; have BK310 := jA (hbox); have GW310 := zg1 hg HB GE309; have GE310 := zg1 hg HB GE309; replace HB := zS1 HB GE309 hb; have NB309_310 := zn hg BK309; replace BK309 := zB BK309 hb; have NB310_309 := jA NB309_310.out.symm; clear hb hbox hg; have hnb44 := NB309_310.out; have hnc44 := NB310_309.out; have hcz45 := zc2 BK309) | ((with_reducible refine jK (f := 26) rfl ?_); refine zL (some 13) Try.func26 #[.slice A0 l0.length c0, .agg #[.int .i64 a1_0, .slice A1_1 l1_1.length c1_1]] ?_; (with_reducible refine (impl_IsMagazine.calls k _ _ l0 a1_0 _ _ l1_1 true _ ?side1 ?side2 ?side3 ?side4 A5.out).mono ?_); (case side1 => exact zs HR0 HB); (case side2 => exact HC0.out); (case side3 => exact zs HR1_1 HB); (case side4 => exact HC1_1.out); rintro e w46 ⟨rfl, hb⟩; refine ⟨_, rfl, ?_⟩; replace BK309 := zB BK309 hb; replace BK310 := zB BK310 hb; replace HB := zS2 HB GE309 GE310 hb; clear hb) | ((with_reducible refine jK (f := 61) rfl ?_); refine zL (some 17) Try.func61 #[.int .i64 a3, .int .i64 0, .int .i64 1000] ?_; (with_reducible refine (impl_within.calls a3 0 1000 false _ A7.out).mono ?_); rintro e w' ⟨rfl, ⟨nd, rfl⟩⟩; refine ⟨_, rfl, ?_⟩; (try (rw [drewN_self w46]; generalize hq_ : World.drewN w46 _ = w46; replace BK309 : Aside0 (w46.heap[gb309]? = some (.cells #[.int .i64 a1_0, .slice A1_1 l1_1.length c1_1] 28 (0, 0))) := ⟨by rw [← hq_]; exact (zk BK309)⟩; replace BK310 : Aside0 (w46.heap[gb310]? = some (.cells #[.int .i64 0, .slice none 0 0] 28 (0, 0))) := ⟨by rw [← hq_]; exact (zk BK310)⟩; replace HB : Aside0 (Below w.heap.size w w46) := ⟨by rw [← hq_]; exact (zb2 HB GE309 GE310)⟩; clear hq_)); have hcz47 := zc2 BK310))
   refine bodyPost_ret (results_ct rfl _ _ gb310 28 #[.int .i64 0, .slice none 0 0] (0, 0) _ rfl (zP0 BK310) Try.underlying28 rfl zr) rfl ?_
   exact ⟨_, ze, by first | exact Kd.R_nil _ _ _ _ _ | exact Kd.N_nil _ _ _ _ _ | exact Kd.V_nil _ _ _ _ _ | exact Kd.Q_nil _ _ _ _ _ | exact Kd.S_nil _ _ _ _ _, zb2 HB GE309 GE310⟩
 ·replace c6 := Bool.eq_false_iff.mpr c6
  subst c6
  rw [if_neg zfalse] at H
  simp only [jN, jQ] at H
  obtain ⟨rfl, rfl, rfl⟩ := H
  go_enter Try.func39, Try.ntmps39
  go_wp2_with (first | ((with_reducible refine jJ (N := 5) rfl ?_); refine zE 5 #[.int .i64 a1_0, .slice A1_1 l1_1.length c1_1] 28 ?_; intro gb309 hg w48 hbox hb; have BK309 := jA (hbox); have GW309 := zg0 hg HB; have GE309 := zg0 hg HB; replace HB := zS0 HB hb; clear hb hbox hg) | ((with_reducible refine jJ (N := 8) rfl ?_); refine zE 8 #[.int .i64 0, .slice none 0 0] 28 ?_; intro gb310 hg w49 hbox hb; have BK310 := jA (hbox); have GW310 := zg1 hg HB GE309; have GE310 := zg1 hg HB GE309; replace HB := zS1 HB GE309 hb; have NB309_310 := zn hg BK309; replace BK309 := zB BK309 hb; have NB310_309 := jA NB309_310.out.symm; clear hb hbox hg; have hnb50 := NB309_310.out; have hnc50 := NB310_309.out; have hcz51 := zc2 BK309) | ((with_reducible refine jK (f := 26) rfl ?_); refine zL (some 13) Try.func26 #[.slice A0 l0.length c0, .agg #[.int .i64 a1_0, .slice A1_1 l1_1.length c1_1]] ?_; (with_reducible refine (impl_IsMagazine.calls k _ _ l0 a1_0 _ _ l1_1 false _ ?side1 ?side2 ?side3 ?side4 A5.out).mono ?_); (case side1 => exact zs HR0 HB); (case side2 => exact HC0.out); (case side3 => exact zs HR1_1 HB); (case side4 => exact HC1_1.out); rintro e w52 ⟨rfl, hb⟩; refine ⟨_, rfl, ?_⟩; replace BK309 := zB BK309 hb; replace BK310 := zB BK310 hb; replace HB := zS2 HB GE309 GE310 hb; clear hb; have hcz53 := zc2 BK310))
  refine bodyPost_ret (results_ct rfl _ _ gb310 28 #[.int .i64 0, .slice none 0 0] (0, 0) _ rfl (zP0 BK310) Try.underlying28 rfl zr) rfl ?_
  exact ⟨_, ze, by first | exact Kd.R_nil _ _ _ _ _ | exact Kd.N_nil _ _ _ _ _ | exact Kd.V_nil _ _ _ _ _ | exact Kd.Q_nil _ _ _ _ _ | exact Kd.S_nil _ _ _ _ _, zb2 HB GE309 GE310⟩

end Go.Proofs.Ytdgglhfnlljmeaa.PFnExactMovePieces
