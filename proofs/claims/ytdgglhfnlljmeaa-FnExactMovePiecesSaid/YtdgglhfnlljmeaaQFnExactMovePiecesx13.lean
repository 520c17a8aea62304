/- Functions and contracts that FnExactMovePieces reaches (14 of 24). -/
import Derived.Test.YtdgglhfnlljmeaaQFnExactMovePiecesx12
namespace Go.Proofs.Ytdgglhfnlljmeaa.PFnExactMovePieces
open Go.RowKit Go.Proofs.YtdgglhfnlljmeaaW.PrintWords Go.Proofs.YtdgglhfnlljmeaaW.PrintLast Go.Proofs.YtdgglhfnlljmeaaW.PrintMore
attribute [local go_sem] max2_int min2_int max_two min_two max_three min_three max_four min_four   -- for this text's walks alone
set_option linter.unusedVariables false
set_option linter.unusedSimpArgs false
open Go.Proofs.YtdgglhfnlljmeaaX

/-! ### impl_TakePieces: function 36 -/
def impl_TakePieces.f (k : Nat) (l0 : List (S65)) (a1_0 : Int) (l1_1 : List Int) (a2 : ByteArray) (a3 : Int) : Option (Int × List Int × Int) := (impl_IsMagazine.f k l0 a1_0 l1_1).bind fun t282 => (if t282 = true then ((impl_within.f a3 0 1000).bind fun t283 => (if t283 = true then ((impl_articleOf.f k l0 a2).bind fun t284 => (if t284 < 0 then (some (0, ([] : List Int), 4)) else (if 0 ≤ t284 then (if t284 < (l1_1.length : Int) then (if (rd l1_1 t284) < a3 then (some (0, ([] : List Int), 5)) else ((impl_withPieces.f a1_0 l1_1 t284 (wrap64 (-a3))).bind fun bt286 => (some (bt286.1, bt286.2, 0)))) else (none)) else (none)))) else (some (0, ([] : List Int), 2)))) else (some (0, ([] : List Int), 1)))
theorem impl_TakePieces.mono : ∀ a0 a1 a2 a3 a4 k, LeO (impl_TakePieces.f k a0 a1 a2 a3 a4) (impl_TakePieces.f (k + 1) a0 a1 a2 a3 a4) := by
 intro a0 a1 a2 a3 a4 k
 unfold impl_TakePieces.f
 repeat' first
   | (with_reducible exact impl_IsMagazine.mono _ _ _ _)
   | (with_reducible exact impl_articleOf.mono _ _ _)
   | (with_reducible exact LeO.refl _)
   | (with_reducible exact LeO.none _)
   | (with_reducible refine LeO.ite ?_ ?_)
   | (with_reducible refine LeO.bind ?_ (fun _ => ?_))
   | exact impl_IsMagazine.mono _ _ _ _
   | exact impl_articleOf.mono _ _ _
   | exact LeO.none _
   | refine LeO.ite ?_ ?_
   | refine LeO.bind ?_ (fun _ => ?_)
set_option maxHeartbeats 8000000 in
set_option maxRecDepth 100000 in
theorem impl_TakePieces.calls (k : Nat) (A0 : Option Addr) (c0 : Nat) (l0 : List (S65)) (a1_0 : Int) (A1_1 : Option Addr) (c1_1 : Nat) (l1_1 : List Int) (a2 : ByteArray) (a3 : Int) (r1 : Int) (r2 : List Int) (r3 : Int) (w : World) (hr0 : Kd.C k65 w A0 l0.length l0) (hc0 : l0.length ≤ c0) (hr1_1 : Kd.C (Kd.int .i64) w A1_1 l1_1.length l1_1) (hc1_1 : l1_1.length ≤ c1_1) (h : impl_TakePieces.f k l0 a1_0 l1_1 a2 a3 = some (r1, r2, r3)) :
  Calls Try.prog 36 #[.slice A0 l0.length c0, .agg #[.int .i64 a1_0, .slice A1_1 l1_1.length c1_1], .string a2, .int .i64 a3] w fun e w' => ∃ v1_ : Value, e = .returned (.tuple #[.agg #[.int .i64 r1, v1_], .int .i64 r3]) ∧ Kd.R (Kd.int .i64) 2 w' w.heap.size (fun _ => True) v1_ r2 ∧ Below w.heap.size w w' := by
 have hu28 := Try.underlying28
 have HR0 := jA hr0
 have HC0 := jA hc0
 clear hr0 hc0
 have HR1_1 := jA hr1_1
 have HC1_1 := jA hc1_1
 clear hr1_1 hc1_1
 have HB := jA (Below.refl w.heap.size w)
 have H := h
 unfold impl_TakePieces.f at H
 clear h
 replace H := jG.mp H
 obtain ⟨t282, A50, H⟩ := H
 try dsimp only at H
 have A5 := jA A50
 clear A50
 by_cases c6 : t282 = true
 ·subst c6
  rw [if_pos rfl] at H
  replace H := jG.mp H
  obtain ⟨t283, A70, H⟩ := H
  try dsimp only at H
  have A7 := jA A70
  clear A70
  by_cases c8 : t283 = true
  ·subst c8
   rw [if_pos rfl] at H
   replace H := jG.mp H
   obtain ⟨t284, A90, H⟩ := H
   try dsimp only at H
   have A9 := jA A90
   clear A90
   by_cases c10 : t284 < 0
   ·rw [if_pos c10] at H
    have c10b0 : decide (t284 < 0) = true := jI c10
    clear c10
    simp only [jN, jQ] at H
    obtain ⟨rfl, rfl, rfl⟩ := H
    go_enter Try.func36, Try.ntmps36
    go_wp2_with (first | ((with_reducible refine jJ (N := 5) rfl ?_); refine zE 5 #[.int .i64 a1_0, .slice A1_1 l1_1.length c1_1] 28 ?_; intro gb280 hg w11 hbox hb; have BK280 := jA (hbox); have GW280 := zg0 hg HB; have GE280 := zg0 hg HB; replace HB := zS0 HB hb; clear hb hbox hg) | ((with_reducible refine jJ (N := 8) rfl ?_); refine zE 8 #[.int .i64 0, .slice none 0 0] 28 ?_; intro gb281 hg w12 hbox hb; have BK281 := jA (hbox); have GW281 := zg1 hg HB GE280; have GE281 := zg1 hg HB GE280; replace HB := zS1 HB GE280 hb; have NB280_281 := zn hg BK280; replace BK280 := zB BK280 hb; have NB281_280 := jA NB280_281.out.symm; clear hb hbox hg; have hnb13 := NB280_281.out; have hnc13 := NB281_280.out; have hcz14 := zc2 BK280) | ((with_reducible refine jK (f := 26) rfl ?_); refine zL (some 13) Try.func26 #[.slice A0 l0.length c0, .agg #[.int .i64 a1_0, .slice A1_1 l1_1.length c1_1]] ?_; (with_reducible refine (impl_IsMagazine.calls k _ _ l0 a1_0 _ _ l1_1 true _ ?side1 ?side2 ?side3 ?side4 A5.out).mono ?_); (case side1 => exact zs HR0 HB); (case side2 => exact HC0.out); (case side3 => exact zs HR1_1 HB); (case side4 => exact HC1_1.out); rintro e w15 ⟨rfl, hb⟩; refine ⟨_, rfl, ?_⟩; replace BK280 := zB BK280 hb; replace BK281 := zB BK281 hb; replace HB := zS2 HB GE280 GE281 hb; clear hb) | ((with_reducible refine jK (f := 61) rfl ?_); refine zL (some 17) Try.func61 #[.int .i64 a3, .int .i64 0, .int .i64 1000] ?_; (with_reducible refine (impl_within.calls a3 0 1000 true _ A7.out).mono ?_); rintro e w' ⟨rfl, ⟨nd, rfl⟩⟩; refine ⟨_, rfl, ?_⟩; (try (rw [drewN_self w15]; generalize hq_ : World.drewN w15 _ = w15; replace BK280 : Aside0 (w15.heap[gb280]? = some (.cells #[.int .i64 a1_0, .slice A1_1 l1_1.length c1_1] 28 (0, 0))) := ⟨by rw [← hq_]; exact (zk BK280)⟩; replace BK281 : Aside0 (w15.heap[gb281]? = some (.cells #[.int .i64 0, .slice none 0 0] 28 (0, 0))) := ⟨by rw [← hq_]; exact (zk BK281)⟩; replace HB : Aside0 (Below w.heap.size w w15) := ⟨by rw [← hq_]; exact (zb2 HB GE280 GE281)⟩; clear hq_))) | ((with_reducible refine jK (f := 70) rfl ?_); refine zL (some 22) Try.func70 #[.slice A0 l0.length c0, .string a2] ?_; (with_reducible refine (impl_articleOf.calls k _ _ l0 a2 t284 _ ?side1 ?side2 A9.out).mono ?_); (case side1 => exact zs HR0 HB); (case side2 => exact HC0.out); rintro e w16 ⟨rfl, hb⟩; refine ⟨_, rfl, ?_⟩; replace BK280 := zB BK280 hb; replace BK281 := zB BK281 hb; replace HB := zS2 HB GE280 GE281 hb; clear hb; have hcz17 := zc2 BK281))
    refine bodyPost_ret (results_ct rfl _ _ gb281 28 #[.int .i64 0, .slice none 0 0] (0, 0) _ rfl (zP0 BK281) Try.underlying28 rfl zr) rfl ?_
    exact ⟨_, ze, by first | exact Kd.R_nil _ _ _ _ _ | exact Kd.N_nil _ _ _ _ _ | exact Kd.V_nil _ _ _ _ _ | exact Kd.Q_nil _ _ _ _ _ | exact Kd.S_nil _ _ _ _ _, zb2 HB GE280 GE281⟩
   ·rw [if_neg c10] at H
    have c10b0 : decide (t284 < 0) = false := jM c10
    clear c10
    by_cases c18 : 0 ≤ t284
    ·rw [if_pos c18] at H
     have c18b0 : decide (0 ≤ t284) = true := jI c18
     clear c18
     by_cases c19 : t284 < (l1_1.length : Int)
     ·rw [if_pos c19] at H
      have c19b0 : decide (t284 < (l1_1.length : Int)) = true := jI c19
      clear c19
      by_cases c20 : (rd l1_1 t284) < a3
      ·rw [if_pos c20] at H
       have c20b0 : decide ((rd l1_1 t284) < a3) = true := jI c20
       clear c20
       simp only [jN, jQ] at H
       obtain ⟨rfl, rfl, rfl⟩ := H
       go_enter Try.func36, Try.ntmps36
       go_wp2_with (first | ((with_reducible refine jJ (N := 5) rfl ?_); refine zE 5 #[.int .i64 a1_0, .slice A1_1 l1_1.length c1_1] 28 ?_; intro gb280 hg w21 hbox hb; have BK280 := jA (hbox); have GW280 := zg0 hg HB; have GE280 := zg0 hg HB; replace HB := zS0 HB hb; clear hb hbox hg) | ((with_reducible refine jJ (N := 8) rfl ?_); refine zE 8 #[.int .i64 0, .slice none 0 0] 28 ?_; intro gb281 hg w22 hbox hb; have BK281 := jA (hbox); have GW281 := zg1 hg HB GE280; have GE281 := zg1 hg HB GE280; replace HB := zS1 HB GE280 hb; have NB280_281 := zn hg BK280; replace BK280 := zB BK280 hb; have NB281_280 := jA NB280_281.out.symm; clear hb hbox hg; have hnb23 := NB280_281.out; have hnc23 := NB281_280.out; have hcz24 := zc2 BK280) | ((with_reducible refine jK (f := 26) rfl ?_); refine zL (some 13) Try.func26 #[.slice A0 l0.length c0, .agg #[.int .i64 a1_0, .slice A1_1 l1_1.length c1_1]] ?_; (with_reducible refine (impl_IsMagazine.calls k _ _ l0 a1_0 _ _ l1_1 true _ ?side1 ?side2 ?side3 ?side4 A5.out).mono ?_); (case side1 => exact zs HR0 HB); (case side2 => exact HC0.out); (case side3 => exact zs HR1_1 HB); (case side4 => exact HC1_1.out); rintro e w25 ⟨rfl, hb⟩; refine ⟨_, rfl, ?_⟩; replace BK280 := zB BK280 hb; replace BK281 := zB BK281 hb; replace HB := zS2 HB GE280 GE281 hb; clear hb) | ((with_reducible refine jK (f := 61) rfl ?_); refine zL (some 17) Try.func61 #[.int .i64 a3, .int .i64 0, .int .i64 1000] ?_; (with_reducible refine (impl_within.calls a3 0 1000 true _ A7.out).mono ?_); rintro e w' ⟨rfl, ⟨nd, rfl⟩⟩; refine ⟨_, rfl, ?_⟩; (try (rw [drewN_self w25]; generalize hq_ : World.drewN w25 _ = w25; replace BK280 : Aside0 (w25.heap[gb280]? = some (.cells #[.int .i64 a1_0, .slice A1_1 l1_1.length c1_1] 28 (0, 0))) := ⟨by rw [← hq_]; exact (zk BK280)⟩; replace BK281 : Aside0 (w25.heap[gb281]? = some (.cells #[.int .i64 0, .slice none 0 0] 28 (0, 0))) := ⟨by rw [← hq_]; exact (zk BK281)⟩; replace HB : Aside0 (Below w.heap.size w w25) := ⟨by rw [← hq_]; exact (zb2 HB GE280 GE281)⟩; clear hq_))) | ((with_reducible refine jK (f := 70) rfl ?_); refine zL (some 22) Try.func70 #[.slice A0 l0.length c0, .string a2] ?_; (with_reducible refine (impl_articleOf.calls k _ _ l0 a2 t284 _ ?side1 ?side2 A9.out).mono ?_); (case side1 => exact zs HR0 HB); (case side2 => exact HC0.out); rintro e w26 ⟨rfl, hb⟩; refine ⟨_, rfl, ?_⟩; replace BK280 := zB BK280 hb; replace BK281 := zB BK281 hb; replace HB := zS2 HB GE280 GE281 hb; clear hb; have hcz27 := zc2 BK280; have p285 : 0 ≤ (t284 : Int) := jB za; have q285 : t284 < (l1_1.length : Int) := jB za; obtain ⟨ad285, e285, hx285_0⟩ := Kd.at_int HR1_1.out t284 p285 q285; cases e285; replace hx285_0 := zx HB hx285_0; replace p285 := eq_true p285; replace q285 := eq_true q285; have hcz28 := zc2 BK281))
       refine bodyPost_ret (results_ct rfl _ _ gb281 28 #[.int .i64 0, .slice none 0 0] (0, 0) _ rfl (zP0 BK281) Try.underlying28 rfl zr) rfl ?_
       exact ⟨_, ze, by first | exact Kd.R_nil _ _ _ _ _ | exact Kd.N_nil _ _ _ _ _ | exact Kd.V_nil _ _ _ _ _ | exact Kd.Q_nil _ _ _ _ _ | exact Kd.S_nil _ _ _ _ _, zb2 HB GE280 GE281⟩
      ·rw [if_neg c20] at H
       have c20b0 : decide ((rd l1_1 t284) < a3) = false := jM c20
       clear c20
       replace H := jG.mp H
       obtain ⟨⟨t286, t287⟩, A290, H⟩ := H
       try dsimp only at H
       have A29 := jA A290
       clear A290
       simp only [jN, jQ] at H
       obtain ⟨rfl, rfl, rfl⟩ := H
       go_enter Try.func36, Try.ntmps36
       go_wp2_with (first | ((with_reducible refine jJ (N := 5) rfl ?_); refine zE 5 #[.int .i64 a1_0, .slice A1_1 l1_1.length c1_1] 28 ?_; intro gb280 hg w30 hbox hb; have BK280 := jA (hbox); have GW280 := zg0 hg HB; have GE280 := zg0 hg HB; replace HB := zS0 HB hb; clear hb hbox hg) | ((with_reducible refine jJ (N := 8) rfl ?_); refine zE 8 #[.int .i64 0, .slice none 0 0] 28 ?_; intro gb281 hg w31 hbox hb; have BK281 := jA (hbox); have GW281 := zg1 hg HB GE280; have GE281 := zg1 hg HB GE280; replace HB := zS1 HB GE280 hb; have NB280_281 := zn hg BK280; replace BK280 := zB BK280 hb; have NB281_280 := jA NB280_281.out.symm; clear hb hbox hg; have hnb32 := NB280_281.out; have hnc32 := NB281_280.out; have hcz33 := zc2 BK280) | ((with_reducible refine jK (f := 26) rfl ?_); refine zL (some 13) Try.func26 #[.slice A0 l0.length c0, .agg #[.int .i64 a1_0, .slice A1_1 l1_1.length c1_1]] ?_; (with_reducible refine (impl_IsMagazine.calls k _ _ l0 a1_0 _ _ l1_1 true _ ?side1 ?side2 ?side3 ?side4 A5.out).mono ?_); (case side1 => exact zs HR0 HB); (case side2 => exact HC0.out); (case side3 => exact zs HR1_1 HB); (case side4 => exact HC1_1.out); rintro e w34 ⟨rfl, hb⟩; refine ⟨_, rfl, ?_⟩; replace BK280 := zB BK280 hb; replace BK281 := zB BK281 hb; replace HB := zS2 HB GE280 GE281 hb; clear hb) | ((with_reducible refine jK (f := 61) rfl ?_); refine zL (some 17) Try.func61 #[.int .i64 a3, .int .i64 0, .int .i64 1000] ?_; (with_reducible refine (impl_within.calls a3 0 1000 true _ A7.out).mono ?_); rintro e w' ⟨rfl, ⟨nd, rfl⟩⟩; refine ⟨_, rfl, ?_⟩; (try (rw [drewN_self w34]; generalize hq_ : World.drewN w34 _ = w34; replace BK280 : Aside0 (w34.heap[gb280]? = some (.cells #[.int .i64 a1_0, .slice A1_1 l1_1.length c1_1] 28 (0, 0))) := ⟨by rw [← hq_]; exact (zk BK280)⟩; replace BK281 : Aside0 (w34.heap[gb281]? = some (.cells #[.int .i64 0, .slice none 0 0] 28 (0, 0))) := ⟨by rw [← hq_]; exact (zk BK281)⟩; replace HB : Aside0 (Below w.heap.size w w34) := ⟨by rw [← hq_]; exact (zb2 HB GE280 GE281)⟩; clear hq_))) | ((with_reducible refine jK (f := 70) rfl ?_); refine zL (some 22) Try.func70 #[.slice A0 l0.length c0, .string a2] ?_; (with_reducible refine (impl_articleOf.calls k _ _ l0 a2 t284 _ ?side1 ?side2 A9.out).mono ?_); (case side1 => exact zs HR0 HB); (case side2 => exact HC0.out); rintro e w35 ⟨rfl, hb⟩; refine ⟨_, rfl, ?_⟩; replace BK280 := zB BK280 hb; replace BK281 := zB BK281 hb; replace HB := zS2 HB GE280 GE281 hb; clear hb; have hcz36 := zc2 BK280; have p285 : 0 ≤ (t284 : Int) := jB za; have q285 : t284 < (l1_1.length : Int) := jB za; obtain ⟨ad285, e285, hx285_0⟩ := Kd.at_int HR1_1.out t284 p285 q285; cases e285; replace hx285_0 := zx HB hx285_0; replace p285 := eq_true p285; replace q285 := eq_true q285) | ((with_reducible refine jK (f := 74) rfl ?_); refine zL (some 38) Try.func74 #[.agg #[.int .i64 a1_0, .slice (some ad285) l1_1.length c1_1], .int .i64 t284, .int .i64 (wrap64 (-a3))] ?_; (with_reducible refine (impl_withPieces.calls a1_0 _ _ l1_1 t284 (wrap64 (-a3)) t286 t287 _ ?side1 ?side2 A29.out).mono ?_); (case side1 => exact zs HR1_1 HB); (case side2 => exact HC1_1.out); rintro e w37 ⟨v288, rfl, ho0, hb⟩; refine ⟨_, rfl, ?_⟩; have HO289 := jA (Kd.R_lower ho0 (below_size (zb2 HB GE280 GE281))); replace BK280 := zB BK280 hb; replace BK281 := zB BK281 hb; replace HB := zS2 HB GE280 GE281 hb; (try clear hb); (try clear hb2); (try clear hk); (try clear hi); (try clear ho0); have hcz38 := zc2 BK281; obtain ⟨Ao39, co39, eo39⟩ := Kd.R_slice HO289.out; subst eo39))
       refine bodyPost_ret (results_ct rfl _ _ gb281 28 #[.int .i64 t286, .slice Ao39 t287.length co39] (0, 0) _ rfl (zP0 BK281) Try.underlying28 rfl zr) rfl ?_
       exact ⟨_, ze, zT HO289 BK281, zb2 HB GE280 GE281⟩
     ·rw [if_neg c19] at H
      exact absurd H (by simp)
    ·rw [if_neg c18] at H
     exact absurd H (by simp)
  ·replace c8 := Bool.eq_false_iff.mpr c8
   subst c8
   rw [if_neg zfalse] at H
   simp only [jN, jQ] at H
   obtain ⟨rfl, rfl, rfl⟩ := H
   go_enter Try.func36, Try.ntmps36
   go_wp2_with (first | ((with_reducible refine jJ (N := 5) rfl ?_); refine zE 5 #[.int .i64 a1_0, .slice A1_1 l1_1.length c1_1] 28 ?_; intro gb280 hg w40 hbox hb; have BK280 := jA (hbox); have GW280 := zg0 hg HB; have GE280 := zg0 hg HB; replace HB := zS0 HB hb; clear hb hbox hg) | ((with_reducible refine jJ (N := 8) rfl ?_); refine zE 8 #[.int .i64 0, .slice none 0 0] 28 ?_; intro gb281 hg w41 hbox hb; have BK281 := jA (hbox); have GW281 := zg1 hg HB GE280; have GE281 := zg1 hg HB GE280; replace HB := zS1 HB GE280 hb; have NB280_281 := zn hg BK280; replace BK280 := zB BK280 hb; have NB281_280 := jA NB280_281.out.symm; clear hb hbox hg; have hnb42 := NB280_281.out; have hnc42 := NB281_280.out; have hcz43 := zc2 BK280) | ((with_reducible refine jK (f := 26) rfl ?_); refine zL (some 13) Try.func26 #[.slice A0 l0.length c0, .agg #[.int .i64 a1_0, .slice A1_1 l1_1.length c1_1]] ?_; (with_reducible refine (impl_IsMagazine.calls k _ _ l0 a1_0 _ _ l1_1 true _ ?side1 ?side2 ?side3 ?side4 A5.out).mono ?_); (case side1 => exact zs HR0 HB); (case side2 => exact HC0.out); (case side3 => exact zs HR1_1 HB); (case side4 => exact HC1_1.out); rintro e w44 ⟨rfl, hb⟩; refine ⟨_, rfl, ?_⟩; replace BK280 := zB BK280 hb; replace BK281 := zB BK281 hb; replace HB := zS2 HB GE280 GE281 hb; clear hb) | ((with_reducible refine jK (f := 61) rfl ?_); refine zL (some 17) Try.func61 #[.int .i64 a3, .int .i64 0, .int .i64 1000] ?_; (with_reducible refine (impl_within.calls a3 0 1000 false _ A7.out).mono ?_); rintro e w' ⟨rfl, ⟨nd, rfl⟩⟩; refine ⟨_, rfl, ?_⟩; (try (rw [drewN_self w44]; generalize hq_ : World.drewN w44 _ = w44; replace BK280 : Aside0 (w44.heap[gb280]? = some (.cells #[.int .i64 a1_0, .slice A1_1 l1_1.length c1_1] 28 (0, 0))) := ⟨by rw [← hq_]; exact (zk BK280)⟩; replace BK281 : Aside0 (w44.heap[gb281]? = some (.cells #[.int .i64 0, .slice none 0 0] 28 (0, 0))) := ⟨by rw [← hq_]; exact (zk BK281)⟩; replace HB : Aside0 (Below w.heap.size w w44) := ⟨by rw [← hq_]; exact (zb2 HB GE280 GE281)⟩; clear hq_)); have hcz45 := zc2 BK281))
   refine bodyPost_ret (results_ct rfl _ _ gb281 28 #[.int .i64 0, .slice none 0 0] (0, 0) _ rfl (zP0 BK281) Try.underlying28 rfl zr) rfl ?_
   exact ⟨_, ze, by first | exact Kd.R_nil _ _ _ _ _ | exact Kd.N_nil _ _ _ _ _ | exact Kd.V_nil _ _ _ _ _ | exact Kd.Q_nil _ _ _ _ _ | exact Kd.S_nil _ _ _ _ _, zb2 HB GE280 GE281⟩
 ·replace c6 := Bool.eq_false_iff.mpr c6
  subst c6
  rw [if_neg zfalse] at H
  simp only [jN, jQ] at H
  obtain ⟨rfl, rfl, rfl⟩ := H
  go_enter Try.func36, Try.ntmps36
  go_wp2_with (first | ((with_reducible refine jJ (N := 5) rfl ?_); refine zE 5 #[.int .i64 a1_0, .slice A1_1 l1_1.length c1_1] 28 ?_; intro gb280 hg w46 hbox hb; have BK280 := jA (hbox); have GW280 := zg0 hg HB; have GE280 := zg0 hg HB; replace HB := zS0 HB hb; clear hb hbox hg) | ((with_reducible refine jJ (N := 8) rfl ?_); refine zE 8 #[.int .i64 0, .slice none 0 0] 28 ?_; intro gb281 hg w47 hbox hb; have BK281 := jA (hbox); have GW281 := zg1 hg HB GE280; have GE281 := zg1 hg HB GE280; replace HB := zS1 HB GE280 hb; have NB280_281 := zn hg BK280; replace BK280 := zB BK280 hb; have NB281_280 := jA NB280_281.out.symm; clear hb hbox hg; have hnb48 := NB280_281.out; have hnc48 := NB281_280.out; have hcz49 := zc2 BK280) | ((with_reducible refine jK (f := 26) rfl ?_); refine zL (some 13) Try.func26 #[.slice A0 l0.length c0, .agg #[.int .i64 a1_0, .slice A1_1 l1_1.length c1_1]] ?_; (with_reducible refine (impl_IsMagazine.calls k _ _ l0 a1_0 _ _ l1_1 false _ ?side1 ?side2 ?side3 ?side4 A5.out).mono ?_); (case side1 => exact zs HR0 HB); (case side2 => exact HC0.out); (case side3 => exact zs HR1_1 HB); (case side4 => exact HC1_1.out); rintro e w50 ⟨rfl, hb⟩; refine ⟨_, rfl, ?_⟩; replace BK280 := zB BK280 hb; replace BK281 := zB BK281 hb; replace HB := zS2 HB GE280 GE281 hb; clear hb; have hcz51 := zc2 BK281))
  refine bodyPost_ret (results_ct rfl _ _ gb281 28 #[.int .i64 0, .slice none 0 0] (0, 0) _ rfl (zP0 BK281) Try.underlying28 rfl zr) rfl ?_
  exact ⟨_, ze, by first | exact Kd.R_nil _ _ _ _ _ | exact Kd.N_nil _ _ _ _ _ | exact Kd.V_nil _ _ _ _ _ | exact Kd.Q_nil _ _ _ _ _ | exact Kd.S_nil _ _ _ _ _, zb2 HB GE280 GE281⟩

end Go.Proofs.Ytdgglhfnlljmeaa.PFnExactMovePieces
