/- Functions and contracts that FnMagazines reaches (10 of 24). -/
import Derived.Test.YtdgglhfnlljmeaaQFnMagazinesx8
namespace Go.Proofs.Ytdgglhfnlljmeaa.PFnMagazines
open Go.RowKit Go.Proofs.YtdgglhfnlljmeaaW.PrintWords Go.Proofs.YtdgglhfnlljmeaaW.PrintLast Go.Proofs.YtdgglhfnlljmeaaW.PrintMore
attribute [local go_sem] max2_int min2_int max_two min_two max_three min_three max_four min_four   -- for this text's walks alone
set_option linter.unusedVariables false
set_option linter.unusedSimpArgs false

/-! ### impl_TakePieces: function 36 -/
def impl_TakePieces.f (k : Nat) (l0 : List (S65)) (a1_0 : Int) (l1_1 : List Int) (a2 : ByteArray) (a3 : Int) : Option (Int × List Int × Int) := (impl_IsMagazine.f k l0 a1_0 l1_1).bind fun t203 => (if t203 = true then ((impl_within.f a3 0 1000).bind fun t204 => (if t204 = true then ((impl_articleOf.f k l0 a2).bind fun t205 => (if t205 < 0 then (some (0, ([] : List Int), 4)) else (if 0 ≤ t205 then (if t205 < (l1_1.length : Int) then (if (rd l1_1 t205) < a3 then (some (0, ([] : List Int), 5)) else ((impl_withPieces.f a1_0 l1_1 t205 (wrap64 (-a3))).bind fun bt207 => (some (bt207.1, bt207.2, 0)))) else (none)) else (none)))) else (some (0, ([] : List Int), 2)))) else (some (0, ([] : List Int), 1)))
theorem impl_TakePieces.mono : ∀ a0 a1 a2 a3 a4 k, LeO (impl_TakePieces.f k a0 a1 a2 a3 a4) (impl_TakePieces.f (k + 1) a0 a1 a2 a3 a4) := by
 intro a0 a1 a2 a3 a4 k
 unfold impl_TakePieces.f
 repeat' first
   | (with_reducible exact impl_IsMagazine.mono _ _ _ _)
   | (with_reducible exact impl_articleOf.mono _ _ _)
   | (with_reducible exact LeO.refl _)
   | (with_reducible exact LeO.none _)
   | (with_reducible refine LeO.ite ?_ ?_)
   | (with_reducible refine LeO.bind ?_ (fun _ => ?_))
   | exact impl_IsMagazine.mono _ _ _ _
   | exact impl_articleOf.mono _ _ _
   | exact LeO.none _
   | refine LeO.ite ?_ ?_
   | refine LeO.bind ?_ (fun _ => ?_)
set_option maxHeartbeats 8000000 in
set_option maxRecDepth 100000 in
theorem impl_TakePieces.calls (k : Nat) (A0 : Option Addr) (c0 : Nat) (l0 : List (S65)) (a1_0 : Int) (A1_1 : Option Addr) (c1_1 : Nat) (l1_1 : List Int) (a2 : ByteArray) (a3 : Int) (r1 : Int) (r2 : List Int) (r3 : Int) (w : World) (hr0 : Kd.C k65 w A0 l0.length l0) (hc0 : l0.length ≤ c0) (hr1_1 : Kd.C (Kd.int .i64) w A1_1 l1_1.length l1_1) (hc1_1 : l1_1.length ≤ c1_1) (h : impl_TakePieces.f k l0 a1_0 l1_1 a2 a3 = some (r1, r2, r3)) :
  Calls Try.prog 36 #[.slice A0 l0.length c0, .agg #[.int .i64 a1_0, .slice A1_1 l1_1.length c1_1], .string a2, .int .i64 a3] w fun e w' => ∃ v1_ : Value, e = .returned (.tuple #[.agg #[.int .i64 r1, v1_], .int .i64 r3]) ∧ Kd.R (Kd.int .i64) 2 w' w.heap.size (fun _ => True) v1_ r2 ∧ Below w.heap.size w w' := by
 have hu28 := Try.underlying28
 have HR0 := jA hr0
 have HC0 := jA hc0
 clear hr0 hc0
 have HR1_1 := jA hr1_1
 have HC1_1 := jA hc1_1
 clear hr1_1 hc1_1
 have HB := jA (Below.refl w.heap.size w)
 have H := h
 unfold impl_TakePieces.f at H
 clear h
 replace H := jB.mp H
 obtain ⟨t203, A50, H⟩ := H
 try dsimp only at H
 have A5 := jA A50
 clear A50
 by_cases c6 : t203 = true
 ·subst c6
  rw [if_pos rfl] at H
  replace H := jB.mp H
  obtain ⟨t204, A70, H⟩ := H
  try dsimp only at H
  have A7 := jA A70
  clear A70
  by_cases c8 : t204 = true
  ·subst c8
   rw [if_pos rfl] at H
   replace H := jB.mp H
   obtain ⟨t205, A90, H⟩ := H
   try dsimp only at H
   have A9 := jA A90
   clear A90
   by_cases c10 : t205 < 0
   ·rw [if_pos c10] at H
    have c10b0 : decide (t205 < 0) = true := jJ c10
    clear c10
    simp only [jN, jO] at H
    obtain ⟨rfl, rfl, rfl⟩ := H
    go_enter Try.func36, Try.ntmps36
    go_wp2_with (first | ((with_reducible refine jL (N := 5) rfl ?_); refine zE 5 #[.int .i64 a1_0, .slice A1_1 l1_1.length c1_1] 28 ?_; intro gb201 hg w11 hbox hb; have BK201 := jA (hbox); have GW201 := zg0 hg HB; have GE201 := zg0 hg HB; replace HB := zS0 HB hb; clear hb hbox hg) | ((with_reducible refine jL (N := 8) rfl ?_); refine zE 8 #[.int .i64 0, .slice none 0 0] 28 ?_; intro gb202 hg w12 hbox hb; have BK202 := jA (hbox); have GW202 := zg1 hg HB GE201; have GE202 := zg1 hg HB GE201; replace HB := zS1 HB GE201 hb; have NB201_202 := zn hg BK201; replace BK201 := zB BK201 hb; have NB202_201 := jA NB201_202.out.symm; clear hb hbox hg; have hnb13 := NB201_202.out; have hnc13 := NB202_201.out; have hcz14 := zc2 BK201) | ((with_reducible refine jD (f := 26) rfl ?_); refine zL (some 13) Try.func26 #[.slice A0 l0.length c0, .agg #[.int .i64 a1_0, .slice A1_1 l1_1.length c1_1]] ?_; (with_reducible refine (impl_IsMagazine.calls k _ _ l0 a1_0 _ _ l1_1 true _ ?side1 ?side2 ?side3 ?side4 A5.out).mono ?_); (case side1 => exact zs HR0 HB); (case side2 => exact HC0.out); (case side3 => exact zs HR1_1 HB); (case side4 => exact HC1_1.out); rintro e w15 ⟨rfl, hb⟩; refine ⟨_, rfl, ?_⟩; replace BK201 := zB BK201 hb; replace BK202 := zB BK202 hb; replace HB := zS2 HB GE201 GE202 hb; clear hb) | ((with_reducible refine jD (f := 61) rfl ?_); refine zL (some 17) Try.func61 #[.int .i64 a3, .int .i64 0, .int .i64 1000] ?_; (with_reducible refine (impl_within.calls a3 0 1000 true _ A7.out).mono ?_); rintro e w' ⟨rfl, ⟨nd, rfl⟩⟩; refine ⟨_, rfl, ?_⟩; (try (rw [drewN_self w15]; generalize hq_ : World.drewN w15 _ = w15; replace BK201 : Aside0 (w15.heap[gb201]? = some (.cells #[.int .i64 a1_0, .slice A1_1 l1_1.length c1_1] 28 (0, 0))) := ⟨by rw [← hq_]; exact (zk BK201)⟩; replace BK202 : Aside0 (w15.heap[gb202]? = some (.cells #[.int .i64 0, .slice none 0 0] 28 (0, 0))) := ⟨by rw [← hq_]; exact (zk BK202)⟩; replace HB : Aside0 (Below w.heap.size w w15) := ⟨by rw [← hq_]; exact (zb2 HB GE201 GE202)⟩; clear hq_))) | ((with_reducible refine jD (f := 70) rfl ?_); refine zL (some 22) Try.func70 #[.slice A0 l0.length c0, .string a2] ?_; (with_reducible refine (impl_articleOf.calls k _ _ l0 a2 t205 _ ?side1 ?side2 A9.out).mono ?_); (case side1 => exact zs HR0 HB); (case side2 => exact HC0.out); rintro e w16 ⟨rfl, hb⟩; refine ⟨_, rfl, ?_⟩; replace BK201 := zB BK201 hb; replace BK202 := zB BK202 hb; replace HB := zS2 HB GE201 GE202 hb; clear hb; have hcz17 := zc2 BK202))
    refine jX (results_ct rfl _ _ gb202 28 #[.int .i64 0, .slice none 0 0] (0, 0) _ rfl (zP0 BK202) Try.underlying28 rfl zr) rfl ?_
    exact ⟨_, ze, by first | exact Kd.R_nil _ _ _ _ _ | exact Kd.N_nil _ _ _ _ _ | exact Kd.V_nil _ _ _ _ _ | exact Kd.Q_nil _ _ _ _ _ | exact Kd.S_nil _ _ _ _ _, zb2 HB GE201 GE202⟩
   ·rw [if_neg c10] at H
    have c10b0 : decide (t205 < 0) = false := jQ c10
    clear c10
    by_cases c18 : 0 ≤ t205
    ·rw [if_pos c18] at H
     have c18b0 : decide (0 ≤ t205) = true := jJ c18
     clear c18
     by_cases c19 : t205 < (l1_1.length : Int)
     ·rw [if_pos c19] at H
      have c19b0 : decide (t205 < (l1_1.length : Int)) = true := jJ c19
      clear c19
      by_cases c20 : (rd l1_1 t205) < a3
      ·rw [if_pos c20] at H
       have c20b0 : decide ((rd l1_1 t205) < a3) = true := jJ c20
       clear c20
       simp only [jN, jO] at H
       obtain ⟨rfl, rfl, rfl⟩ := H
       go_enter Try.func36, Try.ntmps36
       go_wp2_with (first | ((with_reducible refine jL (N := 5) rfl ?_); refine zE 5 #[.int .i64 a1_0, .slice A1_1 l1_1.length c1_1] 28 ?_; intro gb201 hg w21 hbox hb; have BK201 := jA (hbox); have GW201 := zg0 hg HB; have GE201 := zg0 hg HB; replace HB := zS0 HB hb; clear hb hbox hg) | ((with_reducible refine jL (N := 8) rfl ?_); refine zE 8 #[.int .i64 0, .slice none 0 0] 28 ?_; intro gb202 hg w22 hbox hb; have BK202 := jA (hbox); have GW202 := zg1 hg HB GE201; have GE202 := zg1 hg HB GE201; replace HB := zS1 HB GE201 hb; have NB201_202 := zn hg BK201; replace BK201 := zB BK201 hb; have NB202_201 := jA NB201_202.out.symm; clear hb hbox hg; have hnb23 := NB201_202.out; have hnc23 := NB202_201.out; have hcz24 := zc2 BK201) | ((with_reducible refine jD (f := 26) rfl ?_); refine zL (some 13) Try.func26 #[.slice A0 l0.length c0, .agg #[.int .i64 a1_0, .slice A1_1 l1_1.length c1_1]] ?_; (with_reducible refine (impl_IsMagazine.calls k _ _ l0 a1_0 _ _ l1_1 true _ ?side1 ?side2 ?side3 ?side4 A5.out).mono ?_); (case side1 => exact zs HR0 HB); (case side2 => exact HC0.out); (case side3 => exact zs HR1_1 HB); (case side4 => exact HC1_1.out); rintro e w25 ⟨rfl, hb⟩; refine ⟨_, rfl, ?_⟩; replace BK201 := zB BK201 hb; replace BK202 := zB BK202 hb; replace HB := zS2 HB GE201 GE202 hb; clear hb) | ((with_reducible refine jD (f := 61) rfl ?_); refine zL (some 17) Try.func61 #[.int .i64 a3, .int .i64 0, .int .i64 1000] ?_; (with_reducible refine (impl_within.calls a3 0 1000 true _ A7.out).mono ?_); rintro e w' ⟨rfl, ⟨nd, rfl⟩⟩; refine ⟨_, rfl, ?_⟩; (try (rw [drewN_self w25]; generalize hq_ : World.drewN w25 _ = w25; replace BK201 : Aside0 (w25.heap[gb201]? = some (.cells #[.int .i64 a1_0, .slice A1_1 l1_1.length c1_1] 28 (0, 0))) := ⟨by rw [← hq_]; exact (zk BK201)⟩; replace BK202 : Aside0 (w25.heap[gb202]? = some (.cells #[.int .i64 0, .slice none 0 0] 28 (0, 0))) := ⟨by rw [← hq_]; exact (zk BK202)⟩; replace HB : Aside0 (Below w.heap.size w w25) := ⟨by rw [← hq_]; exact (zb2 HB GE201 GE202)⟩; clear hq_))) | ((with_reducible refine jD (f := 70) rfl ?_); refine zL (some 22) Try.func70 #[.slice A0 l0.length c0, .string a2] ?_; (with_reducible refine (impl_articleOf.calls k _ _ l0 a2 t205 _ ?side1 ?side2 A9.out).mono ?_); (case side1 => exact zs HR0 HB); (case side2 => exact HC0.out); rintro e w26 ⟨rfl, hb⟩; refine ⟨_, rfl, ?_⟩; replace BK201 := zB BK201 hb; replace BK202 := zB BK202 hb; replace HB := zS2 HB GE201 GE202 hb; clear hb; have hcz27 := zc2 BK201; have p206 : 0 ≤ (t205 : Int) := jC za; have q206 : t205 < (l1_1.length : Int) := jC za; obtain ⟨ad206, e206, hx206_0⟩ := Kd.at_int HR1_1.out t205 p206 q206; cases e206; replace hx206_0 := zx HB hx206_0; replace p206 := eq_true p206; replace q206 := eq_true q206; have hcz28 := zc2 BK202))
       refine jX (results_ct rfl _ _ gb202 28 #[.int .i64 0, .slice none 0 0] (0, 0) _ rfl (zP0 BK202) Try.underlying28 rfl zr) rfl ?_
       exact ⟨_, ze, by first | exact Kd.R_nil _ _ _ _ _ | exact Kd.N_nil _ _ _ _ _ | exact Kd.V_nil _ _ _ _ _ | exact Kd.Q_nil _ _ _ _ _ | exact Kd.S_nil _ _ _ _ _, zb2 HB GE201 GE202⟩
      ·rw [if_neg c20] at H
       have c20b0 : decide ((rd l1_1 t205) < a3) = false := jQ c20
       clear c20
       replace H := jB.mp H
       obtain ⟨⟨t207, t208⟩, A290, H⟩ := H
       try dsimp only at H
       have A29 := jA A290
       clear A290
       simp only [jN, jO] at H
       obtain ⟨rfl, rfl, rfl⟩ := H
       go_enter Try.func36, Try.ntmps36
       go_wp2_with (first | ((with_reducible refine jL (N := 5) rfl ?_); refine zE 5 #[.int .i64 a1_0, .slice A1_1 l1_1.length c1_1] 28 ?_; intro gb201 hg w30 hbox hb; have BK201 := jA (hbox); have GW201 := zg0 hg HB; have GE201 := zg0 hg HB; replace HB := zS0 HB hb; clear hb hbox hg) | ((with_reducible refine jL (N := 8) rfl ?_); refine zE 8 #[.int .i64 0, .slice none 0 0] 28 ?_; intro gb202 hg w31 hbox hb; have BK202 := jA (hbox); have GW202 := zg1 hg HB GE201; have GE202 := zg1 hg HB GE201; replace HB := zS1 HB GE201 hb; have NB201_202 := zn hg BK201; replace BK201 := zB BK201 hb; have NB202_201 := jA NB201_202.out.symm; clear hb hbox hg; have hnb32 := NB201_202.out; have hnc32 := NB202_201.out; have hcz33 := zc2 BK201) | ((with_reducible refine jD (f := 26) rfl ?_); refine zL (some 13) Try.func26 #[.slice A0 l0.length c0, .agg #[.int .i64 a1_0, .slice A1_1 l1_1.length c1_1]] ?_; (with_reducible refine (impl_IsMagazine.calls k _ _ l0 a1_0 _ _ l1_1 true _ ?side1 ?side2 ?side3 ?side4 A5.out).mono ?_); (case side1 => exact zs HR0 HB); (case side2 => exact HC0.out); (case side3 => exact zs HR1_1 HB); (case side4 => exact HC1_1.out); rintro e w34 ⟨rfl, hb⟩; refine ⟨_, rfl, ?_⟩; replace BK201 := zB BK201 hb; replace BK202 := zB BK202 hb; replace HB := zS2 HB GE201 GE202 hb; clear hb) | ((with_reducible refine jD (f := 61) rfl ?_); refine zL (some 17) Try.func61 #[.int .i64 a3, .int .i64 0, .int .i64 1000] ?_; (with_reducible refine (impl_within.calls a3 0 1000 true _ A7.out).mono ?_); rintro e w' ⟨rfl, ⟨nd, rfl⟩⟩; refine ⟨_, rfl, ?_⟩; (try (rw [drewN_self w34]; generalize hq_ : World.drewN w34 _ = w34; replace BK201 : Aside0 (w34.heap[gb201]? = some (.cells #[.int .i64 a1_0, .slice A1_1 l1_1.length c1_1] 28 (0, 0))) := ⟨by rw [← hq_]; exact (zk BK201)⟩; replace BK202 : Aside0 (w34.heap[gb202]? = some (.cells #[.int .i64 0, .slice none 0 0] 28 (0, 0))) := ⟨by rw [← hq_]; exact (zk BK202)⟩; replace HB : Aside0 (Below w.heap.size w w34) := ⟨by rw [← hq_]; exact (zb2 HB GE201 GE202)⟩; clear hq_))) | ((with_reducible refine jD (f := 70) rfl ?_); refine zL (some 22) Try.func70 #[.slice A0 l0.length c0, .string a2] ?_; (with_reducible refine (impl_articleOf.calls k _ _ l0 a2 t205 _ ?side1 ?side2 A9.out).mono ?_); (case side1 => exact zs HR0 HB); (case side2 => exact HC0.out); rintro e w35 ⟨rfl, hb⟩; refine ⟨_, rfl, ?_⟩; replace BK201 := zB BK201 hb; replace BK202 := zB BK202 hb; replace HB := zS2 HB GE201 GE202 hb; clear hb; have hcz36 := zc2 BK201; have p206 : 0 ≤ (t205 : Int) := jC za; have q206 : t205 < (l1_1.length : Int) := jC za; obtain ⟨ad206, e206, hx206_0⟩ := Kd.at_int HR1_1.out t205 p206 q206; cases e206; replace hx206_0 := zx HB hx206_0; replace p206 := eq_true p206; replace q206 := eq_true q206) | ((with_reducible refine jD (f := 74) rfl ?_); refine zL (some 38) Try.func74 #[.agg #[.int .i64 a1_0, .slice (some ad206) l1_1.length c1_1], .int .i64 t205, .int .i64 (wrap64 (-a3))] ?_; (with_reducible refine (impl_withPieces.calls a1_0 _ _ l1_1 t205 (wrap64 (-a3)) t207 t208 _ ?side1 ?side2 A29.out).mono ?_); (case side1 => exact zs HR1_1 HB); (case side2 => exact HC1_1.out); rintro e w37 ⟨v209, rfl, ho0, hb⟩; refine ⟨_, rfl, ?_⟩; have HO210 := jA (jU ho0 (jW (zb2 HB GE201 GE202))); replace BK201 := zB BK201 hb; replace BK202 := zB BK202 hb; replace HB := zS2 HB GE201 GE202 hb; (try clear hb); (try clear hb2); (try clear hk); (try clear hi); (try clear ho0); have hcz38 := zc2 BK202; obtain ⟨Ao39, co39, eo39⟩ := Kd.R_slice HO210.out; subst eo39))
       refine jX (results_ct rfl _ _ gb202 28 #[.int .i64 t207, .slice Ao39 t208.length co39] (0, 0) _ rfl (zP0 BK202) Try.underlying28 rfl zr) rfl ?_
       exact ⟨_, ze, zT HO210 BK202, zb2 HB GE201 GE202⟩
     ·rw [if_neg c19] at H
      exact absurd H (by simp)
    ·rw [if_neg c18] at H
     exact absurd H (by simp)
  ·replace c8 := Bool.eq_false_iff.mpr c8
   subst c8
   rw [if_neg zfalse] at H
   simp only [jN, jO] at H
   obtain ⟨rfl, rfl, rfl⟩ := H
   go_enter Try.func36, Try.ntmps36
   go_wp2_with (first | ((with_reducible refine jL (N := 5) rfl ?_); refine zE 5 #[.int .i64 a1_0, .slice A1_1 l1_1.length c1_1] 28 ?_; intro gb201 hg w40 hbox hb; have BK201 := jA (hbox); have GW201 := zg0 hg HB; have GE201 := zg0 hg HB; replace HB := zS0 HB hb; clear hb hbox hg) | ((with_reducible refine jL (N := 8) rfl ?_); refine zE 8 #[.int .i64 0, .slice none 0 0] 28 ?_; intro gb202 hg w41 hbox hb; have BK202 := jA (hbox); have GW202 := zg1 hg HB GE201; have GE202 := zg1 hg HB GE201; replace HB := zS1 HB GE201 hb; have NB201_202 := zn hg BK201; replace BK201 := zB BK201 hb; have NB202_201 := jA NB201_202.out.symm; clear hb hbox hg; have hnb42 := NB201_202.out; have hnc42 := NB202_201.out; have hcz43 := zc2 BK201) | ((with_reducible refine jD (f := 26) rfl ?_); refine zL (some 13) Try.func26 #[.slice A0 l0.length c0, .agg #[.int .i64 a1_0, .slice A1_1 l1_1.length c1_1]] ?_; (with_reducible refine (impl_IsMagazine.calls k _ _ l0 a1_0 _ _ l1_1 true _ ?side1 ?side2 ?side3 ?side4 A5.out).mono ?_); (case side1 => exact zs HR0 HB); (case side2 => exact HC0.out); (case side3 => exact zs HR1_1 HB); (case side4 => exact HC1_1.out); rintro e w44 ⟨rfl, hb⟩; refine ⟨_, rfl, ?_⟩; replace BK201 := zB BK201 hb; replace BK202 := zB BK202 hb; replace HB := zS2 HB GE201 GE202 hb; clear hb) | ((with_reducible refine jD (f := 61) rfl ?_); refine zL (some 17) Try.func61 #[.int .i64 a3, .int .i64 0, .int .i64 1000] ?_; (with_reducible refine (impl_within.calls a3 0 1000 false _ A7.out).mono ?_); rintro e w' ⟨rfl, ⟨nd, rfl⟩⟩; refine ⟨_, rfl, ?_⟩; (try (rw [drewN_self w44]; generalize hq_ : World.drewN w44 _ = w44; replace BK201 : Aside0 (w44.heap[gb201]? = some (.cells #[.int .i64 a1_0, .slice A1_1 l1_1.length c1_1] 28 (0, 0))) := ⟨by rw [← hq_]; exact (zk BK201)⟩; replace BK202 : Aside0 (w44.heap[gb202]? = some (.cells #[.int .i64 0, .slice none 0 0] 28 (0, 0))) := ⟨by rw [← hq_]; exact (zk BK202)⟩; replace HB : Aside0 (Below w.heap.size w w44) := ⟨by rw [← hq_]; exact (zb2 HB GE201 GE202)⟩; clear hq_)); have hcz45 := zc2 BK202))
   refine jX (results_ct rfl _ _ gb202 28 #[.int .i64 0, .slice none 0 0] (0, 0) _ rfl (zP0 BK202) Try.underlying28 rfl zr) rfl ?_
   exact ⟨_, ze, by first | exact Kd.R_nil _ _ _ _ _ | exact Kd.N_nil _ _ _ _ _ | exact Kd.V_nil _ _ _ _ _ | exact Kd.Q_nil _ _ _ _ _ | exact Kd.S_nil _ _ _ _ _, zb2 HB GE201 GE202⟩
 ·replace c6 := Bool.eq_false_iff.mpr c6
  subst c6
  rw [if_neg zfalse] at H
  simp only [jN, jO] at H
  obtain ⟨rfl, rfl, rfl⟩ := H
  go_enter Try.func36, Try.ntmps36
  go_wp2_with (first | ((with_reducible refine jL (N := 5) rfl ?_); refine zE 5 #[.int .i64 a1_0, .slice A1_1 l1_1.length c1_1] 28 ?_; intro gb201 hg w46 hbox hb; have BK201 := jA (hbox); have GW201 := zg0 hg HB; have GE201 := zg0 hg HB; replace HB := zS0 HB hb; clear hb hbox hg) | ((with_reducible refine jL (N := 8) rfl ?_); refine zE 8 #[.int .i64 0, .slice none 0 0] 28 ?_; intro gb202 hg w47 hbox hb; have BK202 := jA (hbox); have GW202 := zg1 hg HB GE201; have GE202 := zg1 hg HB GE201; replace HB := zS1 HB GE201 hb; have NB201_202 := zn hg BK201; replace BK201 := zB BK201 hb; have NB202_201 := jA NB201_202.out.symm; clear hb hbox hg; have hnb48 := NB201_202.out; have hnc48 := NB202_201.out; have hcz49 := zc2 BK201) | ((with_reducible refine jD (f := 26) rfl ?_); refine zL (some 13) Try.func26 #[.slice A0 l0.length c0, .agg #[.int .i64 a1_0, .slice A1_1 l1_1.length c1_1]] ?_; (with_reducible refine (impl_IsMagazine.calls k _ _ l0 a1_0 _ _ l1_1 false _ ?side1 ?side2 ?side3 ?side4 A5.out).mono ?_); (case side1 => exact zs HR0 HB); (case side2 => exact HC0.out); (case side3 => exact zs HR1_1 HB); (case side4 => exact HC1_1.out); rintro e w50 ⟨rfl, hb⟩; refine ⟨_, rfl, ?_⟩; replace BK201 := zB BK201 hb; replace BK202 := zB BK202 hb; replace HB := zS2 HB GE201 GE202 hb; clear hb; have hcz51 := zc2 BK202))
  refine jX (results_ct rfl _ _ gb202 28 #[.int .i64 0, .slice none 0 0] (0, 0) _ rfl (zP0 BK202) Try.underlying28 rfl zr) rfl ?_
  exact ⟨_, ze, by first | exact Kd.R_nil _ _ _ _ _ | exact Kd.N_nil _ _ _ _ _ | exact Kd.V_nil _ _ _ _ _ | exact Kd.Q_nil _ _ _ _ _ | exact Kd.S_nil _ _ _ _ _, zb2 HB GE201 GE202⟩

/-! ### laws_big: function 37 -/
def laws_big.f (l0 : List Int) : Option (Bool) := some (decide ((l0.length : Int) > 4096))
set_option maxHeartbeats 8000000 in
set_option maxRecDepth 100000 in
theorem laws_big.calls (A0 : Option Addr) (c0 : Nat) (l0 : List Int) (r : Bool) (w : World) (hr0 : Kd.C (Kd.int .u8) w A0 l0.length l0) (hc0 : l0.length ≤ c0) (h : laws_big.f l0 = some r) :
  Calls Try.prog 37 #[.slice A0 l0.length c0] w fun e w' => e = .returned (.bool r) ∧ Drawn0 w w' := by
 have HR0 := jA hr0
 have HC0 := jA hc0
 clear hr0 hc0
 have H : (some (decide ((l0.length : Int) > 4096))) = some r := h
 clear h
 obtain rfl := jK H
 go_enter Try.func37, Try.ntmps37
 go_wp2
 go_ret
 exact ⟨by first | rfl | (simp; done) | (simp [*]; done), by repeat (first | exact Drawn0.refl _ | apply Drawn0.step)⟩

/-- A state of type 92 at block g of W; what its slices lead to came in by w0. -/
def IsS92 (w0 W : World) (g : Nat) (f0 : List Int) (f1 : Int) (f2 : Int) : Prop := ∃ A0 c0, W.heap[g]? = some (.cells #[.slice A0 f0.length c0, .int .i64 f1, .int .i64 f2] 92 (0, 0)) ∧ w0.heap.size ≤ g ∧ Kd.C (Kd.int .u8) w0 A0 f0.length f0
theorem IsS92.grown {w0 W : World} {g : Nat} {f0 : List Int} {f1 : Int} {f2 : Int} {W1 : World} {row : Option Nat} (h : IsS92 w0 W g f0 f1 f2) (hw : W.grownBy W1 row) (hne : some g ≠ row) : IsS92 w0 W1 g f0 f1 f2 := by
 obtain ⟨A0, c0, hb, hg, hr0⟩ := h
 exact ⟨A0, c0, blk_grown hb hw hne, hg, hr0⟩
theorem IsS92.own_neN {w0 W : World} {g : Nat} {f0 : List Int} {f1 : Int} {f2 : Int} {α : Type} {d : Kd α} {e : Nat} {base : Nat} {ok : Nat → Prop} {v : Value} {xs : List α} (h : IsS92 w0 W g f0 f1 f2) (ho : Kd.N d e W base ok v xs) (ht : e ≠ 92) : some g ≠ v.ownBlock := by
 obtain ⟨A0, c0, hb, hg, hr0⟩ := h
 exact Kd.N_ne ho hb ht
theorem IsS92.fresh {w0 W : World} {g : Nat} {f0 : List Int} {f1 : Int} {f2 : Int} (h : IsS92 w0 W g f0 f1 f2) : ∀ k, W.heap.size ≤ k → k ≠ g := by
 obtain ⟨A0, c0, hb, hg, hr0⟩ := h
 exact Kd.freshB hb
theorem IsS92.kept {w0 W : World} {g : Nat} {f0 : List Int} {f1 : Int} {f2 : Int} {W1 : World} {S : Nat → Prop} (h : IsS92 w0 W g f0 f1 f2) (hk : Kept W W1 S) (hne : ¬ S g) : IsS92 w0 W1 g f0 f1 f2 := by
 obtain ⟨A0, c0, hb, hg, hr0⟩ := h
 exact ⟨A0, c0, blk_kept hb hk hne, hg, hr0⟩
theorem IsS92.below {w0 W : World} {g : Nat} {f0 : List Int} {f1 : Int} {f2 : Int} {W1 : World} (h : IsS92 w0 W g f0 f1 f2) (hw : Below W.heap.size W W1) : IsS92 w0 W1 g f0 f1 f2 := h.grown (grown_of_below hw none) (by simp)
theorem IsS92.alloc {w0 W : World} {g : Nat} {f0 : List Int} {f1 : Int} {f2 : Int} (h : IsS92 w0 W g f0 f1 f2) (o : Obj) : IsS92 w0 (W.alloc o) g f0 f1 f2 := h.below (below_alloc (Below.refl _ _) o)
theorem IsS92.drewN {w0 W : World} {g : Nat} {f0 : List Int} {f1 : Int} {f2 : Int} (h : IsS92 w0 W g f0 f1 f2) (m : Nat) : IsS92 w0 (W.drewN m) g f0 f1 f2 := h
theorem IsS92.drew {w0 W : World} {g : Nat} {f0 : List Int} {f1 : Int} {f2 : Int} (h : IsS92 w0 W g f0 f1 f2) : IsS92 w0 W.drew g f0 f1 f2 := h
theorem IsS92.at_ {w0 W : World} {g : Nat} {f0 : List Int} {f1 : Int} {f2 : Int} {w' : World} {m : Nat} (hq : W.drewN m = w') (h : IsS92 w0 W g f0 f1 f2) : IsS92 w0 w' g f0 f1 f2 := by subst hq; exact IsS92.drewN h m
theorem IsS92.apart {w0 W : World} {g : Nat} {f0 : List Int} {f1 : Int} {f2 : Int} {α : Type} {d : Kd α} {e : Nat} {base : Nat} {ok : Nat → Prop} {v : Value} {xs : List α} (h : IsS92 w0 W g f0 f1 f2) (ho : d.R e W base ok v xs) (ht : ∀ q, q ∈ e :: d.E → q ≠ 92) : d.R e W base (fun k => ok k ∧ k ≠ g) v xs := by
 obtain ⟨A0, c0, hb, hg, hr0⟩ := h
 exact Kd.R_types ho hb ht
theorem IsS92.own_ne {w0 W : World} {g : Nat} {f0 : List Int} {f1 : Int} {f2 : Int} {α : Type} {d : Kd α} {e : Nat} {base : Nat} {ok : Nat → Prop} {v : Value} {xs : List α} (h : IsS92 w0 W g f0 f1 f2) (ho : d.R e W base ok v xs) (ht : e ≠ 92) : some g ≠ v.ownBlock := by
 obtain ⟨A0, c0, hb, hg, hr0⟩ := h
 exact Kd.R_ne ho hb ht
theorem IsS92.apartQ {w0 W : World} {g : Nat} {f0 : List Int} {f1 : Int} {f2 : Int} {α : Type} {d : Kd α} {e : Nat} {base : Nat} {ok : Nat → Prop} {v : Value} {xs : List α} (h : IsS92 w0 W g f0 f1 f2) (ho : d.Q e W base ok v xs) (ht : ∀ q, q ∈ e :: d.E → q ≠ 92) : d.Q e W base (fun k => ok k ∧ k ≠ g) v xs := by
 obtain ⟨A0, c0, hb, hg, hr0⟩ := h
 exact Kd.Q_types ho hb ht
theorem IsS92.own_neQ {w0 W : World} {g : Nat} {f0 : List Int} {f1 : Int} {f2 : Int} {α : Type} {d : Kd α} {e : Nat} {base : Nat} {ok : Nat → Prop} {v : Value} {xs : List α} (h : IsS92 w0 W g f0 f1 f2) (ho : d.Q e W base ok v xs) (ht : e ≠ 92) : some g ≠ v.ownBlock := by
 obtain ⟨A0, c0, hb, hg, hr0⟩ := h
 exact Kd.Q_ne ho hb ht
theorem IsS92.apartS {w0 W : World} {g : Nat} {f0 : List Int} {f1 : Int} {f2 : Int} {α : Type} {d : Kd α} {e : Nat} {base : Nat} {ok : Nat → Prop} {v : Value} {xs : List α} (h : IsS92 w0 W g f0 f1 f2) (ho : d.S e W base ok v xs) (ht : ∀ q, q ∈ e :: d.E → q ≠ 92) : d.S e W base (fun k => ok k ∧ k ≠ g) v xs := by
 obtain ⟨A0, c0, hb, hg, hr0⟩ := h
 exact Kd.S_types ho hb ht
theorem IsS92.own_neS {w0 W : World} {g : Nat} {f0 : List Int} {f1 : Int} {f2 : Int} {α : Type} {d : Kd α} {e : Nat} {base : Nat} {ok : Nat → Prop} {v : Value} {xs : List α} (h : IsS92 w0 W g f0 f1 f2) (ho : d.S e W base ok v xs) (ht : e ≠ 92) : some g ≠ v.ownBlock := by
 obtain ⟨A0, c0, hb, hg, hr0⟩ := h
 exact Kd.S_ne ho hb ht
theorem IsS92.lt {w0 W : World} {g : Nat} {f0 : List Int} {f1 : Int} {f2 : Int} (h : IsS92 w0 W g f0 f1 f2) : g < W.heap.size := by
 obtain ⟨A0, c0, hb, hg, hr0⟩ := h
 exact blk_lt hb
theorem IsS92.ge {w0 W : World} {g : Nat} {f0 : List Int} {f1 : Int} {f2 : Int} (h : IsS92 w0 W g f0 f1 f2) : w0.heap.size ≤ g := by
 obtain ⟨A0, c0, hb, hg, hr0⟩ := h
 exact hg
theorem IsS92.ne_blk {w0 W : World} {g : Nat} {f0 : List Int} {f1 : Int} {f2 : Int} {a : Nat} {cs : Array Value} {t : TypeId} {fr : Nat × Nat} (h : IsS92 w0 W g f0 f1 f2) (hb2 : W.heap[a]? = some (.cells cs t fr)) (ht : t ≠ 92) : g ≠ a := by
 obtain ⟨A0, c0, hb, hg, hr0⟩ := h
 rintro rfl
 rw [hb] at hb2
 injection hb2 with hb2
 injection hb2 with _ ht2
 exact ht ht2.symm
theorem IsS92.far {w0 W : World} {g : Nat} {f0 : List Int} {f1 : Int} {f2 : Int} {p : Addr} (h : IsS92 w0 W g f0 f1 f2) (hne : g ≠ p.block) (u : Value) : IsS92 w0 (W.setCell p u) g f0 f1 f2 := by
 obtain ⟨A0, c0, hb, hg, hr0⟩ := h
 exact ⟨A0, c0, blk_far hb hne u, hg, hr0⟩
theorem cellS92_0 {W : World} {g : Nat} {A0 : Option Addr} {c0 : Nat} {f0 : List Int} {f1 : Int} {f2 : Int} (h : W.heap[g]? = some (.cells #[.slice A0 f0.length c0, .int .i64 f1, .int .i64 f2] 92 (0, 0))) : W.cell? ⟨g, 0, none⟩ = some (.slice A0 f0.length c0) := (jG h 0).trans rfl
theorem cellS92_1 {W : World} {g : Nat} {A0 : Option Addr} {c0 : Nat} {f0 : List Int} {f1 : Int} {f2 : Int} (h : W.heap[g]? = some (.cells #[.slice A0 f0.length c0, .int .i64 f1, .int .i64 f2] 92 (0, 0))) : W.cell? ⟨g, 1, none⟩ = some (.int .i64 f1) := (jG h 1).trans rfl
theorem IsS92.set_1 {w0 W : World} {g : Nat} {f0 : List Int} {f1 : Int} {f2 : Int} (h : IsS92 w0 W g f0 f1 f2) (x : Int) : IsS92 w0 (W.setCell ⟨g, 1, none⟩ (.int .i64 x)) g f0 x f2 := by
 obtain ⟨A0, c0, hb, hg, hr0⟩ := h
 exact ⟨A0, c0, by simpa using blk_set hb 1 (.int .i64 x), hg, hr0⟩
theorem cellS92_2 {W : World} {g : Nat} {A0 : Option Addr} {c0 : Nat} {f0 : List Int} {f1 : Int} {f2 : Int} (h : W.heap[g]? = some (.cells #[.slice A0 f0.length c0, .int .i64 f1, .int .i64 f2] 92 (0, 0))) : W.cell? ⟨g, 2, none⟩ = some (.int .i64 f2) := (jG h 2).trans rfl
theorem IsS92.set_2 {w0 W : World} {g : Nat} {f0 : List Int} {f1 : Int} {f2 : Int} (h : IsS92 w0 W g f0 f1 f2) (x : Int) : IsS92 w0 (W.setCell ⟨g, 2, none⟩ (.int .i64 x)) g f0 f1 x := by
 obtain ⟨A0, c0, hb, hg, hr0⟩ := h
 exact ⟨A0, c0, by simpa using blk_set hb 2 (.int .i64 x), hg, hr0⟩
theorem IsS92.new (w0 W : World) (A0 : Option Addr) (c0 : Nat) (f0 : List Int) (f1 : Int) (f2 : Int) (hB : Below w0.heap.size w0 W) (hr0 : Kd.C (Kd.int .u8) w0 A0 f0.length f0) : IsS92 w0 (W.alloc (.cells #[.slice A0 f0.length c0, .int .i64 f1, .int .i64 f2] 92)) W.heap.size f0 f1 f2 := ⟨A0, c0, by simpa using heap_alloc_new W _, hB.size, hr0⟩
theorem zr10 {p q r0 r1 r2 r3 r4 : Prop} (H : Aside0 q) (G0 : Aside0 r0) (G1 : Aside0 r1) (G2 : Aside0 r2) (G3 : Aside0 r3) (G4 : Aside0 r4) (h : q → r0 → r1 → r2 → r3 → r4 → p := by intro h_ g0_ g1_ g2_ g3_ g4_; repeat (first | (with_reducible first | exact h_ | apply below_alloc | apply pw_below_drewN | apply below_drew1 | refine below_set ?_ (Nat.le_trans g0_ g1_) | refine below_set ?_ (IsS92.ge g2_) | refine below_set ?_ g3_ | refine below_set ?_ g4_) | exact h_)) : p := h H.out G0.out G1.out G2.out G3.out G4.out
theorem zr8 {p q r0 r1 r2 : Prop} (H : Aside0 q) (G0 : Aside0 r0) (G1 : Aside0 r1) (G2 : Aside0 r2) (h : q → r0 → r1 → r2 → p := by intro h_ g0_ g1_ g2_; repeat (first | (with_reducible first | exact h_ | apply IsS92.alloc | apply IsS92.drewN | apply IsS92.drew | apply IsS92.set_1 | apply IsS92.set_2 | refine IsS92.far ?_ g0_ _ | refine IsS92.far ?_ g1_ _ | refine IsS92.far ?_ g2_ _) | exact h_)) : p := h H.out G0.out G1.out G2.out
theorem zr7 {p q r0 r1 r2 : Prop} (H : Aside0 q) (G0 : Aside0 r0) (G1 : Aside0 r1) (G2 : Aside0 r2) (h : q → r0 → r1 → r2 → p := by intro h_ g0_ g1_ g2_; repeat (first | (with_reducible first | exact h_ | apply below_alloc | apply pw_below_drewN | apply below_drew1 | refine below_set ?_ (IsS92.ge g0_) | refine below_set ?_ g1_ | refine below_set ?_ g2_) | exact h_)) : p := h H.out G0.out G1.out G2.out
theorem zr6 {p q r0 r1 : Prop} (H : Aside0 q) (G0 : Aside0 r0) (G1 : Aside0 r1) (h : q → r0 → r1 → p := by intro h_ g0_ g1_; repeat (first | (with_reducible first | exact h_ | apply IsS92.alloc | apply IsS92.drewN | apply IsS92.drew | apply IsS92.set_1 | apply IsS92.set_2 | refine IsS92.far ?_ g0_ _ | refine IsS92.far ?_ g1_ _) | exact h_)) : p := h H.out G0.out G1.out
theorem zr5 {p q r0 r1 : Prop} (H : Aside0 q) (G0 : Aside0 r0) (G1 : Aside0 r1) (h : q → r0 → r1 → p := by intro h_ g0_ g1_; repeat (first | (with_reducible first | exact h_ | apply below_alloc | apply pw_below_drewN | apply below_drew1 | refine below_set ?_ (IsS92.ge g0_) | refine below_set ?_ g1_) | exact h_)) : p := h H.out G0.out G1.out
theorem zr4 {p q r0 : Prop} (H : Aside0 q) (G0 : Aside0 r0) (h : q → r0 → p := by intro h_ g0_; repeat (first | (with_reducible first | exact h_ | apply IsS92.alloc | apply IsS92.drewN | apply IsS92.drew | apply IsS92.set_1 | apply IsS92.set_2 | refine IsS92.far ?_ g0_ _) | exact h_)) : p := h H.out G0.out
theorem zr3 {p q r0 : Prop} (H : Aside0 q) (G0 : Aside0 r0) (h : q → r0 → p := by intro h_ g0_; repeat (first | (with_reducible first | exact h_ | apply below_alloc | apply pw_below_drewN | apply below_drew1 | refine below_set ?_ (IsS92.ge g0_)) | exact h_)) : p := h H.out G0.out
theorem zr2 {p q : Prop} (H : Aside0 q) (h : q → p := by intro h_; repeat (first | (with_reducible first | exact h_ | apply IsS92.alloc | apply IsS92.drewN | apply IsS92.drew | apply IsS92.set_1 | apply IsS92.set_2) | exact h_)) : p := h H.out

/-! ### spec_l01From: function 75 -/
def spec_l01From.l0 : Nat → List Int → Int → List Int → Int → Int → Option (List Int × Int × Int)
 | 0, _, _, _, _, _ => none
 | k + 1, x0, x4, x212000, x212001, x212002 => if x4 < (x0.length : Int) then (if x4 < 64 then (if 0 ≤ x4 then (spec_l01From.l0 k x0 (wrap64 (x4 + 1)) x212000 x212001 (Int.tmod (wrap64 ((wrap64 (x212002 * 83)) + (wrap64 (rd x0 x4)))) 2147483647)) else (none)) else (some (x212000, x212001, x212002))) else (some (x212000, x212001, x212002))
def spec_l01From.f (k : Nat) (l0 : List Int) : Option (List Int × Int × Int) := spec_l01From.l0 k l0 0 l0 0 61043
theorem spec_l01From.mono_l : ∀ k, (∀ y0 y1 y2 y3 y4, LeO (spec_l01From.l0 k y0 y1 y2 y3 y4) (spec_l01From.l0 (k + 1) y0 y1 y2 y3 y4))
 | 0 => fun _ _ _ _ _ r h => by simp [spec_l01From.l0] at h
 | k + 1 => by
  have ih0 := spec_l01From.mono_l k
  ·intro y0 y1 y2 y3 y4
   unfold spec_l01From.l0
   repeat' first
   | (with_reducible exact ih0 _ _ _ _ _)
   | (with_reducible exact LeO.refl _)
   | (with_reducible exact LeO.none _)
   | (with_reducible refine LeO.ite ?_ ?_)
   | (with_reducible refine LeO.bind ?_ (fun _ => ?_))
   | exact ih0 _ _ _ _ _
   | exact LeO.none _
   | refine LeO.ite ?_ ?_
   | refine LeO.bind ?_ (fun _ => ?_)
theorem spec_l01From.mono : ∀ a0 k, LeO (spec_l01From.f k a0) (spec_l01From.f (k + 1) a0) := by
 intro a0 k
 have ih0 := spec_l01From.mono_l k
 unfold spec_l01From.f
 repeat' first
   | (with_reducible exact ih0 _ _ _ _ _)
   | (with_reducible exact LeO.refl _)
   | (with_reducible exact LeO.none _)
   | (with_reducible refine LeO.ite ?_ ?_)
   | (with_reducible refine LeO.bind ?_ (fun _ => ?_))
   | exact ih0 _ _ _ _ _
   | exact LeO.none _
   | refine LeO.ite ?_ ?_
   | refine LeO.bind ?_ (fun _ => ?_)
def spec_l01From.T5 : Bool × List (List Nat × List Nat) := (true, [([], []), ([], []), ([1], [1]), ([2], [2]), ([3], [3]), ([4], [4]), ([], []), ([], []), ([6, 7], [6, 7]), ([8], [8]), ([9], [9]), ([5, 10], [5, 10]), ([11], [11]), ([0, 0, 1, 2, 3, 4, 5, 6, 7, 8, 9, 10, 11, 12], [0]), ([13, 0, 1, 2, 3, 4, 5, 6, 7, 8, 9, 10, 11, 12], [13]), ([14, 12, 0, 1, 2, 3, 4, 5, 6, 7, 8, 9, 10, 11, 12], [12, 14])])
def spec_l01From.B5 : List Nat := [0, 0, 2, 6, 14, 30, 0, 0, 192, 448, 960, 2046, 4094, 8191, 16383, 32767]
theorem spec_l01From.tab5 : rtab .any (opsOf Try.f75 5) = spec_l01From.T5 := by kernel_rfl
theorem spec_l01From.bits5 : waitsOk spec_l01From.T5.2 spec_l01From.B5 = true := by kernel_rfl
set_option maxHeartbeats 8000000 in
set_option maxRecDepth 100000 in
theorem spec_l01From.calls (k : Nat) (A0 : Option Addr) (c0 : Nat) (l0 : List Int) (r1 : List Int) (r2 : Int) (r3 : Int) (w0 w : World) (hB : Below w0.heap.size w0 w) (hr0 : Kd.C (Kd.int .u8) w0 A0 l0.length l0) (hc0 : l0.length ≤ c0) (h : spec_l01From.f k l0 = some (r1, r2, r3)) :
  Calls Try.prog 75 #[.slice A0 l0.length c0] w fun e w' => ∃ g_ : Nat, e = .returned (.pointer (some ⟨g_, 0, none⟩)) ∧ IsS92 w0 w' g_ r1 r2 r3 ∧ Below w0.heap.size w0 w' ∧ Below w.heap.size w w' := by
 have hu92 := Try.underlying92
 have HR0 := jA hr0
 have HC0 := jA hc0
 clear hr0 hc0
 have HBW := jA (Below.refl w.heap.size w)
 have HW0 := jA hB.size
 have HB := jA hB
 clear hB
 have H : (spec_l01From.l0 k l0 0 l0 0 61043) = some (r1, r2, r3) := h
 clear h
 have H' := jA H
 clear H
 go_enter Try.func75, Try.ntmps75
 go_wp2_with (first | ((with_reducible refine jL (N := 7) rfl ?_); refine zE 7 #[.slice A0 l0.length c0, .int .i64 0, .int .i64 61043] 92 ?_; intro gb211 hg w2 hbox hb; replace HB := zS0 HB hb; have BK211 := jA (hbox); have GW211 := jA ((by rw [hg]; exact (jW (zr0 HBW)) : w.heap.size ≤ gb211)); have GE211 := jA ((Nat.le_trans HW0.out (by rw [hg]; exact (jW (zr0 HBW)) : w.heap.size ≤ gb211) : w0.heap.size ≤ gb211)); replace HBW := jA (jV HBW.out hb); clear hb hbox hg))
 go_loopg [4] k (fun kq v4 w' => ∃ (x4_1 : Int) (x212002_1 : Int), v4 = .int .i64 x4_1 ∧ Aside0 (spec_l01From.l0 kq l0 x4_1 l0 0 x212002_1 = some (r1, r2, r3)) ∧ Aside0 (kq ≤ k) ∧ Aside0 (w'.heap[gb211]? = some (.cells #[(.slice A0 l0.length c0), .int .i64 0, .int .i64 x212002_1] 92 (0, 0))) ∧ Aside0 (Below w0.heap.size w0 w') ∧ Aside0 (Below w.heap.size w w'))
 case atStart => exact ⟨(0), (61043), zz, H', ⟨Nat.le_refl _⟩, ⟨zk BK211⟩, ⟨zb1 HB GE211⟩, ⟨zr1 HBW GW211⟩⟩
 case round =>
  clear H'
  try clear p2
  obtain ⟨x4_1, x212002_1, rfl, HA, HK1, BK211, HB, HBW⟩ := hrel
  cases gk with
  | zero => exact absurd HA.out (by simp [spec_l01From.l0])
  | succ k1 =>
   have H := HA.out
   clear HA
   simp only [spec_l01From.l0] at H
   by_cases c3 : x4_1 < (l0.length : Int)
   ·rw [if_pos c3] at H
    have c3b0 : decide (x4_1 < (l0.length : Int)) = true := jJ c3
    clear c3
    by_cases c4 : x4_1 < 64
    ·rw [if_pos c4] at H
     have c4b0 : decide (x4_1 < 64) = true := jJ c4
     clear c4
     by_cases c5 : 0 ≤ x4_1
     ·rw [if_pos c5] at H
      have c5b0 : decide (0 ≤ x4_1) = true := jJ c5
      clear c5
      have H' := jA H
      clear H
      try go_wp2
      have n0_ := jA (blk_drew BK211.out)
      have n1_ := jA (below_drew1 HB.out)
      have n2_ := jA (below_drew1 HBW.out)
      clear HBW
      have HBW := n2_
      clear n2_
      clear BK211
      clear HB
      have BK211 := n0_
      have HB := n1_
      clear n0_ n1_
      have p212 : 0 ≤ (x4_1 : Int) := jC za
      have q212 : x4_1 < (l0.length : Int) := jC za
      obtain ⟨ad212, e212, hx212_0⟩ := Kd.at_int HR0.out x4_1 p212 q212
      have hw212_0 := hx212_0
      cases e212
      replace hx212_0 := pw_cell_below HB.out hx212_0
      replace p212 := eq_true p212
      replace q212 := eq_true q212
      refine start_ (n := 16) (S := fun w' => w'.cell? ⟨gb211, 0, none⟩ = some (.slice (some ad212) l0.length c0) ∧ w'.cell? ⟨gb211, 1, none⟩ = some (.int .i64 0) ∧ w'.cell? ⟨gb211, 2, none⟩ = some (.int .i64 x212002_1) ∧ w'.cell? (ad212.add (x4_1).toNat) = some (.int .u8 (rd l0 x4_1))) (ds := [15]) m16_0 zr rfl rfl ⟨(jG BK211.out 0).trans rfl, (jG BK211.out 1).trans rfl, (jG BK211.out 2).trans rfl, ((HB.out.cell (World.block_lt_of_cell? _ _ hw212_0)).trans hw212_0)⟩ (fun hHeld => ?_); refine with_tabW spec_l01From.tab5 spec_l01From.bits5 (fun HT_ HW_ => ?_)
      generalize wr.drew = w6 at BK211 HB HBW hx212_0 hHeld ⊢
      refine zp HT_ 0 18 m16_8000 ?_
      refine zp HT_ 1 19 #[true, true, false, false, false, false, false, false, false, false, false, false, false, false, false, false] ?_
      refine zp HT_ 2 20 #[true, true, true, false, false, false, false, false, false, false, false, false, false, false, false, false] ?_
      refine zp HT_ 3 21 #[true, true, true, true, false, false, false, false, false, false, false, false, false, false, false, false] ?_
      refine zp HT_ 6 24 #[true, true, true, true, false, false, true, false, false, false, false, false, false, false, false, false] ?_
      refine zp HT_ 7 25 #[true, true, true, true, false, false, true, true, false, false, false, false, false, false, false, false] ?_
      refine zp HT_ 8 26 #[true, true, true, true, false, false, true, true, true, false, false, false, false, false, false, false] ?_
      refine zt4 HT_ HW_ hHeld 4 22 #[true, true, true, true, true, false, true, true, true, false, false, false, false, false, false, false] ?_
      refine zp HT_ 5 23 m16_ff80 ?_
      refine zt4 HT_ HW_ hHeld 9 27 m16_ffc0 ?_
      refine zp HT_ 10 28 m16_ffe0 ?_
      refine zp HT_ 11 29 m16_fff0 ?_
      refine zp HT_ 12 30 m16_fff8 ?_
      refine zp HT_ 13 31 m16_fffc ?_
      refine zp HT_ 14 32 m16_fffe ?_
      refine last_ (i := 15) (N := none) m16_ffff rfl rfl (one_of HT_.out zr) (by decide) (fun K hK => ?_)
      have hs7 : w6.cell? ⟨gb211, 2, none⟩ = some (.int .i64 x212002_1) := (jG BK211.out 2).trans rfl
      have hfs7 := blk_frozen BK211.out 2
      refine skip_ (w1 := ?_) (by rfl) rfl ?_ ?_
      rotate_left
      ·go_simp
       rfl
      refine hK.out _ _ ?_
      clear hK K
      refine done_ (done_of HT_.out zr) ?_
      try go_wp2
      go_roundg k1
      case measure => have := HK1.out; omega
      case rel => exact ⟨(wrap64 (x4_1 + 1)), (Int.tmod (wrap64 ((wrap64 (x212002_1 * 83)) + (wrap64 (rd l0 x4_1)))) 2147483647), zz, H', ⟨by have := HK1.out; omega⟩, ⟨zP0 BK211⟩, ⟨zb1 HB GE211⟩, ⟨zr1 HBW GW211⟩⟩
     ·rw [if_neg c5] at H
      exact absurd H (by simp)
    ·rw [if_neg c4] at H
     have c4b0 : decide (x4_1 < 64) = false := jQ c4
     clear c4
     simp only [jN, jO] at H
     obtain ⟨rfl, rfl, rfl⟩ := H
     go_wp2
     go_ret
     exact ⟨_, rfl, (show IsS92 w0 _ gb211 l0 0 x212002_1 from ⟨_, _, zk BK211, GE211.out, HR0.out⟩), zb1 HB GE211, zr1 HBW GW211⟩
   ·rw [if_neg c3] at H
    have c3b0 : decide (x4_1 < (l0.length : Int)) = false := jQ c3
    clear c3
    simp only [jN, jO] at H
    obtain ⟨rfl, rfl, rfl⟩ := H
    go_wp2
    go_ret
    exact ⟨_, rfl, (show IsS92 w0 _ gb211 l0 0 x212002_1 from ⟨_, _, zk BK211, GE211.out, HR0.out⟩), zb1 HB GE211, zr1 HBW GW211⟩

end Go.Proofs.Ytdgglhfnlljmeaa.PFnMagazines
