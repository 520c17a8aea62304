/- Functions and contracts that FnExactMovePieces reaches (19 of 24). -/
import Derived.Test.YtdgglhfnlljmeaaQFnExactMovePiecesx17
namespace Go.Proofs.Ytdgglhfnlljmeaa.PFnExactMovePieces
open Go.RowKit Go.Proofs.YtdgglhfnlljmeaaW.PrintWords Go.Proofs.YtdgglhfnlljmeaaW.PrintLast Go.Proofs.YtdgglhfnlljmeaaW.PrintMore
attribute [local go_sem] max2_int min2_int max_two min_two max_three min_three max_four min_four   -- for this text's walks alone
set_option linter.unusedVariables false
set_option linter.unusedSimpArgs false
open Go.Proofs.YtdgglhfnlljmeaaX

/-! ### impl_MovePieces: function 18 -/
def impl_MovePieces.j0 : Nat → List (S65) → ByteArray → Int → Bool → Int → List Int → Int → List Int → Option (Int × List Int × Int × List Int × Int)
 | 0, _, _, _, _, _, _, _, _ => none
 | k + 1, x0, x3, x4, x25, x320000, x320001, x321000, x321001 => if x25 = true then (some (0, ([] : List Int), 0, ([] : List Int), 1)) else ((impl_TakePieces.f k x0 x320000 x320001 x3 x4).bind fun bt325 => (if bt325.2.2 = 0 then ((impl_StorePieces.f k x0 x321000 x321001 x3 x4).bind fun bt331 => (if bt331.2.2 = 0 then (some (bt325.1, bt325.2.1, bt331.1, bt331.2.1, 0)) else (some (0, ([] : List Int), 0, ([] : List Int), bt331.2.2)))) else (some (0, ([] : List Int), 0, ([] : List Int), bt325.2.2))))
def impl_MovePieces.f (k : Nat) (l0 : List (S65)) (a1_0 : Int) (l1_1 : List Int) (a2_0 : Int) (l2_1 : List Int) (a3 : ByteArray) (a4 : Int) : Option (Int × List Int × Int × List Int × Int) := (impl_IsMagazine.f k l0 a1_0 l1_1).bind fun t323 => (if t323 = true then ((impl_IsMagazine.f k l0 a2_0 l2_1).bind fun t324 => (impl_MovePieces.j0 k l0 a3 a4 (!t324) a1_0 l1_1 a2_0 l2_1)) else (impl_MovePieces.j0 k l0 a3 a4 true a1_0 l1_1 a2_0 l2_1))
theorem impl_MovePieces.mono_l : ∀ k, (∀ y0 y1 y2 y3 y4 y5 y6 y7, LeO (impl_MovePieces.j0 k y0 y1 y2 y3 y4 y5 y6 y7) (impl_MovePieces.j0 (k + 1) y0 y1 y2 y3 y4 y5 y6 y7))
 | 0 => fun _ _ _ _ _ _ _ _ r h => by simp [impl_MovePieces.j0] at h
 | k + 1 => by
  have ih0 := impl_MovePieces.mono_l k
  ·intro y0 y1 y2 y3 y4 y5 y6 y7
   unfold impl_MovePieces.j0
   repeat' first
   | (with_reducible exact ih0 _ _ _ _ _ _ _ _)
   | (with_reducible exact impl_IsMagazine.mono _ _ _ _)
   | (with_reducible exact impl_StorePieces.mono _ _ _ _ _ _)
   | (with_reducible exact impl_TakePieces.mono _ _ _ _ _ _)
   | (with_reducible exact LeO.refl _)
   | (with_reducible exact LeO.none _)
   | (with_reducible refine LeO.ite ?_ ?_)
   | (with_reducible refine LeO.bind ?_ (fun _ => ?_))
   | exact ih0 _ _ _ _ _ _ _ _
   | exact impl_IsMagazine.mono _ _ _ _
   | exact impl_StorePieces.mono _ _ _ _ _ _
   | exact impl_TakePieces.mono _ _ _ _ _ _
   | exact LeO.none _
   | refine LeO.ite ?_ ?_
   | refine LeO.bind ?_ (fun _ => ?_)
theorem impl_MovePieces.mono : ∀ a0 a1 a2 a3 a4 a5 a6 k, LeO (impl_MovePieces.f k a0 a1 a2 a3 a4 a5 a6) (impl_MovePieces.f (k + 1) a0 a1 a2 a3 a4 a5 a6) := by
 intro a0 a1 a2 a3 a4 a5 a6 k
 have ih0 := impl_MovePieces.mono_l k
 unfold impl_MovePieces.f
 repeat' first
   | (with_reducible exact ih0 _ _ _ _ _ _ _ _)
   | (with_reducible exact impl_IsMagazine.mono _ _ _ _)
   | (with_reducible exact impl_StorePieces.mono _ _ _ _ _ _)
   | (with_reducible exact impl_TakePieces.mono _ _ _ _ _ _)
   | (with_reducible exact LeO.refl _)
   | (with_reducible exact LeO.none _)
   | (with_reducible refine LeO.ite ?_ ?_)
   | (with_reducible refine LeO.bind ?_ (fun _ => ?_))
   | exact ih0 _ _ _ _ _ _ _ _
   | exact impl_IsMagazine.mono _ _ _ _
   | exact impl_StorePieces.mono _ _ _ _ _ _
   | exact impl_TakePieces.mono _ _ _ _ _ _
   | exact LeO.none _
   | refine LeO.ite ?_ ?_
   | refine LeO.bind ?_ (fun _ => ?_)
set_option maxHeartbeats 8000000 in
set_option maxRecDepth 100000 in
theorem impl_MovePieces.calls (k : Nat) (A0 : Option Addr) (c0 : Nat) (l0 : List (S65)) (a1_0 : Int) (A1_1 : Option Addr) (c1_1 : Nat) (l1_1 : List Int) (a2_0 : Int) (A2_1 : Option Addr) (c2_1 : Nat) (l2_1 : List Int) (a3 : ByteArray) (a4 : Int) (r1 : Int) (r2 : List Int) (r3 : Int) (r4 : List Int) (r5 : Int) (w : World) (hr0 : Kd.C k65 w A0 l0.length l0) (hc0 : l0.length ≤ c0) (hr1_1 : Kd.C (Kd.int .i64) w A1_1 l1_1.length l1_1) (hc1_1 : l1_1.length ≤ c1_1) (hr2_1 : Kd.C (Kd.int .i64) w A2_1 l2_1.length l2_1) (hc2_1 : l2_1.length ≤ c2_1) (h : impl_MovePieces.f k l0 a1_0 l1_1 a2_0 l2_1 a3 a4 = some (r1, r2, r3, r4, r5)) :
  Calls Try.prog 18 #[.slice A0 l0.length c0, .agg #[.int .i64 a1_0, .slice A1_1 l1_1.length c1_1], .agg #[.int .i64 a2_0, .slice A2_1 l2_1.length c2_1], .string a3, .int .i64 a4] w fun e w' => ∃ v1_ v3_ : Value, e = .returned (.tuple #[.agg #[.int .i64 r1, v1_], .agg #[.int .i64 r3, v3_], .int .i64 r5]) ∧ Kd.R (Kd.int .i64) 2 w' w.heap.size (fun k_ => some k_ ≠ (v3_ : Value).ownBlock) v1_ r2 ∧ Kd.R (Kd.int .i64) 2 w' w.heap.size (fun k_ => some k_ ≠ (v1_ : Value).ownBlock) v3_ r4 ∧ Below w.heap.size w w' := by
 have hu28 := Try.underlying28
 have HR0 := jA hr0
 have HC0 := jA hc0
 clear hr0 hc0
 have HR1_1 := jA hr1_1
 have HC1_1 := jA hc1_1
 clear hr1_1 hc1_1
 have HR2_1 := jA hr2_1
 have HC2_1 := jA hc2_1
 clear hr2_1 hc2_1
 have HB := jA (Below.refl w.heap.size w)
 have H := h
 unfold impl_MovePieces.f at H
 clear h
 have HC6 := jA H
 clear H
 go_enter Try.func18, Try.ntmps18
 go_upto_region 1 with (first | ((with_reducible refine jJ (N := 6) rfl ?_); refine zE 6 #[.int .i64 a1_0, .slice A1_1 l1_1.length c1_1] 28 ?_; intro gb319 hg w7 hbox hb; have BK319 := jA (hbox); have GW319 := zg0 hg HB; have GE319 := zg0 hg HB; replace HB := zS0 HB hb; clear hb hbox hg) | ((with_reducible refine jJ (N := 7) rfl ?_); refine zE 7 #[.int .i64 a2_0, .slice A2_1 l2_1.length c2_1] 28 ?_; intro gb320 hg w8 hbox hb; have BK320 := jA (hbox); have GW320 := zg1 hg HB GE319; have GE320 := zg1 hg HB GE319; replace HB := zS1 HB GE319 hb; have NB319_320 := zn hg BK319; replace BK319 := zB BK319 hb; have NB320_319 := jA NB319_320.out.symm; clear hb hbox hg) | ((with_reducible refine jJ (N := 10) rfl ?_); refine zE 10 #[.int .i64 0, .slice none 0 0] 28 ?_; intro gb321 hg w9 hbox hb; have BK321 := jA (hbox); have GW321 := zg2 hg HB GE319 GE320; have GE321 := zg2 hg HB GE319 GE320; replace HB := zS2 HB GE319 GE320 hb; have NB319_321 := zn hg BK319; replace BK319 := zB BK319 hb; have NB321_319 := jA NB319_321.out.symm; have NB320_321 := zn hg BK320; replace BK320 := zB BK320 hb; have NB321_320 := jA NB320_321.out.symm; clear hb hbox hg) | ((with_reducible refine jJ (N := 11) rfl ?_); refine zE 11 #[.int .i64 0, .slice none 0 0] 28 ?_; intro gb322 hg w10 hbox hb; have BK322 := jA (hbox); have GW322 := zg3 hg HB GE319 GE320 GE321; have GE322 := zg3 hg HB GE319 GE320 GE321; replace HB := zS3 HB GE319 GE320 GE321 hb; have NB319_322 := zn hg BK319; replace BK319 := zB BK319 hb; have NB322_319 := jA NB319_322.out.symm; have NB320_322 := zn hg BK320; replace BK320 := zB BK320 hb; have NB322_320 := jA NB320_322.out.symm; have NB321_322 := zn hg BK321; replace BK321 := zB BK321 hb; have NB322_321 := jA NB321_322.out.symm; clear hb hbox hg))
 (try simp only [Act.put, jC, jE, jF])
 go_cut [25] (fun v25 wc => ∃ (kq : Nat) (x25_5 : Bool), v25 = .bool x25_5 ∧ Aside0 (impl_MovePieces.j0 kq l0 a3 a4 x25_5 a1_0 l1_1 a2_0 l2_1 = some (r1, r2, r3, r4, r5)) ∧ Aside0 (kq ≤ k) ∧ Aside0 (wc.heap[gb319]? = some (.cells #[.int .i64 a1_0, (.slice A1_1 l1_1.length c1_1)] 28 (0, 0))) ∧ Aside0 (wc.heap[gb320]? = some (.cells #[.int .i64 a2_0, (.slice A2_1 l2_1.length c2_1)] 28 (0, 0))) ∧ Aside0 (wc.heap[gb321]? = some (.cells #[.int .i64 0, (.slice none 0 0)] 28 (0, 0))) ∧ Aside0 (wc.heap[gb322]? = some (.cells #[.int .i64 0, (.slice none 0 0)] 28 (0, 0))) ∧ Aside0 (Below w.heap.size w wc))
 case first =>
  have H := HC6.out
  clear HC6
  replace H := jG.mp H
  obtain ⟨t323, A110, H⟩ := H
  try dsimp only at H
  have A11 := jA A110
  clear A110
  by_cases c12 : t323 = true
  ·subst c12
   rw [if_pos rfl] at H
   replace H := jG.mp H
   obtain ⟨t324, A130, H⟩ := H
   try dsimp only at H
   have A13 := jA A130
   clear A130
   have H' := jA H
   clear H
   have hnb14 := NB319_320.out
   have hnc14 := NB320_319.out
   have hnb15 := NB319_321.out
   have hnc15 := NB321_319.out
   have hnb16 := NB319_322.out
   have hnc16 := NB322_319.out
   have hcz17 := zc2 BK319
   go_wp2_with (first | ((with_reducible refine jK (f := 26) rfl ?_); refine zL (some 18) Try.func26 #[.slice A0 l0.length c0, .agg #[.int .i64 a1_0, .slice A1_1 l1_1.length c1_1]] ?_; (with_reducible refine (impl_IsMagazine.calls k _ _ l0 a1_0 _ _ l1_1 true _ ?side1 ?side2 ?side3 ?side4 A11.out).mono ?_); (case side1 => exact zs HR0 HB); (case side2 => exact HC0.out); (case side3 => exact zs HR1_1 HB); (case side4 => exact HC1_1.out); rintro e w18 ⟨rfl, hb⟩; refine ⟨_, rfl, ?_⟩; replace BK319 := zB BK319 hb; replace BK320 := zB BK320 hb; replace BK321 := zB BK321 hb; replace BK322 := zB BK322 hb; replace HB := zS4 HB GE319 GE320 GE321 GE322 hb; clear hb; have hnb19 := NB320_321.out; have hnc19 := NB321_320.out; have hnb20 := NB320_322.out; have hnc20 := NB322_320.out; have hcz21 := zc2 BK320) | (go_at_call 26; (with_reducible refine (impl_IsMagazine.calls k _ _ l0 a2_0 _ _ l2_1 t324 _ ?side1 ?side2 ?side3 ?side4 A13.out).mono ?_); (case side1 => exact zs HR0 HB); (case side2 => exact HC0.out); (case side3 => exact zs HR2_1 HB); (case side4 => exact HC2_1.out); rintro e w22 ⟨rfl, hb⟩; replace BK319 := zB BK319 hb; replace BK320 := zB BK320 hb; replace BK321 := zB BK321 hb; replace BK322 := zB BK322 hb; replace HB := zS4 HB GE319 GE320 GE321 GE322 hb; (try clear hb); (try clear hb2); (try clear hk); (try clear hi)))
   go_meet
   case rel => exact ⟨_, (!t324), zz, H', ⟨by first | omega | exact Nat.le_refl _⟩, ⟨zk BK319⟩, ⟨zk BK320⟩, ⟨zk BK321⟩, ⟨zk BK322⟩, ⟨zb4 HB GE319 GE320 GE321 GE322⟩⟩
  ·replace c12 := Bool.eq_false_iff.mpr c12
   subst c12
   rw [if_neg zfalse] at H
   have H' := jA H
   clear H
   have hnb23 := NB319_320.out
   have hnc23 := NB320_319.out
   have hnb24 := NB319_321.out
   have hnc24 := NB321_319.out
   have hnb25 := NB319_322.out
   have hnc25 := NB322_319.out
   have hcz26 := zc2 BK319
   go_wp2_with (first | ((with_reducible refine jK (f := 26) rfl ?_); refine zL (some 18) Try.func26 #[.slice A0 l0.length c0, .agg #[.int .i64 a1_0, .slice A1_1 l1_1.length c1_1]] ?_; (with_reducible refine (impl_IsMagazine.calls k _ _ l0 a1_0 _ _ l1_1 false _ ?side1 ?side2 ?side3 ?side4 A11.out).mono ?_); (case side1 => exact zs HR0 HB); (case side2 => exact HC0.out); (case side3 => exact zs HR1_1 HB); (case side4 => exact HC1_1.out); rintro e w27 ⟨rfl, hb⟩; refine ⟨_, rfl, ?_⟩; replace BK319 := zB BK319 hb; replace BK320 := zB BK320 hb; replace BK321 := zB BK321 hb; replace BK322 := zB BK322 hb; replace HB := zS4 HB GE319 GE320 GE321 GE322 hb; clear hb))
   go_meet
   case rel => exact ⟨_, (true), zz, H', ⟨by first | omega | exact Nat.le_refl _⟩, ⟨zk BK319⟩, ⟨zk BK320⟩, ⟨zk BK321⟩, ⟨zk BK322⟩, ⟨zb4 HB GE319 GE320 GE321 GE322⟩⟩
 case rest =>
  clear HC6
  try clear c1
  try clear c2
  try clear p2
  try clear c12
  try clear c14
  try clear c15
  try clear c16
  try clear c18
  try clear c19
  try clear c20
  try clear c23
  try clear c24
  try clear c25
  try clear c26
  try clear hcz17
  try clear hcz21
  try clear hcz26
  obtain ⟨kq, x25_5, rfl, HA, HJ5, BK319, BK320, BK321, BK322, HB⟩ := hcut
  cases kq with
  | zero => exact absurd HA.out (by simp [impl_MovePieces.j0])
  | succ kj5 =>
   have H := HA.out
   clear HA
   simp only [impl_MovePieces.j0] at H
   by_cases c28 : x25_5 = true
   ·subst c28
    rw [if_pos rfl] at H
    simp only [jN, jQ] at H
    obtain ⟨rfl, rfl, rfl, rfl, rfl⟩ := H
    have hnb29 := NB321_319.out
    have hnc29 := NB319_321.out
    have hnb30 := NB321_320.out
    have hnc30 := NB320_321.out
    have hnb31 := NB321_322.out
    have hnc31 := NB322_321.out
    have hcz32 := zc2 BK321
    have hnb33 := NB322_319.out
    have hnc33 := NB319_322.out
    have hnb34 := NB322_320.out
    have hnc34 := NB320_322.out
    have hcz35 := zc2 BK322
    go_wp2
    refine bodyPost_ret (results_list (rs := [.cell 10 28, .cell 11 28, .tmp 12]) rfl (by simp) (.cell gb321 28 #[.int .i64 0, .slice none 0 0] (0, 0) _ rfl (zP1 BK321 NB321_322) Try.underlying28 rfl zr (.cell gb322 28 #[.int .i64 0, .slice none 0 0] (0, 0) _ rfl (zP1 BK322 NB322_321) Try.underlying28 rfl zr (.tmp .nil)))) rfl ?_
    exact ⟨_, _, by first | rfl | (simp [errW_none, errW_some] <;> rfl) | (simp [*, errW_none, errW_some] <;> rfl), by first | exact Kd.R_nil _ _ _ _ _ | exact Kd.N_nil _ _ _ _ _ | exact Kd.V_nil _ _ _ _ _ | exact Kd.Q_nil _ _ _ _ _ | exact Kd.S_nil _ _ _ _ _, by first | exact Kd.R_nil _ _ _ _ _ | exact Kd.N_nil _ _ _ _ _ | exact Kd.V_nil _ _ _ _ _ | exact Kd.Q_nil _ _ _ _ _ | exact Kd.S_nil _ _ _ _ _, zb4 HB GE319 GE320 GE321 GE322⟩
   ·replace c28 := Bool.eq_false_iff.mpr c28
    subst c28
    rw [if_neg zfalse] at H
    replace H := jG.mp H
    obtain ⟨⟨t325, t326, t329⟩, A360, H⟩ := H
    try dsimp only at H
    have A36 := jA A360
    clear A360
    by_cases c37 : t329 = 0
    ·rw [if_pos c37] at H
     have c37b0 : (t329 == 0) = true := beq_iff_eq.mpr c37
     have c37b1 : (t329 != 0) = false := bne_eq_false_iff_eq.mpr c37
     clear c37
     replace H := jG.mp H
     obtain ⟨⟨t331, t332, t335⟩, A380, H⟩ := H
     try dsimp only at H
     have A38 := jA A380
     clear A380
     by_cases c39 : t335 = 0
     ·rw [if_pos c39] at H
      have c39b0 : (t335 == 0) = true := beq_iff_eq.mpr c39
      have c39b1 : (t335 != 0) = false := bne_eq_false_iff_eq.mpr c39
      clear c39
      simp only [jN, jQ] at H
      obtain ⟨rfl, rfl, rfl, rfl, rfl⟩ := H
      have hnb40 := NB319_320.out
      have hnc40 := NB320_319.out
      have hnb41 := NB319_321.out
      have hnc41 := NB321_319.out
      have hnb42 := NB319_322.out
      have hnc42 := NB322_319.out
      have hcz43 := zc2 BK319
      try go_wp2_with (first | ((with_reducible refine jK (f := 36) rfl ?_); refine zL (some 33) Try.func36 #[.slice A0 l0.length c0, .agg #[.int .i64 a1_0, .slice A1_1 l1_1.length c1_1], .string a3, .int .i64 a4] ?_; (with_reducible refine (impl_TakePieces.calls kj5 _ _ l0 a1_0 _ _ l1_1 a3 a4 t325 t326 t329 _ ?side1 ?side2 ?side3 ?side4 A36.out).mono ?_); (case side1 => exact zs HR0 HB); (case side2 => exact HC0.out); (case side3 => exact zs HR1_1 HB); (case side4 => exact HC1_1.out); rintro e w44 ⟨v327, rfl, ho0, hb⟩; refine ⟨_, rfl, ?_⟩; have HO328 := jA (Kd.R_lower ho0 (below_size (zb4 HB GE319 GE320 GE321 GE322))); replace BK319 := zB BK319 hb; replace BK320 := zB BK320 hb; replace BK321 := zB BK321 hb; replace BK322 := zB BK322 hb; replace HB := zS4 HB GE319 GE320 GE321 GE322 hb; (try clear hb); (try clear hb2); (try clear hk); (try clear hi); (try clear ho0)) | ((with_reducible refine jJ (N := 13) rfl ?_); refine zE 13 #[.int .i64 0, .slice none 0 0] 28 ?_; intro gb330 hg w45 hbox hb; replace HO328 := jA (Kd.R_below (zo HO328) hb); have BK330 := jA (hbox); have GW330 := zg4 hg HB GE319 GE320 GE321 GE322; have GE330 := zg4 hg HB GE319 GE320 GE321 GE322; replace HB := zS4 HB GE319 GE320 GE321 GE322 hb; have NB319_330 := zn hg BK319; replace BK319 := zB BK319 hb; have NB330_319 := jA NB319_330.out.symm; have NB320_330 := zn hg BK320; replace BK320 := zB BK320 hb; have NB330_320 := jA NB320_330.out.symm; have NB321_330 := zn hg BK321; replace BK321 := zB BK321 hb; have NB330_321 := jA NB321_330.out.symm; have NB322_330 := zn hg BK322; replace BK322 := zB BK322 hb; have NB330_322 := jA NB322_330.out.symm; clear hb hbox hg; have hnb46 := NB330_319.out; have hnc46 := NB319_330.out; have hnb47 := NB330_320.out; have hnc47 := NB320_330.out; have hnb48 := NB330_321.out; have hnc48 := NB321_330.out; have hnb49 := NB330_322.out; have hnc49 := NB322_330.out; have hcz50 := zc2 BK330; obtain ⟨Ao51, co51, eo51⟩ := Kd.R_slice HO328.out; subst eo51; have hnb52 := NB320_321.out; have hnc52 := NB321_320.out; have hnb53 := NB320_322.out; have hnc53 := NB322_320.out; have hcz54 := zc2 BK320) | ((with_reducible refine jK (f := 39) rfl ?_); refine zL (some 46) Try.func39 #[.slice A0 l0.length c0, .agg #[.int .i64 a2_0, .slice A2_1 l2_1.length c2_1], .string a3, .int .i64 a4] ?_; (with_reducible refine (impl_StorePieces.calls kj5 _ _ l0 a2_0 _ _ l2_1 a3 a4 t331 t332 t335 _ ?side1 ?side2 ?side3 ?side4 A38.out).mono ?_); (case side1 => exact Kd.C_below HR0.out (zb5 HB GE319 GE320 GE321 GE322 GE330)); (case side2 => exact HC0.out); (case side3 => exact Kd.C_below HR2_1.out (zb5 HB GE319 GE320 GE321 GE322 GE330)); (case side4 => exact HC2_1.out); rintro e w55 ⟨v333, rfl, ho0, hb⟩; refine ⟨_, rfl, ?_⟩; have HO334 := jA (Kd.R_lower (Kd.R_new' ho0 (Kd.R_lt (zU HO328 BK330))) (below_size (zb5 HB GE319 GE320 GE321 GE322 GE330))); replace HO328 := jA (Kd.R_elder' (zU HO328 BK330) (Kd.R_base ho0) hb); replace BK319 := jA (jO (g := gb319) (o := .cells #[.int .i64 a1_0, .slice A1_1 l1_1.length c1_1] 28 (0, 0)) (zQ1 BK319 NB319_330) hb); replace BK320 := jA (jO (g := gb320) (o := .cells #[.int .i64 a2_0, .slice A2_1 l2_1.length c2_1] 28 (0, 0)) (zQ1 BK320 NB320_330) hb); replace BK321 := jA (jO (g := gb321) (o := .cells #[.int .i64 0, .slice none 0 0] 28 (0, 0)) (zQ1 BK321 NB321_330) hb); replace BK322 := jA (jO (g := gb322) (o := .cells #[.int .i64 0, .slice none 0 0] 28 (0, 0)) (zQ1 BK322 NB322_330) hb); replace BK330 := jA (jO (g := gb330) (o := .cells #[.int .i64 t325, .slice Ao51 t326.length co51] 28 (0, 0)) (zP0 BK330) hb); replace HB := zS5 HB GE319 GE320 GE321 GE322 GE330 hb; (try clear hb); (try clear hb2); (try clear hk); (try clear hi); (try clear ho0)) | ((with_reducible refine jJ (N := 15) rfl ?_); refine zE 15 #[.int .i64 0, .slice none 0 0] 28 ?_; intro gb336 hg w56 hbox hb; replace HO328 := jA (Kd.R_below (zo HO328) hb); replace HO334 := jA (Kd.R_below (zo HO334) hb); have BK336 := jA (hbox); have GW336 := zg5 hg HB GE319 GE320 GE321 GE322 GE330; have GE336 := zg5 hg HB GE319 GE320 GE321 GE322 GE330; replace HB := zS5 HB GE319 GE320 GE321 GE322 GE330 hb; have NB319_336 := zn hg BK319; replace BK319 := zB BK319 hb; have NB336_319 := jA NB319_336.out.symm; have NB320_336 := zn hg BK320; replace BK320 := zB BK320 hb; have NB336_320 := jA NB320_336.out.symm; have NB321_336 := zn hg BK321; replace BK321 := zB BK321 hb; have NB336_321 := jA NB321_336.out.symm; have NB322_336 := zn hg BK322; replace BK322 := zB BK322 hb; have NB336_322 := jA NB322_336.out.symm; have NB330_336 := zn hg BK330; replace BK330 := zB BK330 hb; have NB336_330 := jA NB330_336.out.symm; clear hb hbox hg; have hnb57 := NB336_319.out; have hnc57 := NB319_336.out; have hnb58 := NB336_320.out; have hnc58 := NB320_336.out; have hnb59 := NB336_321.out; have hnc59 := NB321_336.out; have hnb60 := NB336_322.out; have hnc60 := NB322_336.out; have hnb61 := NB336_330.out; have hnc61 := NB330_336.out; have hcz62 := zc2 BK336; obtain ⟨Ao63, co63, eo63⟩ := Kd.R_slice HO334.out; subst eo63))
      have n0_ : Aside0 (Kd.R (Kd.int .i64) 2 ((w56.setCell ⟨gb336, 0, none⟩ (.int .i64 t331)).setCell ⟨gb336, 1, none⟩ (.slice Ao63 t332.length co63)) w.heap.size (fun k_ => some k_ ≠ (.slice Ao63 t332.length co63 : Value).ownBlock) (.slice Ao51 t326.length co51) t326) := ⟨by (with_reducible repeat (first | apply Kd.R_alloc | apply Kd.R_drewN | apply Kd.R_drew)); exact Kd.R_mono (Kd.R_far (p := ⟨gb336, 1, none⟩) (Kd.R_far (p := ⟨gb336, 0, none⟩) (Kd.R_types HO328.out BK336.out (by decide)) (fun _ hk => hk.2) (.int .i64 t331)) (fun _ hk => hk.2) (.slice Ao63 t332.length co63)) (fun _ hk => hk.1.2)⟩
      have n1_ : Aside0 (Kd.R (Kd.int .i64) 2 ((w56.setCell ⟨gb336, 0, none⟩ (.int .i64 t331)).setCell ⟨gb336, 1, none⟩ (.slice Ao63 t332.length co63)) w.heap.size (fun k_ => some k_ ≠ (.slice Ao51 t326.length co51 : Value).ownBlock) (.slice Ao63 t332.length co63) t332) := ⟨by (with_reducible repeat (first | apply Kd.R_alloc | apply Kd.R_drewN | apply Kd.R_drew)); exact Kd.R_mono (Kd.R_far (p := ⟨gb336, 1, none⟩) (Kd.R_far (p := ⟨gb336, 0, none⟩) (Kd.R_types HO334.out BK336.out (by decide)) (fun _ hk => hk.2) (.int .i64 t331)) (fun _ hk => hk.2) (.slice Ao63 t332.length co63)) (fun _ hk => hk.1.2)⟩
      have n2_ : Aside0 (((w56.setCell ⟨gb336, 0, none⟩ (.int .i64 t331)).setCell ⟨gb336, 1, none⟩ (.slice Ao63 t332.length co63)).heap[gb319]? = some (.cells #[.int .i64 a1_0, .slice A1_1 l1_1.length c1_1] 28 (0, 0))) := ⟨zQ1 BK319 NB319_336⟩
      have n3_ : Aside0 (((w56.setCell ⟨gb336, 0, none⟩ (.int .i64 t331)).setCell ⟨gb336, 1, none⟩ (.slice Ao63 t332.length co63)).heap[gb320]? = some (.cells #[.int .i64 a2_0, .slice A2_1 l2_1.length c2_1] 28 (0, 0))) := ⟨zQ1 BK320 NB320_336⟩
      have n4_ : Aside0 (((w56.setCell ⟨gb336, 0, none⟩ (.int .i64 t331)).setCell ⟨gb336, 1, none⟩ (.slice Ao63 t332.length co63)).heap[gb321]? = some (.cells #[.int .i64 0, .slice none 0 0] 28 (0, 0))) := ⟨zQ1 BK321 NB321_336⟩
      have n5_ : Aside0 (((w56.setCell ⟨gb336, 0, none⟩ (.int .i64 t331)).setCell ⟨gb336, 1, none⟩ (.slice Ao63 t332.length co63)).heap[gb322]? = some (.cells #[.int .i64 0, .slice none 0 0] 28 (0, 0))) := ⟨zQ1 BK322 NB322_336⟩
      have n6_ : Aside0 (((w56.setCell ⟨gb336, 0, none⟩ (.int .i64 t331)).setCell ⟨gb336, 1, none⟩ (.slice Ao63 t332.length co63)).heap[gb330]? = some (.cells #[.int .i64 t325, .slice Ao51 t326.length co51] 28 (0, 0))) := ⟨zQ1 BK330 NB330_336⟩
      have n7_ : Aside0 (((w56.setCell ⟨gb336, 0, none⟩ (.int .i64 t331)).setCell ⟨gb336, 1, none⟩ (.slice Ao63 t332.length co63)).heap[gb336]? = some (.cells #[.int .i64 t331, .slice Ao63 t332.length co63] 28 (0, 0))) := ⟨zP0 BK336⟩
      have n8_ : Aside0 (Below w.heap.size w ((w56.setCell ⟨gb336, 0, none⟩ (.int .i64 t331)).setCell ⟨gb336, 1, none⟩ (.slice Ao63 t332.length co63))) := ⟨zb6 HB GE319 GE320 GE321 GE322 GE330 GE336⟩
      (try clear HO328)
      (try clear HO334)
      (try clear BK319)
      (try clear BK320)
      (try clear BK321)
      (try clear BK322)
      (try clear BK330)
      (try clear BK336)
      (try clear HB)
      generalize ((w56.setCell ⟨gb336, 0, none⟩ (.int .i64 t331)).setCell ⟨gb336, 1, none⟩ (.slice Ao63 t332.length co63)) = w64 at n0_ n1_ n2_ n3_ n4_ n5_ n6_ n7_ n8_ ⊢
      have HO328 := n0_
      have HO334 := n1_
      have BK319 := n2_
      have BK320 := n3_
      have BK321 := n4_
      have BK322 := n5_
      have BK330 := n6_
      have BK336 := n7_
      have HB := n8_
      clear n0_ n1_ n2_ n3_ n4_ n5_ n6_ n7_ n8_
      replace HO328 := jA (Kd.R_drew HO328.out)
      replace HO334 := jA (Kd.R_drew HO334.out)
      replace BK319 := jA (blk_drew BK319.out)
      replace BK320 := jA (blk_drew BK320.out)
      replace BK321 := jA (blk_drew BK321.out)
      replace BK322 := jA (blk_drew BK322.out)
      replace BK330 := jA (blk_drew BK330.out)
      replace BK336 := jA (blk_drew BK336.out)
      replace HB := jA (jR HB.out)
      refine start_ (n := 5) (S := fun w' => w'.cell? ⟨gb330, 0, none⟩ = some (.int .i64 t325) ∧ w'.cell? ⟨gb330, 1, none⟩ = some (.slice Ao51 t326.length co51) ∧ w'.cell? ⟨gb336, 0, none⟩ = some (.int .i64 t331) ∧ w'.cell? ⟨gb336, 1, none⟩ = some (.slice Ao63 t332.length co63)) (ds := []) #[false, false, false, false, false] zr rfl rfl ⟨(jD BK330.out 0).trans rfl, (jD BK330.out 1).trans rfl, (jD BK336.out 0).trans rfl, (jD BK336.out 1).trans rfl⟩ (fun hHeld => ?_)
      generalize w64.drew = w65 at HO328 HO334 BK319 BK320 BK321 BK322 BK330 BK336 HB hHeld ⊢
      refine take_ (i := 0) (N := some 54) (v := ?_) (a' := ?_) #[true, false, false, false, false] rfl rfl zr (fun _ _ _ h => h) (Or.inl ⟨by rfl, ?_⟩) hHeld ?_ ?_
      rotate_left
      ·rintro w' ⟨s0, s1, s2, s3⟩
       go_simp
       with_reducible rfl
      rotate_left
      ·simp only [Act.put, jC, jE, jF, i64_w, i32_w]
       rfl
      refine take_ (i := 1) (N := some 55) (v := ?_) (a' := ?_) #[true, true, false, false, false] rfl rfl zr (fun _ _ _ h => h) (Or.inl ⟨by rfl, ?_⟩) hHeld ?_ ?_
      rotate_left
      ·rintro w' ⟨s0, s1, s2, s3⟩
       go_simp
       with_reducible rfl
      rotate_left
      ·simp only [Act.put, jC, jE, jF, i64_w, i32_w]
       rfl
      refine one_ (i := 2) (N := none) #[true, true, true, false, false] rfl rfl zr (by decide) (fun K hK => ?_)
      have hs66 : w65.cell? ⟨gb321, 0, none⟩ = some (.int .i64 0) := (jD BK321.out 0).trans rfl
      have hfs66 := blk_frozen BK321.out 0
      have hns66_0 := NB319_321.out
      have hns66_1 := NB320_321.out
      have hns66_3 := NB322_321.out
      have hns66_4 := NB330_321.out
      have hns66_5 := NB336_321.out
      have hms66_0 := NB321_319.out
      have hms66_1 := NB321_320.out
      have hms66_3 := NB321_322.out
      have hms66_4 := NB321_330.out
      have hms66_5 := NB321_336.out
      have hs67 : w65.cell? ⟨gb321, 1, none⟩ = some (.slice none 0 0) := (jD BK321.out 1).trans rfl
      have hfs67 := blk_frozen BK321.out 1
      have hns67_0 := NB319_321.out
      have hns67_1 := NB320_321.out
      have hns67_3 := NB322_321.out
      have hns67_4 := NB330_321.out
      have hns67_5 := NB336_321.out
      have hms67_0 := NB321_319.out
      have hms67_1 := NB321_320.out
      have hms67_3 := NB321_322.out
      have hms67_4 := NB321_330.out
      have hms67_5 := NB321_336.out
      refine skip_ (w1 := ?_) (by rfl) rfl ?_ ?_
      rotate_left
      ·go_simp
       rfl
      refine hK.out _ _ ⟨((jL (p := ⟨gb321, _, none⟩) NB330_321.out _).trans (((jL (p := ⟨gb321, _, none⟩) NB330_321.out _).trans (hHeld.1)))), ((jL (p := ⟨gb321, _, none⟩) NB330_321.out _).trans (((jL (p := ⟨gb321, _, none⟩) NB330_321.out _).trans (hHeld.2.1)))), ((jL (p := ⟨gb321, _, none⟩) NB336_321.out _).trans (((jL (p := ⟨gb321, _, none⟩) NB336_321.out _).trans (hHeld.2.2.1)))), ((jL (p := ⟨gb321, _, none⟩) NB336_321.out _).trans (((jL (p := ⟨gb321, _, none⟩) NB336_321.out _).trans (hHeld.2.2.2))))⟩ (fun hHeld => ?_)
      clear hK K
      refine one_ (i := 3) (N := none) #[true, true, true, true, false] rfl rfl zr (by decide) (fun K hK => ?_)
      have hs68 : w65.cell? ⟨gb322, 0, none⟩ = some (.int .i64 0) := (jD BK322.out 0).trans rfl
      have hfs68 := blk_frozen BK322.out 0
      have hns68_0 := NB319_322.out
      have hns68_1 := NB320_322.out
      have hns68_2 := NB321_322.out
      have hns68_4 := NB330_322.out
      have hns68_5 := NB336_322.out
      have hms68_0 := NB322_319.out
      have hms68_1 := NB322_320.out
      have hms68_2 := NB322_321.out
      have hms68_4 := NB322_330.out
      have hms68_5 := NB322_336.out
      have hs69 : w65.cell? ⟨gb322, 1, none⟩ = some (.slice none 0 0) := (jD BK322.out 1).trans rfl
      have hfs69 := blk_frozen BK322.out 1
      have hns69_0 := NB319_322.out
      have hns69_1 := NB320_322.out
      have hns69_2 := NB321_322.out
      have hns69_4 := NB330_322.out
      have hns69_5 := NB336_322.out
      have hms69_0 := NB322_319.out
      have hms69_1 := NB322_320.out
      have hms69_2 := NB322_321.out
      have hms69_4 := NB322_330.out
      have hms69_5 := NB322_336.out
      refine skip_ (w1 := ?_) (by rfl) rfl ?_ ?_
      rotate_left
      ·go_simp
       rfl
      refine hK.out _ _ ⟨((jL (p := ⟨gb322, _, none⟩) NB330_322.out _).trans (((jL (p := ⟨gb322, _, none⟩) NB330_322.out _).trans (hHeld.1)))), ((jL (p := ⟨gb322, _, none⟩) NB330_322.out _).trans (((jL (p := ⟨gb322, _, none⟩) NB330_322.out _).trans (hHeld.2.1)))), ((jL (p := ⟨gb322, _, none⟩) NB336_322.out _).trans (((jL (p := ⟨gb322, _, none⟩) NB336_322.out _).trans (hHeld.2.2.1)))), ((jL (p := ⟨gb322, _, none⟩) NB336_322.out _).trans (((jL (p := ⟨gb322, _, none⟩) NB336_322.out _).trans (hHeld.2.2.2))))⟩ (fun hHeld => ?_)
      clear hK K
      refine pure_ (i := 4) (N := some 12) (v := ?_) (a' := ?_) #[true, true, true, true, true] rfl rfl zr (fun _ _ _ h => h) (Or.inl ⟨by rfl, ?_⟩) ?_ ?_
      rotate_left
      ·intro w'
       go_simp
       with_reducible rfl
      rotate_left
      ·simp only [Act.put, jC, jE, jF, i64_w, i32_w]
       rfl
      refine done_ zr ?_
      try go_wp2
      refine bodyPost_ret (results_list (rs := [.cell 10 28, .cell 11 28, .tmp 12]) rfl (by simp) (.cell gb321 28 #[.int .i64 t325, .slice Ao51 t326.length co51] (0, 0) _ rfl (zP1 BK321 NB321_322) Try.underlying28 rfl zr (.cell gb322 28 #[.int .i64 t331, .slice Ao63 t332.length co63] (0, 0) _ rfl (zP1 BK322 NB322_321) Try.underlying28 rfl zr (.tmp .nil)))) rfl ?_
      exact ⟨_, _, by first | rfl | (simp [errW_none, errW_some] <;> rfl) | (simp [*, errW_none, errW_some] <;> rfl), by (with_reducible repeat (first | apply Kd.R_alloc | apply Kd.R_drewN | apply Kd.R_drew)); exact Kd.R_mono (Kd.R_far (p := ⟨gb322, 1, none⟩) (Kd.R_far (p := ⟨gb322, 0, none⟩) (Kd.R_far (p := ⟨gb321, 1, none⟩) (Kd.R_far (p := ⟨gb321, 0, none⟩) (Kd.R_types (Kd.R_types HO328.out BK321.out (by decide)) BK322.out (by decide)) (fun _ hk => hk.1.2) (.int .i64 t325)) (fun _ hk => hk.1.2) (.slice Ao51 t326.length co51)) (fun _ hk => hk.2) (.int .i64 t331)) (fun _ hk => hk.2) (.slice Ao63 t332.length co63)) (fun _ hk => hk.1.1), by (with_reducible repeat (first | apply Kd.R_alloc | apply Kd.R_drewN | apply Kd.R_drew)); exact Kd.R_mono (Kd.R_far (p := ⟨gb322, 1, none⟩) (Kd.R_far (p := ⟨gb322, 0, none⟩) (Kd.R_far (p := ⟨gb321, 1, none⟩) (Kd.R_far (p := ⟨gb321, 0, none⟩) (Kd.R_types (Kd.R_types HO334.out BK321.out (by decide)) BK322.out (by decide)) (fun _ hk => hk.1.2) (.int .i64 t325)) (fun _ hk => hk.1.2) (.slice Ao51 t326.length co51)) (fun _ hk => hk.2) (.int .i64 t331)) (fun _ hk => hk.2) (.slice Ao63 t332.length co63)) (fun _ hk => hk.1.1), zb6 HB GE319 GE320 GE321 GE322 GE330 GE336⟩
     ·rw [if_neg c39] at H
      have c39b0 : (t335 == 0) = false := beq_eq_false_iff_ne.mpr c39
      have c39b1 : (t335 != 0) = true := bne_iff_ne.mpr c39
      simp only [jN, jQ] at H
      obtain ⟨rfl, rfl, rfl, rfl, rfl⟩ := H
      have hnb70 := NB319_320.out
      have hnc70 := NB320_319.out
      have hnb71 := NB319_321.out
      have hnc71 := NB321_319.out
      have hnb72 := NB319_322.out
      have hnc72 := NB322_319.out
      have hcz73 := zc2 BK319
      go_wp2_with (first | ((with_reducible refine jK (f := 36) rfl ?_); refine zL (some 33) Try.func36 #[.slice A0 l0.length c0, .agg #[.int .i64 a1_0, .slice A1_1 l1_1.length c1_1], .string a3, .int .i64 a4] ?_; (with_reducible refine (impl_TakePieces.calls kj5 _ _ l0 a1_0 _ _ l1_1 a3 a4 t325 t326 t329 _ ?side1 ?side2 ?side3 ?side4 A36.out).mono ?_); (case side1 => exact zs HR0 HB); (case side2 => exact HC0.out); (case side3 => exact zs HR1_1 HB); (case side4 => exact HC1_1.out); rintro e w74 ⟨v327, rfl, ho0, hb⟩; refine ⟨_, rfl, ?_⟩; have HO328 := jA (Kd.R_lower ho0 (below_size (zb4 HB GE319 GE320 GE321 GE322))); replace BK319 := zB BK319 hb; replace BK320 := zB BK320 hb; replace BK321 := zB BK321 hb; replace BK322 := zB BK322 hb; replace HB := zS4 HB GE319 GE320 GE321 GE322 hb; (try clear hb); (try clear hb2); (try clear hk); (try clear hi); (try clear ho0)) | ((with_reducible refine jJ (N := 13) rfl ?_); refine zE 13 #[.int .i64 0, .slice none 0 0] 28 ?_; intro gb330 hg w75 hbox hb; replace HO328 := jA (Kd.R_below (zo HO328) hb); have BK330 := jA (hbox); have GW330 := zg4 hg HB GE319 GE320 GE321 GE322; have GE330 := zg4 hg HB GE319 GE320 GE321 GE322; replace HB := zS4 HB GE319 GE320 GE321 GE322 hb; have NB319_330 := zn hg BK319; replace BK319 := zB BK319 hb; have NB330_319 := jA NB319_330.out.symm; have NB320_330 := zn hg BK320; replace BK320 := zB BK320 hb; have NB330_320 := jA NB320_330.out.symm; have NB321_330 := zn hg BK321; replace BK321 := zB BK321 hb; have NB330_321 := jA NB321_330.out.symm; have NB322_330 := zn hg BK322; replace BK322 := zB BK322 hb; have NB330_322 := jA NB322_330.out.symm; clear hb hbox hg; have hnb76 := NB330_319.out; have hnc76 := NB319_330.out; have hnb77 := NB330_320.out; have hnc77 := NB320_330.out; have hnb78 := NB330_321.out; have hnc78 := NB321_330.out; have hnb79 := NB330_322.out; have hnc79 := NB322_330.out; have hcz80 := zc2 BK330; obtain ⟨Ao81, co81, eo81⟩ := Kd.R_slice HO328.out; subst eo81; have hnb82 := NB320_321.out; have hnc82 := NB321_320.out; have hnb83 := NB320_322.out; have hnc83 := NB322_320.out; have hcz84 := zc2 BK320) | ((with_reducible refine jK (f := 39) rfl ?_); refine zL (some 46) Try.func39 #[.slice A0 l0.length c0, .agg #[.int .i64 a2_0, .slice A2_1 l2_1.length c2_1], .string a3, .int .i64 a4] ?_; (with_reducible refine (impl_StorePieces.calls kj5 _ _ l0 a2_0 _ _ l2_1 a3 a4 t331 t332 t335 _ ?side1 ?side2 ?side3 ?side4 A38.out).mono ?_); (case side1 => exact Kd.C_below HR0.out (zb5 HB GE319 GE320 GE321 GE322 GE330)); (case side2 => exact HC0.out); (case side3 => exact Kd.C_below HR2_1.out (zb5 HB GE319 GE320 GE321 GE322 GE330)); (case side4 => exact HC2_1.out); rintro e w85 ⟨v333, rfl, ho0, hb⟩; refine ⟨_, rfl, ?_⟩; have HO334 := jA (Kd.R_lower (Kd.R_new' ho0 (Kd.R_lt (zU HO328 BK330))) (below_size (zb5 HB GE319 GE320 GE321 GE322 GE330))); replace HO328 := jA (Kd.R_elder' (zU HO328 BK330) (Kd.R_base ho0) hb); replace BK319 := jA (jO (g := gb319) (o := .cells #[.int .i64 a1_0, .slice A1_1 l1_1.length c1_1] 28 (0, 0)) (zQ1 BK319 NB319_330) hb); replace BK320 := jA (jO (g := gb320) (o := .cells #[.int .i64 a2_0, .slice A2_1 l2_1.length c2_1] 28 (0, 0)) (zQ1 BK320 NB320_330) hb); replace BK321 := jA (jO (g := gb321) (o := .cells #[.int .i64 0, .slice none 0 0] 28 (0, 0)) (zQ1 BK321 NB321_330) hb); replace BK322 := jA (jO (g := gb322) (o := .cells #[.int .i64 0, .slice none 0 0] 28 (0, 0)) (zQ1 BK322 NB322_330) hb); replace BK330 := jA (jO (g := gb330) (o := .cells #[.int .i64 t325, .slice Ao81 t326.length co81] 28 (0, 0)) (zP0 BK330) hb); replace HB := zS5 HB GE319 GE320 GE321 GE322 GE330 hb; (try clear hb); (try clear hb2); (try clear hk); (try clear hi); (try clear ho0)) | ((with_reducible refine jJ (N := 15) rfl ?_); refine zE 15 #[.int .i64 0, .slice none 0 0] 28 ?_; intro gb336 hg w86 hbox hb; replace HO328 := jA (Kd.R_below (zo HO328) hb); replace HO334 := jA (Kd.R_below (zo HO334) hb); have BK336 := jA (hbox); have GW336 := zg5 hg HB GE319 GE320 GE321 GE322 GE330; have GE336 := zg5 hg HB GE319 GE320 GE321 GE322 GE330; replace HB := zS5 HB GE319 GE320 GE321 GE322 GE330 hb; have NB319_336 := zn hg BK319; replace BK319 := zB BK319 hb; have NB336_319 := jA NB319_336.out.symm; have NB320_336 := zn hg BK320; replace BK320 := zB BK320 hb; have NB336_320 := jA NB320_336.out.symm; have NB321_336 := zn hg BK321; replace BK321 := zB BK321 hb; have NB336_321 := jA NB321_336.out.symm; have NB322_336 := zn hg BK322; replace BK322 := zB BK322 hb; have NB336_322 := jA NB322_336.out.symm; have NB330_336 := zn hg BK330; replace BK330 := zB BK330 hb; have NB336_330 := jA NB330_336.out.symm; clear hb hbox hg; have hnb87 := NB336_319.out; have hnc87 := NB319_336.out; have hnb88 := NB336_320.out; have hnc88 := NB320_336.out; have hnb89 := NB336_321.out; have hnc89 := NB321_336.out; have hnb90 := NB336_322.out; have hnc90 := NB322_336.out; have hnb91 := NB336_330.out; have hnc91 := NB330_336.out; have hcz92 := zc2 BK336; obtain ⟨Ao93, co93, eo93⟩ := Kd.R_slice HO334.out; subst eo93; have hnb94 := NB321_322.out; have hnc94 := NB322_321.out; have hcz95 := zc2 BK321; have hcz96 := zc2 BK322))
      refine bodyPost_ret (results_list (rs := [.cell 10 28, .cell 11 28, .tmp 12]) rfl (by simp) (.cell gb321 28 #[.int .i64 0, .slice none 0 0] (0, 0) _ rfl (zP2 BK321 NB321_322 NB321_336) Try.underlying28 rfl zr (.cell gb322 28 #[.int .i64 0, .slice none 0 0] (0, 0) _ rfl (zP2 BK322 NB322_321 NB322_336) Try.underlying28 rfl zr (.tmp .nil)))) rfl ?_
      exact ⟨_, _, by first | rfl | (simp [errW_none, errW_some] <;> rfl) | (simp [*, errW_none, errW_some] <;> rfl), by first | exact Kd.R_nil _ _ _ _ _ | exact Kd.N_nil _ _ _ _ _ | exact Kd.V_nil _ _ _ _ _ | exact Kd.Q_nil _ _ _ _ _ | exact Kd.S_nil _ _ _ _ _, by first | exact Kd.R_nil _ _ _ _ _ | exact Kd.N_nil _ _ _ _ _ | exact Kd.V_nil _ _ _ _ _ | exact Kd.Q_nil _ _ _ _ _ | exact Kd.S_nil _ _ _ _ _, zb6 HB GE319 GE320 GE321 GE322 GE330 GE336⟩
    ·rw [if_neg c37] at H
     have c37b0 : (t329 == 0) = false := beq_eq_false_iff_ne.mpr c37
     have c37b1 : (t329 != 0) = true := bne_iff_ne.mpr c37
     simp only [jN, jQ] at H
     obtain ⟨rfl, rfl, rfl, rfl, rfl⟩ := H
     have hnb97 := NB319_320.out
     have hnc97 := NB320_319.out
     have hnb98 := NB319_321.out
     have hnc98 := NB321_319.out
     have hnb99 := NB319_322.out
     have hnc99 := NB322_319.out
     have hcz100 := zc2 BK319
     go_wp2_with (first | ((with_reducible refine jK (f := 36) rfl ?_); refine zL (some 33) Try.func36 #[.slice A0 l0.length c0, .agg #[.int .i64 a1_0, .slice A1_1 l1_1.length c1_1], .string a3, .int .i64 a4] ?_; (with_reducible refine (impl_TakePieces.calls kj5 _ _ l0 a1_0 _ _ l1_1 a3 a4 t325 t326 t329 _ ?side1 ?side2 ?side3 ?side4 A36.out).mono ?_); (case side1 => exact zs HR0 HB); (case side2 => exact HC0.out); (case side3 => exact zs HR1_1 HB); (case side4 => exact HC1_1.out); rintro e w101 ⟨v327, rfl, ho0, hb⟩; refine ⟨_, rfl, ?_⟩; have HO328 := jA (Kd.R_lower ho0 (below_size (zb4 HB GE319 GE320 GE321 GE322))); replace BK319 := zB BK319 hb; replace BK320 := zB BK320 hb; replace BK321 := zB BK321 hb; replace BK322 := zB BK322 hb; replace HB := zS4 HB GE319 GE320 GE321 GE322 hb; (try clear hb); (try clear hb2); (try clear hk); (try clear hi); (try clear ho0)) | ((with_reducible refine jJ (N := 13) rfl ?_); refine zE 13 #[.int .i64 0, .slice none 0 0] 28 ?_; intro gb330 hg w102 hbox hb; replace HO328 := jA (Kd.R_below (zo HO328) hb); have BK330 := jA (hbox); have GW330 := zg4 hg HB GE319 GE320 GE321 GE322; have GE330 := zg4 hg HB GE319 GE320 GE321 GE322; replace HB := zS4 HB GE319 GE320 GE321 GE322 hb; have NB319_330 := zn hg BK319; replace BK319 := zB BK319 hb; have NB330_319 := jA NB319_330.out.symm; have NB320_330 := zn hg BK320; replace BK320 := zB BK320 hb; have NB330_320 := jA NB320_330.out.symm; have NB321_330 := zn hg BK321; replace BK321 := zB BK321 hb; have NB330_321 := jA NB321_330.out.symm; have NB322_330 := zn hg BK322; replace BK322 := zB BK322 hb; have NB330_322 := jA NB322_330.out.symm; clear hb hbox hg; have hnb103 := NB330_319.out; have hnc103 := NB319_330.out; have hnb104 := NB330_320.out; have hnc104 := NB320_330.out; have hnb105 := NB330_321.out; have hnc105 := NB321_330.out; have hnb106 := NB330_322.out; have hnc106 := NB322_330.out; have hcz107 := zc2 BK330; obtain ⟨Ao108, co108, eo108⟩ := Kd.R_slice HO328.out; subst eo108; have hnb109 := NB321_320.out; have hnc109 := NB320_321.out; have hnb110 := NB321_322.out; have hnc110 := NB322_321.out; have hcz111 := zc2 BK321; have hnb112 := NB322_320.out; have hnc112 := NB320_322.out; have hcz113 := zc2 BK322))
     refine bodyPost_ret (results_list (rs := [.cell 10 28, .cell 11 28, .tmp 12]) rfl (by simp) (.cell gb321 28 #[.int .i64 0, .slice none 0 0] (0, 0) _ rfl (zP2 BK321 NB321_322 NB321_330) Try.underlying28 rfl zr (.cell gb322 28 #[.int .i64 0, .slice none 0 0] (0, 0) _ rfl (zP2 BK322 NB322_321 NB322_330) Try.underlying28 rfl zr (.tmp .nil)))) rfl ?_
     exact ⟨_, _, by first | rfl | (simp [errW_none, errW_some] <;> rfl) | (simp [*, errW_none, errW_some] <;> rfl), by first | exact Kd.R_nil _ _ _ _ _ | exact Kd.N_nil _ _ _ _ _ | exact Kd.V_nil _ _ _ _ _ | exact Kd.Q_nil _ _ _ _ _ | exact Kd.S_nil _ _ _ _ _, by first | exact Kd.R_nil _ _ _ _ _ | exact Kd.N_nil _ _ _ _ _ | exact Kd.V_nil _ _ _ _ _ | exact Kd.Q_nil _ _ _ _ _ | exact Kd.S_nil _ _ _ _ _, zb5 HB GE319 GE320 GE321 GE322 GE330⟩

end Go.Proofs.Ytdgglhfnlljmeaa.PFnExactMovePieces
