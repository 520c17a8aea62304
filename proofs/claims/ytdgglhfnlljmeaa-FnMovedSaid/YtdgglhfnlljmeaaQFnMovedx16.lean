/- Functions and contracts that FnMoved reaches (17 of 29). -/
import Derived.Test.YtdgglhfnlljmeaaQFnMovedx15
namespace Go.Proofs.Ytdgglhfnlljmeaa.PFnMoved
open Go.RowKit Go.Proofs.YtdgglhfnlljmeaaW.PrintWords Go.Proofs.YtdgglhfnlljmeaaW.PrintLast Go.Proofs.YtdgglhfnlljmeaaW.PrintMore
attribute [local go_sem] max2_int min2_int max_two min_two max_three min_three max_four min_four   -- for this text's walks alone
set_option linter.unusedVariables false
set_option linter.unusedSimpArgs false

/-! ### impl_MovePieces: function 18 -/
def impl_MovePieces.j0 : Nat → List (S65) → ByteArray → Int → Bool → Int → List Int → Int → List Int → Option (Int × List Int × Int × List Int × Int)
 | 0, _, _, _, _, _, _, _, _ => none
 | k + 1, x0, x3, x4, x25, x267000, x267001, x268000, x268001 => if x25 = true then (some (0, ([] : List Int), 0, ([] : List Int), 1)) else ((impl_TakePieces.f k x0 x267000 x267001 x3 x4).bind fun bt272 => (if bt272.2.2 = 0 then ((impl_StorePieces.f k x0 x268000 x268001 x3 x4).bind fun bt278 => (if bt278.2.2 = 0 then (some (bt272.1, bt272.2.1, bt278.1, bt278.2.1, 0)) else (some (0, ([] : List Int), 0, ([] : List Int), bt278.2.2)))) else (some (0, ([] : List Int), 0, ([] : List Int), bt272.2.2))))
def impl_MovePieces.f (k : Nat) (l0 : List (S65)) (a1_0 : Int) (l1_1 : List Int) (a2_0 : Int) (l2_1 : List Int) (a3 : ByteArray) (a4 : Int) : Option (Int × List Int × Int × List Int × Int) := (impl_IsMagazine.f k l0 a1_0 l1_1).bind fun t270 => (if t270 = true then ((impl_IsMagazine.f k l0 a2_0 l2_1).bind fun t271 => (impl_MovePieces.j0 k l0 a3 a4 (!t271) a1_0 l1_1 a2_0 l2_1)) else (impl_MovePieces.j0 k l0 a3 a4 true a1_0 l1_1 a2_0 l2_1))
theorem impl_MovePieces.mono_l : ∀ k, (∀ y0 y1 y2 y3 y4 y5 y6 y7, LeO (impl_MovePieces.j0 k y0 y1 y2 y3 y4 y5 y6 y7) (impl_MovePieces.j0 (k + 1) y0 y1 y2 y3 y4 y5 y6 y7))
 | 0 => fun _ _ _ _ _ _ _ _ r h => by simp [impl_MovePieces.j0] at h
 | k + 1 => by
  have ih0 := impl_MovePieces.mono_l k
  ·intro y0 y1 y2 y3 y4 y5 y6 y7
   unfold impl_MovePieces.j0
   repeat' first
   | (with_reducible exact ih0 _ _ _ _ _ _ _ _)
   | (with_reducible exact impl_IsMagazine.mono _ _ _ _)
   | (with_reducible exact impl_StorePieces.mono _ _ _ _ _ _)
   | (with_reducible exact impl_TakePieces.mono _ _ _ _ _ _)
   | (with_reducible exact LeO.refl _)
   | (with_reducible exact LeO.none _)
   | (with_reducible refine LeO.ite ?_ ?_)
   | (with_reducible refine LeO.bind ?_ (fun _ => ?_))
   | exact ih0 _ _ _ _ _ _ _ _
   | exact impl_IsMagazine.mono _ _ _ _
   | exact impl_StorePieces.mono _ _ _ _ _ _
   | exact impl_TakePieces.mono _ _ _ _ _ _
   | exact LeO.none _
   | refine LeO.ite ?_ ?_
   | refine LeO.bind ?_ (fun _ => ?_)
theorem impl_MovePieces.mono : ∀ a0 a1 a2 a3 a4 a5 a6 k, LeO (impl_MovePieces.f k a0 a1 a2 a3 a4 a5 a6) (impl_MovePieces.f (k + 1) a0 a1 a2 a3 a4 a5 a6) := by
 intro a0 a1 a2 a3 a4 a5 a6 k
 have ih0 := impl_MovePieces.mono_l k
 unfold impl_MovePieces.f
 repeat' first
   | (with_reducible exact ih0 _ _ _ _ _ _ _ _)
   | (with_reducible exact impl_IsMagazine.mono _ _ _ _)
   | (with_reducible exact impl_StorePieces.mono _ _ _ _ _ _)
   | (with_reducible exact impl_TakePieces.mono _ _ _ _ _ _)
   | (with_reducible exact LeO.refl _)
   | (with_reducible exact LeO.none _)
   | (with_reducible refine LeO.ite ?_ ?_)
   | (with_reducible refine LeO.bind ?_ (fun _ => ?_))
   | exact ih0 _ _ _ _ _ _ _ _
   | exact impl_IsMagazine.mono _ _ _ _
   | exact impl_StorePieces.mono _ _ _ _ _ _
   | exact impl_TakePieces.mono _ _ _ _ _ _
   | exact LeO.none _
   | refine LeO.ite ?_ ?_
   | refine LeO.bind ?_ (fun _ => ?_)
set_option maxHeartbeats 8000000 in
set_option maxRecDepth 100000 in
theorem impl_MovePieces.calls (k : Nat) (A0 : Option Addr) (c0 : Nat) (l0 : List (S65)) (a1_0 : Int) (A1_1 : Option Addr) (c1_1 : Nat) (l1_1 : List Int) (a2_0 : Int) (A2_1 : Option Addr) (c2_1 : Nat) (l2_1 : List Int) (a3 : ByteArray) (a4 : Int) (r1 : Int) (r2 : List Int) (r3 : Int) (r4 : List Int) (r5 : Int) (w : World) (hr0 : Kd.C k65 w A0 l0.length l0) (hc0 : l0.length ≤ c0) (hr1_1 : Kd.C (Kd.int .i64) w A1_1 l1_1.length l1_1) (hc1_1 : l1_1.length ≤ c1_1) (hr2_1 : Kd.C (Kd.int .i64) w A2_1 l2_1.length l2_1) (hc2_1 : l2_1.length ≤ c2_1) (h : impl_MovePieces.f k l0 a1_0 l1_1 a2_0 l2_1 a3 a4 = some (r1, r2, r3, r4, r5)) :
  Calls Try.prog 18 #[.slice A0 l0.length c0, .agg #[.int .i64 a1_0, .slice A1_1 l1_1.length c1_1], .agg #[.int .i64 a2_0, .slice A2_1 l2_1.length c2_1], .string a3, .int .i64 a4] w fun e w' => ∃ v1_ v3_ : Value, e = .returned (.tuple #[.agg #[.int .i64 r1, v1_], .agg #[.int .i64 r3, v3_], .int .i64 r5]) ∧ Kd.R (Kd.int .i64) 2 w' w.heap.size (fun k_ => some k_ ≠ (v3_ : Value).ownBlock) v1_ r2 ∧ Kd.R (Kd.int .i64) 2 w' w.heap.size (fun k_ => some k_ ≠ (v1_ : Value).ownBlock) v3_ r4 ∧ Below w.heap.size w w' := by
 have hu28 := Try.underlying28
 have HR0 := jA hr0
 have HC0 := jA hc0
 clear hr0 hc0
 have HR1_1 := jA hr1_1
 have HC1_1 := jA hc1_1
 clear hr1_1 hc1_1
 have HR2_1 := jA hr2_1
 have HC2_1 := jA hc2_1
 clear hr2_1 hc2_1
 have HB := jA (Below.refl w.heap.size w)
 have H := h
 unfold impl_MovePieces.f at H
 clear h
 have HC6 := jA H
 clear H
 go_enter Try.func18, Try.ntmps18
 go_upto_region 1 with (first | ((with_reducible refine jJ (N := 6) rfl ?_); refine zE 6 #[.int .i64 a1_0, .slice A1_1 l1_1.length c1_1] 28 ?_; intro gb266 hg w7 hbox hb; have BK266 := jA (hbox); have GW266 := zg0 hg HB; have GE266 := zg0 hg HB; replace HB := zS0 HB hb; clear hb hbox hg) | ((with_reducible refine jJ (N := 7) rfl ?_); refine zE 7 #[.int .i64 a2_0, .slice A2_1 l2_1.length c2_1] 28 ?_; intro gb267 hg w8 hbox hb; have BK267 := jA (hbox); have GW267 := zg1 hg HB GE266; have GE267 := zg1 hg HB GE266; replace HB := zS1 HB GE266 hb; have NB266_267 := zn hg BK266; replace BK266 := zB BK266 hb; have NB267_266 := jA NB266_267.out.symm; clear hb hbox hg) | ((with_reducible refine jJ (N := 10) rfl ?_); refine zE 10 #[.int .i64 0, .slice none 0 0] 28 ?_; intro gb268 hg w9 hbox hb; have BK268 := jA (hbox); have GW268 := zg2 hg HB GE266 GE267; have GE268 := zg2 hg HB GE266 GE267; replace HB := zS2 HB GE266 GE267 hb; have NB266_268 := zn hg BK266; replace BK266 := zB BK266 hb; have NB268_266 := jA NB266_268.out.symm; have NB267_268 := zn hg BK267; replace BK267 := zB BK267 hb; have NB268_267 := jA NB267_268.out.symm; clear hb hbox hg) | ((with_reducible refine jJ (N := 11) rfl ?_); refine zE 11 #[.int .i64 0, .slice none 0 0] 28 ?_; intro gb269 hg w10 hbox hb; have BK269 := jA (hbox); have GW269 := zg3 hg HB GE266 GE267 GE268; have GE269 := zg3 hg HB GE266 GE267 GE268; replace HB := zS3 HB GE266 GE267 GE268 hb; have NB266_269 := zn hg BK266; replace BK266 := zB BK266 hb; have NB269_266 := jA NB266_269.out.symm; have NB267_269 := zn hg BK267; replace BK267 := zB BK267 hb; have NB269_267 := jA NB267_269.out.symm; have NB268_269 := zn hg BK268; replace BK268 := zB BK268 hb; have NB269_268 := jA NB268_269.out.symm; clear hb hbox hg))
 (try simp only [Act.put, jC, jH, jI])
 go_cut [25] (fun v25 wc => ∃ (kq : Nat) (x25_5 : Bool), v25 = .bool x25_5 ∧ Aside0 (impl_MovePieces.j0 kq l0 a3 a4 x25_5 a1_0 l1_1 a2_0 l2_1 = some (r1, r2, r3, r4, r5)) ∧ Aside0 (kq ≤ k) ∧ Aside0 (wc.heap[gb266]? = some (.cells #[.int .i64 a1_0, (.slice A1_1 l1_1.length c1_1)] 28 (0, 0))) ∧ Aside0 (wc.heap[gb267]? = some (.cells #[.int .i64 a2_0, (.slice A2_1 l2_1.length c2_1)] 28 (0, 0))) ∧ Aside0 (wc.heap[gb268]? = some (.cells #[.int .i64 0, (.slice none 0 0)] 28 (0, 0))) ∧ Aside0 (wc.heap[gb269]? = some (.cells #[.int .i64 0, (.slice none 0 0)] 28 (0, 0))) ∧ Aside0 (Below w.heap.size w wc))
 case first =>
  have H := HC6.out
  clear HC6
  replace H := jB.mp H
  obtain ⟨t270, A110, H⟩ := H
  try dsimp only at H
  have A11 := jA A110
  clear A110
  by_cases c12 : t270 = true
  ·subst c12
   rw [if_pos rfl] at H
   replace H := jB.mp H
   obtain ⟨t271, A130, H⟩ := H
   try dsimp only at H
   have A13 := jA A130
   clear A130
   have H' := jA H
   clear H
   have hnb14 := NB266_267.out
   have hnc14 := NB267_266.out
   have hnb15 := NB266_268.out
   have hnc15 := NB268_266.out
   have hnb16 := NB266_269.out
   have hnc16 := NB269_266.out
   have hcz17 := zc2 BK266
   go_wp2_with (first | ((with_reducible refine jG (f := 26) rfl ?_); refine zL (some 18) Try.func26 #[.slice A0 l0.length c0, .agg #[.int .i64 a1_0, .slice A1_1 l1_1.length c1_1]] ?_; (with_reducible refine (impl_IsMagazine.calls k _ _ l0 a1_0 _ _ l1_1 true _ ?side1 ?side2 ?side3 ?side4 A11.out).mono ?_); (case side1 => exact zs HR0 HB); (case side2 => exact HC0.out); (case side3 => exact zs HR1_1 HB); (case side4 => exact HC1_1.out); rintro e w18 ⟨rfl, hb⟩; refine ⟨_, rfl, ?_⟩; replace BK266 := zB BK266 hb; replace BK267 := zB BK267 hb; replace BK268 := zB BK268 hb; replace BK269 := zB BK269 hb; replace HB := zS4 HB GE266 GE267 GE268 GE269 hb; clear hb; have hnb19 := NB267_268.out; have hnc19 := NB268_267.out; have hnb20 := NB267_269.out; have hnc20 := NB269_267.out; have hcz21 := zc2 BK267) | (go_at_call 26; (with_reducible refine (impl_IsMagazine.calls k _ _ l0 a2_0 _ _ l2_1 t271 _ ?side1 ?side2 ?side3 ?side4 A13.out).mono ?_); (case side1 => exact zs HR0 HB); (case side2 => exact HC0.out); (case side3 => exact zs HR2_1 HB); (case side4 => exact HC2_1.out); rintro e w22 ⟨rfl, hb⟩; replace BK266 := zB BK266 hb; replace BK267 := zB BK267 hb; replace BK268 := zB BK268 hb; replace BK269 := zB BK269 hb; replace HB := zS4 HB GE266 GE267 GE268 GE269 hb; (try clear hb); (try clear hb2); (try clear hk); (try clear hi)))
   go_meet
   case rel => exact ⟨_, (!t271), zz, H', ⟨by first | omega | exact Nat.le_refl _⟩, ⟨zk BK266⟩, ⟨zk BK267⟩, ⟨zk BK268⟩, ⟨zk BK269⟩, ⟨zb4 HB GE266 GE267 GE268 GE269⟩⟩
  ·replace c12 := Bool.eq_false_iff.mpr c12
   subst c12
   rw [if_neg zfalse] at H
   have H' := jA H
   clear H
   have hnb23 := NB266_267.out
   have hnc23 := NB267_266.out
   have hnb24 := NB266_268.out
   have hnc24 := NB268_266.out
   have hnb25 := NB266_269.out
   have hnc25 := NB269_266.out
   have hcz26 := zc2 BK266
   go_wp2_with (first | ((with_reducible refine jG (f := 26) rfl ?_); refine zL (some 18) Try.func26 #[.slice A0 l0.length c0, .agg #[.int .i64 a1_0, .slice A1_1 l1_1.length c1_1]] ?_; (with_reducible refine (impl_IsMagazine.calls k _ _ l0 a1_0 _ _ l1_1 false _ ?side1 ?side2 ?side3 ?side4 A11.out).mono ?_); (case side1 => exact zs HR0 HB); (case side2 => exact HC0.out); (case side3 => exact zs HR1_1 HB); (case side4 => exact HC1_1.out); rintro e w27 ⟨rfl, hb⟩; refine ⟨_, rfl, ?_⟩; replace BK266 := zB BK266 hb; replace BK267 := zB BK267 hb; replace BK268 := zB BK268 hb; replace BK269 := zB BK269 hb; replace HB := zS4 HB GE266 GE267 GE268 GE269 hb; clear hb))
   go_meet
   case rel => exact ⟨_, (true), zz, H', ⟨by first | omega | exact Nat.le_refl _⟩, ⟨zk BK266⟩, ⟨zk BK267⟩, ⟨zk BK268⟩, ⟨zk BK269⟩, ⟨zb4 HB GE266 GE267 GE268 GE269⟩⟩
 case rest =>
  clear HC6
  try clear c1
  try clear c2
  try clear p2
  try clear c12
  try clear c14
  try clear c15
  try clear c16
  try clear c18
  try clear c19
  try clear c20
  try clear c23
  try clear c24
  try clear c25
  try clear c26
  try clear hcz17
  try clear hcz21
  try clear hcz26
  obtain ⟨kq, x25_5, rfl, HA, HJ5, BK266, BK267, BK268, BK269, HB⟩ := hcut
  cases kq with
  | zero => exact absurd HA.out (by simp [impl_MovePieces.j0])
  | succ kj5 =>
   have H := HA.out
   clear HA
   simp only [impl_MovePieces.j0] at H
   by_cases c28 : x25_5 = true
   ·subst c28
    rw [if_pos rfl] at H
    simp only [jM, jS] at H
    obtain ⟨rfl, rfl, rfl, rfl, rfl⟩ := H
    have hnb29 := NB268_266.out
    have hnc29 := NB266_268.out
    have hnb30 := NB268_267.out
    have hnc30 := NB267_268.out
    have hnb31 := NB268_269.out
    have hnc31 := NB269_268.out
    have hcz32 := zc2 BK268
    have hnb33 := NB269_266.out
    have hnc33 := NB266_269.out
    have hnb34 := NB269_267.out
    have hnc34 := NB267_269.out
    have hcz35 := zc2 BK269
    go_wp2
    refine jX (results_list (rs := [.cell 10 28, .cell 11 28, .tmp 12]) rfl (by simp) (.cell gb268 28 #[.int .i64 0, .slice none 0 0] (0, 0) _ rfl (zP1 BK268 NB268_269) Try.underlying28 rfl zr (.cell gb269 28 #[.int .i64 0, .slice none 0 0] (0, 0) _ rfl (zP1 BK269 NB269_268) Try.underlying28 rfl zr (.tmp .nil)))) rfl ?_
    exact ⟨_, _, by first | rfl | (simp [errW_none, errW_some] <;> rfl) | (simp [*, errW_none, errW_some] <;> rfl), by first | exact Kd.R_nil _ _ _ _ _ | exact Kd.N_nil _ _ _ _ _ | exact Kd.V_nil _ _ _ _ _ | exact Kd.Q_nil _ _ _ _ _ | exact Kd.S_nil _ _ _ _ _, by first | exact Kd.R_nil _ _ _ _ _ | exact Kd.N_nil _ _ _ _ _ | exact Kd.V_nil _ _ _ _ _ | exact Kd.Q_nil _ _ _ _ _ | exact Kd.S_nil _ _ _ _ _, zb4 HB GE266 GE267 GE268 GE269⟩
   ·replace c28 := Bool.eq_false_iff.mpr c28
    subst c28
    rw [if_neg zfalse] at H
    replace H := jB.mp H
    obtain ⟨⟨t272, t273, t276⟩, A360, H⟩ := H
    try dsimp only at H
    have A36 := jA A360
    clear A360
    by_cases c37 : t276 = 0
    ·rw [if_pos c37] at H
     have c37b0 : (t276 == 0) = true := beq_iff_eq.mpr c37
     have c37b1 : (t276 != 0) = false := bne_eq_false_iff_eq.mpr c37
     clear c37
     replace H := jB.mp H
     obtain ⟨⟨t278, t279, t282⟩, A380, H⟩ := H
     try dsimp only at H
     have A38 := jA A380
     clear A380
     by_cases c39 : t282 = 0
     ·rw [if_pos c39] at H
      have c39b0 : (t282 == 0) = true := beq_iff_eq.mpr c39
      have c39b1 : (t282 != 0) = false := bne_eq_false_iff_eq.mpr c39
      clear c39
      simp only [jM, jS] at H
      obtain ⟨rfl, rfl, rfl, rfl, rfl⟩ := H
      have hnb40 := NB266_267.out
      have hnc40 := NB267_266.out
      have hnb41 := NB266_268.out
      have hnc41 := NB268_266.out
      have hnb42 := NB266_269.out
      have hnc42 := NB269_266.out
      have hcz43 := zc2 BK266
      try go_wp2_with (first | ((with_reducible refine jG (f := 36) rfl ?_); refine zL (some 33) Try.func36 #[.slice A0 l0.length c0, .agg #[.int .i64 a1_0, .slice A1_1 l1_1.length c1_1], .string a3, .int .i64 a4] ?_; (with_reducible refine (impl_TakePieces.calls kj5 _ _ l0 a1_0 _ _ l1_1 a3 a4 t272 t273 t276 _ ?side1 ?side2 ?side3 ?side4 A36.out).mono ?_); (case side1 => exact zs HR0 HB); (case side2 => exact HC0.out); (case side3 => exact zs HR1_1 HB); (case side4 => exact HC1_1.out); rintro e w44 ⟨v274, rfl, ho0, hb⟩; refine ⟨_, rfl, ?_⟩; have HO275 := jA (jU ho0 (jW (zb4 HB GE266 GE267 GE268 GE269))); replace BK266 := zB BK266 hb; replace BK267 := zB BK267 hb; replace BK268 := zB BK268 hb; replace BK269 := zB BK269 hb; replace HB := zS4 HB GE266 GE267 GE268 GE269 hb; (try clear hb); (try clear hb2); (try clear hk); (try clear hi); (try clear ho0)) | ((with_reducible refine jJ (N := 13) rfl ?_); refine zE 13 #[.int .i64 0, .slice none 0 0] 28 ?_; intro gb277 hg w45 hbox hb; replace HO275 := jA (jE (zo HO275) hb); have BK277 := jA (hbox); have GW277 := zg4 hg HB GE266 GE267 GE268 GE269; have GE277 := zg4 hg HB GE266 GE267 GE268 GE269; replace HB := zS4 HB GE266 GE267 GE268 GE269 hb; have NB266_277 := zn hg BK266; replace BK266 := zB BK266 hb; have NB277_266 := jA NB266_277.out.symm; have NB267_277 := zn hg BK267; replace BK267 := zB BK267 hb; have NB277_267 := jA NB267_277.out.symm; have NB268_277 := zn hg BK268; replace BK268 := zB BK268 hb; have NB277_268 := jA NB268_277.out.symm; have NB269_277 := zn hg BK269; replace BK269 := zB BK269 hb; have NB277_269 := jA NB269_277.out.symm; clear hb hbox hg; have hnb46 := NB277_266.out; have hnc46 := NB266_277.out; have hnb47 := NB277_267.out; have hnc47 := NB267_277.out; have hnb48 := NB277_268.out; have hnc48 := NB268_277.out; have hnb49 := NB277_269.out; have hnc49 := NB269_277.out; have hcz50 := zc2 BK277; obtain ⟨Ao51, co51, eo51⟩ := Kd.R_slice HO275.out; subst eo51; have hnb52 := NB267_268.out; have hnc52 := NB268_267.out; have hnb53 := NB267_269.out; have hnc53 := NB269_267.out; have hcz54 := zc2 BK267) | ((with_reducible refine jG (f := 39) rfl ?_); refine zL (some 46) Try.func39 #[.slice A0 l0.length c0, .agg #[.int .i64 a2_0, .slice A2_1 l2_1.length c2_1], .string a3, .int .i64 a4] ?_; (with_reducible refine (impl_StorePieces.calls kj5 _ _ l0 a2_0 _ _ l2_1 a3 a4 t278 t279 t282 _ ?side1 ?side2 ?side3 ?side4 A38.out).mono ?_); (case side1 => exact Kd.C_below HR0.out (zb5 HB GE266 GE267 GE268 GE269 GE277)); (case side2 => exact HC0.out); (case side3 => exact Kd.C_below HR2_1.out (zb5 HB GE266 GE267 GE268 GE269 GE277)); (case side4 => exact HC2_1.out); rintro e w55 ⟨v280, rfl, ho0, hb⟩; refine ⟨_, rfl, ?_⟩; have HO281 := jA (jU (Kd.R_new' ho0 (Kd.R_lt (zU HO275 BK277))) (jW (zb5 HB GE266 GE267 GE268 GE269 GE277))); replace HO275 := jA (Kd.R_elder' (zU HO275 BK277) (Kd.R_base ho0) hb); replace BK266 := jA (jT (g := gb266) (o := .cells #[.int .i64 a1_0, .slice A1_1 l1_1.length c1_1] 28 (0, 0)) (zQ1 BK266 NB266_277) hb); replace BK267 := jA (jT (g := gb267) (o := .cells #[.int .i64 a2_0, .slice A2_1 l2_1.length c2_1] 28 (0, 0)) (zQ1 BK267 NB267_277) hb); replace BK268 := jA (jT (g := gb268) (o := .cells #[.int .i64 0, .slice none 0 0] 28 (0, 0)) (zQ1 BK268 NB268_277) hb); replace BK269 := jA (jT (g := gb269) (o := .cells #[.int .i64 0, .slice none 0 0] 28 (0, 0)) (zQ1 BK269 NB269_277) hb); replace BK277 := jA (jT (g := gb277) (o := .cells #[.int .i64 t272, .slice Ao51 t273.length co51] 28 (0, 0)) (zP0 BK277) hb); replace HB := zS5 HB GE266 GE267 GE268 GE269 GE277 hb; (try clear hb); (try clear hb2); (try clear hk); (try clear hi); (try clear ho0)) | ((with_reducible refine jJ (N := 15) rfl ?_); refine zE 15 #[.int .i64 0, .slice none 0 0] 28 ?_; intro gb283 hg w56 hbox hb; replace HO275 := jA (jE (zo HO275) hb); replace HO281 := jA (jE (zo HO281) hb); have BK283 := jA (hbox); have GW283 := zg5 hg HB GE266 GE267 GE268 GE269 GE277; have GE283 := zg5 hg HB GE266 GE267 GE268 GE269 GE277; replace HB := zS5 HB GE266 GE267 GE268 GE269 GE277 hb; have NB266_283 := zn hg BK266; replace BK266 := zB BK266 hb; have NB283_266 := jA NB266_283.out.symm; have NB267_283 := zn hg BK267; replace BK267 := zB BK267 hb; have NB283_267 := jA NB267_283.out.symm; have NB268_283 := zn hg BK268; replace BK268 := zB BK268 hb; have NB283_268 := jA NB268_283.out.symm; have NB269_283 := zn hg BK269; replace BK269 := zB BK269 hb; have NB283_269 := jA NB269_283.out.symm; have NB277_283 := zn hg BK277; replace BK277 := zB BK277 hb; have NB283_277 := jA NB277_283.out.symm; clear hb hbox hg; have hnb57 := NB283_266.out; have hnc57 := NB266_283.out; have hnb58 := NB283_267.out; have hnc58 := NB267_283.out; have hnb59 := NB283_268.out; have hnc59 := NB268_283.out; have hnb60 := NB283_269.out; have hnc60 := NB269_283.out; have hnb61 := NB283_277.out; have hnc61 := NB277_283.out; have hcz62 := zc2 BK283; obtain ⟨Ao63, co63, eo63⟩ := Kd.R_slice HO281.out; subst eo63))
      have n0_ : Aside0 (Kd.R (Kd.int .i64) 2 ((w56.setCell ⟨gb283, 0, none⟩ (.int .i64 t278)).setCell ⟨gb283, 1, none⟩ (.slice Ao63 t279.length co63)) w.heap.size (fun k_ => some k_ ≠ (.slice Ao63 t279.length co63 : Value).ownBlock) (.slice Ao51 t273.length co51) t273) := ⟨by (with_reducible repeat (first | apply jR | apply jQ | apply jP)); exact Kd.R_mono (Kd.R_far (p := ⟨gb283, 1, none⟩) (Kd.R_far (p := ⟨gb283, 0, none⟩) (Kd.R_types HO275.out BK283.out (by decide)) (fun _ hk => hk.2) (.int .i64 t278)) (fun _ hk => hk.2) (.slice Ao63 t279.length co63)) (fun _ hk => hk.1.2)⟩
      have n1_ : Aside0 (Kd.R (Kd.int .i64) 2 ((w56.setCell ⟨gb283, 0, none⟩ (.int .i64 t278)).setCell ⟨gb283, 1, none⟩ (.slice Ao63 t279.length co63)) w.heap.size (fun k_ => some k_ ≠ (.slice Ao51 t273.length co51 : Value).ownBlock) (.slice Ao63 t279.length co63) t279) := ⟨by (with_reducible repeat (first | apply jR | apply jQ | apply jP)); exact Kd.R_mono (Kd.R_far (p := ⟨gb283, 1, none⟩) (Kd.R_far (p := ⟨gb283, 0, none⟩) (Kd.R_types HO281.out BK283.out (by decide)) (fun _ hk => hk.2) (.int .i64 t278)) (fun _ hk => hk.2) (.slice Ao63 t279.length co63)) (fun _ hk => hk.1.2)⟩
      have n2_ : Aside0 (((w56.setCell ⟨gb283, 0, none⟩ (.int .i64 t278)).setCell ⟨gb283, 1, none⟩ (.slice Ao63 t279.length co63)).heap[gb266]? = some (.cells #[.int .i64 a1_0, .slice A1_1 l1_1.length c1_1] 28 (0, 0))) := ⟨zQ1 BK266 NB266_283⟩
      have n3_ : Aside0 (((w56.setCell ⟨gb283, 0, none⟩ (.int .i64 t278)).setCell ⟨gb283, 1, none⟩ (.slice Ao63 t279.length co63)).heap[gb267]? = some (.cells #[.int .i64 a2_0, .slice A2_1 l2_1.length c2_1] 28 (0, 0))) := ⟨zQ1 BK267 NB267_283⟩
      have n4_ : Aside0 (((w56.setCell ⟨gb283, 0, none⟩ (.int .i64 t278)).setCell ⟨gb283, 1, none⟩ (.slice Ao63 t279.length co63)).heap[gb268]? = some (.cells #[.int .i64 0, .slice none 0 0] 28 (0, 0))) := ⟨zQ1 BK268 NB268_283⟩
      have n5_ : Aside0 (((w56.setCell ⟨gb283, 0, none⟩ (.int .i64 t278)).setCell ⟨gb283, 1, none⟩ (.slice Ao63 t279.length co63)).heap[gb269]? = some (.cells #[.int .i64 0, .slice none 0 0] 28 (0, 0))) := ⟨zQ1 BK269 NB269_283⟩
      have n6_ : Aside0 (((w56.setCell ⟨gb283, 0, none⟩ (.int .i64 t278)).setCell ⟨gb283, 1, none⟩ (.slice Ao63 t279.length co63)).heap[gb277]? = some (.cells #[.int .i64 t272, .slice Ao51 t273.length co51] 28 (0, 0))) := ⟨zQ1 BK277 NB277_283⟩
      have n7_ : Aside0 (((w56.setCell ⟨gb283, 0, none⟩ (.int .i64 t278)).setCell ⟨gb283, 1, none⟩ (.slice Ao63 t279.length co63)).heap[gb283]? = some (.cells #[.int .i64 t278, .slice Ao63 t279.length co63] 28 (0, 0))) := ⟨zP0 BK283⟩
      have n8_ : Aside0 (Below w.heap.size w ((w56.setCell ⟨gb283, 0, none⟩ (.int .i64 t278)).setCell ⟨gb283, 1, none⟩ (.slice Ao63 t279.length co63))) := ⟨zb6 HB GE266 GE267 GE268 GE269 GE277 GE283⟩
      (try clear HO275)
      (try clear HO281)
      (try clear BK266)
      (try clear BK267)
      (try clear BK268)
      (try clear BK269)
      (try clear BK277)
      (try clear BK283)
      (try clear HB)
      generalize ((w56.setCell ⟨gb283, 0, none⟩ (.int .i64 t278)).setCell ⟨gb283, 1, none⟩ (.slice Ao63 t279.length co63)) = w64 at n0_ n1_ n2_ n3_ n4_ n5_ n6_ n7_ n8_ ⊢
      have HO275 := n0_
      have HO281 := n1_
      have BK266 := n2_
      have BK267 := n3_
      have BK268 := n4_
      have BK269 := n5_
      have BK277 := n6_
      have BK283 := n7_
      have HB := n8_
      clear n0_ n1_ n2_ n3_ n4_ n5_ n6_ n7_ n8_
      replace HO275 := jA (jP HO275.out)
      replace HO281 := jA (jP HO281.out)
      replace BK266 := jA (blk_drew BK266.out)
      replace BK267 := jA (blk_drew BK267.out)
      replace BK268 := jA (blk_drew BK268.out)
      replace BK269 := jA (blk_drew BK269.out)
      replace BK277 := jA (blk_drew BK277.out)
      replace BK283 := jA (blk_drew BK283.out)
      replace HB := jA (below_drew1 HB.out)
      refine start_ (n := 5) (S := fun w' => w'.cell? ⟨gb277, 0, none⟩ = some (.int .i64 t272) ∧ w'.cell? ⟨gb277, 1, none⟩ = some (.slice Ao51 t273.length co51) ∧ w'.cell? ⟨gb283, 0, none⟩ = some (.int .i64 t278) ∧ w'.cell? ⟨gb283, 1, none⟩ = some (.slice Ao63 t279.length co63)) (ds := []) #[false, false, false, false, false] zr rfl rfl ⟨(jF BK277.out 0).trans rfl, (jF BK277.out 1).trans rfl, (jF BK283.out 0).trans rfl, (jF BK283.out 1).trans rfl⟩ (fun hHeld => ?_)
      generalize w64.drew = w65 at HO275 HO281 BK266 BK267 BK268 BK269 BK277 BK283 HB hHeld ⊢
      refine take_ (i := 0) (N := some 54) (v := ?_) (a' := ?_) #[true, false, false, false, false] rfl rfl zr (fun _ _ _ h => h) (Or.inl ⟨by rfl, ?_⟩) hHeld ?_ ?_
      rotate_left
      ·rintro w' ⟨s0, s1, s2, s3⟩
       go_simp
       with_reducible rfl
      rotate_left
      ·simp only [Act.put, jC, jH, jI, i64_w, i32_w]
       rfl
      refine take_ (i := 1) (N := some 55) (v := ?_) (a' := ?_) #[true, true, false, false, false] rfl rfl zr (fun _ _ _ h => h) (Or.inl ⟨by rfl, ?_⟩) hHeld ?_ ?_
      rotate_left
      ·rintro w' ⟨s0, s1, s2, s3⟩
       go_simp
       with_reducible rfl
      rotate_left
      ·simp only [Act.put, jC, jH, jI, i64_w, i32_w]
       rfl
      refine one_ (i := 2) (N := none) #[true, true, true, false, false] rfl rfl zr (by decide) (fun K hK => ?_)
      have hs66 : w65.cell? ⟨gb268, 0, none⟩ = some (.int .i64 0) := (jF BK268.out 0).trans rfl
      have hfs66 := blk_frozen BK268.out 0
      have hns66_0 := NB266_268.out
      have hns66_1 := NB267_268.out
      have hns66_3 := NB269_268.out
      have hns66_4 := NB277_268.out
      have hns66_5 := NB283_268.out
      have hms66_0 := NB268_266.out
      have hms66_1 := NB268_267.out
      have hms66_3 := NB268_269.out
      have hms66_4 := NB268_277.out
      have hms66_5 := NB268_283.out
      have hs67 : w65.cell? ⟨gb268, 1, none⟩ = some (.slice none 0 0) := (jF BK268.out 1).trans rfl
      have hfs67 := blk_frozen BK268.out 1
      have hns67_0 := NB266_268.out
      have hns67_1 := NB267_268.out
      have hns67_3 := NB269_268.out
      have hns67_4 := NB277_268.out
      have hns67_5 := NB283_268.out
      have hms67_0 := NB268_266.out
      have hms67_1 := NB268_267.out
      have hms67_3 := NB268_269.out
      have hms67_4 := NB268_277.out
      have hms67_5 := NB268_283.out
      refine skip_ (w1 := ?_) (by rfl) rfl ?_ ?_
      rotate_left
      ·go_simp
       rfl
      refine hK.out _ _ ⟨((jL (p := ⟨gb268, _, none⟩) NB277_268.out _).trans (((jL (p := ⟨gb268, _, none⟩) NB277_268.out _).trans (hHeld.1)))), ((jL (p := ⟨gb268, _, none⟩) NB277_268.out _).trans (((jL (p := ⟨gb268, _, none⟩) NB277_268.out _).trans (hHeld.2.1)))), ((jL (p := ⟨gb268, _, none⟩) NB283_268.out _).trans (((jL (p := ⟨gb268, _, none⟩) NB283_268.out _).trans (hHeld.2.2.1)))), ((jL (p := ⟨gb268, _, none⟩) NB283_268.out _).trans (((jL (p := ⟨gb268, _, none⟩) NB283_268.out _).trans (hHeld.2.2.2))))⟩ (fun hHeld => ?_)
      clear hK K
      refine one_ (i := 3) (N := none) #[true, true, true, true, false] rfl rfl zr (by decide) (fun K hK => ?_)
      have hs68 : w65.cell? ⟨gb269, 0, none⟩ = some (.int .i64 0) := (jF BK269.out 0).trans rfl
      have hfs68 := blk_frozen BK269.out 0
      have hns68_0 := NB266_269.out
      have hns68_1 := NB267_269.out
      have hns68_2 := NB268_269.out
      have hns68_4 := NB277_269.out
      have hns68_5 := NB283_269.out
      have hms68_0 := NB269_266.out
      have hms68_1 := NB269_267.out
      have hms68_2 := NB269_268.out
      have hms68_4 := NB269_277.out
      have hms68_5 := NB269_283.out
      have hs69 : w65.cell? ⟨gb269, 1, none⟩ = some (.slice none 0 0) := (jF BK269.out 1).trans rfl
      have hfs69 := blk_frozen BK269.out 1
      have hns69_0 := NB266_269.out
      have hns69_1 := NB267_269.out
      have hns69_2 := NB268_269.out
      have hns69_4 := NB277_269.out
      have hns69_5 := NB283_269.out
      have hms69_0 := NB269_266.out
      have hms69_1 := NB269_267.out
      have hms69_2 := NB269_268.out
      have hms69_4 := NB269_277.out
      have hms69_5 := NB269_283.out
      refine skip_ (w1 := ?_) (by rfl) rfl ?_ ?_
      rotate_left
      ·go_simp
       rfl
      refine hK.out _ _ ⟨((jL (p := ⟨gb269, _, none⟩) NB277_269.out _).trans (((jL (p := ⟨gb269, _, none⟩) NB277_269.out _).trans (hHeld.1)))), ((jL (p := ⟨gb269, _, none⟩) NB277_269.out _).trans (((jL (p := ⟨gb269, _, none⟩) NB277_269.out _).trans (hHeld.2.1)))), ((jL (p := ⟨gb269, _, none⟩) NB283_269.out _).trans (((jL (p := ⟨gb269, _, none⟩) NB283_269.out _).trans (hHeld.2.2.1)))), ((jL (p := ⟨gb269, _, none⟩) NB283_269.out _).trans (((jL (p := ⟨gb269, _, none⟩) NB283_269.out _).trans (hHeld.2.2.2))))⟩ (fun hHeld => ?_)
      clear hK K
      refine pure_ (i := 4) (N := some 12) (v := ?_) (a' := ?_) #[true, true, true, true, true] rfl rfl zr (fun _ _ _ h => h) (Or.inl ⟨by rfl, ?_⟩) ?_ ?_
      rotate_left
      ·intro w'
       go_simp
       with_reducible rfl
      rotate_left
      ·simp only [Act.put, jC, jH, jI, i64_w, i32_w]
       rfl
      refine done_ zr ?_
      try go_wp2
      refine jX (results_list (rs := [.cell 10 28, .cell 11 28, .tmp 12]) rfl (by simp) (.cell gb268 28 #[.int .i64 t272, .slice Ao51 t273.length co51] (0, 0) _ rfl (zP1 BK268 NB268_269) Try.underlying28 rfl zr (.cell gb269 28 #[.int .i64 t278, .slice Ao63 t279.length co63] (0, 0) _ rfl (zP1 BK269 NB269_268) Try.underlying28 rfl zr (.tmp .nil)))) rfl ?_
      exact ⟨_, _, by first | rfl | (simp [errW_none, errW_some] <;> rfl) | (simp [*, errW_none, errW_some] <;> rfl), by (with_reducible repeat (first | apply jR | apply jQ | apply jP)); exact Kd.R_mono (Kd.R_far (p := ⟨gb269, 1, none⟩) (Kd.R_far (p := ⟨gb269, 0, none⟩) (Kd.R_far (p := ⟨gb268, 1, none⟩) (Kd.R_far (p := ⟨gb268, 0, none⟩) (Kd.R_types (Kd.R_types HO275.out BK268.out (by decide)) BK269.out (by decide)) (fun _ hk => hk.1.2) (.int .i64 t272)) (fun _ hk => hk.1.2) (.slice Ao51 t273.length co51)) (fun _ hk => hk.2) (.int .i64 t278)) (fun _ hk => hk.2) (.slice Ao63 t279.length co63)) (fun _ hk => hk.1.1), by (with_reducible repeat (first | apply jR | apply jQ | apply jP)); exact Kd.R_mono (Kd.R_far (p := ⟨gb269, 1, none⟩) (Kd.R_far (p := ⟨gb269, 0, none⟩) (Kd.R_far (p := ⟨gb268, 1, none⟩) (Kd.R_far (p := ⟨gb268, 0, none⟩) (Kd.R_types (Kd.R_types HO281.out BK268.out (by decide)) BK269.out (by decide)) (fun _ hk => hk.1.2) (.int .i64 t272)) (fun _ hk => hk.1.2) (.slice Ao51 t273.length co51)) (fun _ hk => hk.2) (.int .i64 t278)) (fun _ hk => hk.2) (.slice Ao63 t279.length co63)) (fun _ hk => hk.1.1), zb6 HB GE266 GE267 GE268 GE269 GE277 GE283⟩
     ·rw [if_neg c39] at H
      have c39b0 : (t282 == 0) = false := beq_eq_false_iff_ne.mpr c39
      have c39b1 : (t282 != 0) = true := bne_iff_ne.mpr c39
      simp only [jM, jS] at H
      obtain ⟨rfl, rfl, rfl, rfl, rfl⟩ := H
      have hnb70 := NB266_267.out
      have hnc70 := NB267_266.out
      have hnb71 := NB266_268.out
      have hnc71 := NB268_266.out
      have hnb72 := NB266_269.out
      have hnc72 := NB269_266.out
      have hcz73 := zc2 BK266
      go_wp2_with (first | ((with_reducible refine jG (f := 36) rfl ?_); refine zL (some 33) Try.func36 #[.slice A0 l0.length c0, .agg #[.int .i64 a1_0, .slice A1_1 l1_1.length c1_1], .string a3, .int .i64 a4] ?_; (with_reducible refine (impl_TakePieces.calls kj5 _ _ l0 a1_0 _ _ l1_1 a3 a4 t272 t273 t276 _ ?side1 ?side2 ?side3 ?side4 A36.out).mono ?_); (case side1 => exact zs HR0 HB); (case side2 => exact HC0.out); (case side3 => exact zs HR1_1 HB); (case side4 => exact HC1_1.out); rintro e w74 ⟨v274, rfl, ho0, hb⟩; refine ⟨_, rfl, ?_⟩; have HO275 := jA (jU ho0 (jW (zb4 HB GE266 GE267 GE268 GE269))); replace BK266 := zB BK266 hb; replace BK267 := zB BK267 hb; replace BK268 := zB BK268 hb; replace BK269 := zB BK269 hb; replace HB := zS4 HB GE266 GE267 GE268 GE269 hb; (try clear hb); (try clear hb2); (try clear hk); (try clear hi); (try clear ho0)) | ((with_reducible refine jJ (N := 13) rfl ?_); refine zE 13 #[.int .i64 0, .slice none 0 0] 28 ?_; intro gb277 hg w75 hbox hb; replace HO275 := jA (jE (zo HO275) hb); have BK277 := jA (hbox); have GW277 := zg4 hg HB GE266 GE267 GE268 GE269; have GE277 := zg4 hg HB GE266 GE267 GE268 GE269; replace HB := zS4 HB GE266 GE267 GE268 GE269 hb; have NB266_277 := zn hg BK266; replace BK266 := zB BK266 hb; have NB277_266 := jA NB266_277.out.symm; have NB267_277 := zn hg BK267; replace BK267 := zB BK267 hb; have NB277_267 := jA NB267_277.out.symm; have NB268_277 := zn hg BK268; replace BK268 := zB BK268 hb; have NB277_268 := jA NB268_277.out.symm; have NB269_277 := zn hg BK269; replace BK269 := zB BK269 hb; have NB277_269 := jA NB269_277.out.symm; clear hb hbox hg; have hnb76 := NB277_266.out; have hnc76 := NB266_277.out; have hnb77 := NB277_267.out; have hnc77 := NB267_277.out; have hnb78 := NB277_268.out; have hnc78 := NB268_277.out; have hnb79 := NB277_269.out; have hnc79 := NB269_277.out; have hcz80 := zc2 BK277; obtain ⟨Ao81, co81, eo81⟩ := Kd.R_slice HO275.out; subst eo81; have hnb82 := NB267_268.out; have hnc82 := NB268_267.out; have hnb83 := NB267_269.out; have hnc83 := NB269_267.out; have hcz84 := zc2 BK267) | ((with_reducible refine jG (f := 39) rfl ?_); refine zL (some 46) Try.func39 #[.slice A0 l0.length c0, .agg #[.int .i64 a2_0, .slice A2_1 l2_1.length c2_1], .string a3, .int .i64 a4] ?_; (with_reducible refine (impl_StorePieces.calls kj5 _ _ l0 a2_0 _ _ l2_1 a3 a4 t278 t279 t282 _ ?side1 ?side2 ?side3 ?side4 A38.out).mono ?_); (case side1 => exact Kd.C_below HR0.out (zb5 HB GE266 GE267 GE268 GE269 GE277)); (case side2 => exact HC0.out); (case side3 => exact Kd.C_below HR2_1.out (zb5 HB GE266 GE267 GE268 GE269 GE277)); (case side4 => exact HC2_1.out); rintro e w85 ⟨v280, rfl, ho0, hb⟩; refine ⟨_, rfl, ?_⟩; have HO281 := jA (jU (Kd.R_new' ho0 (Kd.R_lt (zU HO275 BK277))) (jW (zb5 HB GE266 GE267 GE268 GE269 GE277))); replace HO275 := jA (Kd.R_elder' (zU HO275 BK277) (Kd.R_base ho0) hb); replace BK266 := jA (jT (g := gb266) (o := .cells #[.int .i64 a1_0, .slice A1_1 l1_1.length c1_1] 28 (0, 0)) (zQ1 BK266 NB266_277) hb); replace BK267 := jA (jT (g := gb267) (o := .cells #[.int .i64 a2_0, .slice A2_1 l2_1.length c2_1] 28 (0, 0)) (zQ1 BK267 NB267_277) hb); replace BK268 := jA (jT (g := gb268) (o := .cells #[.int .i64 0, .slice none 0 0] 28 (0, 0)) (zQ1 BK268 NB268_277) hb); replace BK269 := jA (jT (g := gb269) (o := .cells #[.int .i64 0, .slice none 0 0] 28 (0, 0)) (zQ1 BK269 NB269_277) hb); replace BK277 := jA (jT (g := gb277) (o := .cells #[.int .i64 t272, .slice Ao81 t273.length co81] 28 (0, 0)) (zP0 BK277) hb); replace HB := zS5 HB GE266 GE267 GE268 GE269 GE277 hb; (try clear hb); (try clear hb2); (try clear hk); (try clear hi); (try clear ho0)) | ((with_reducible refine jJ (N := 15) rfl ?_); refine zE 15 #[.int .i64 0, .slice none 0 0] 28 ?_; intro gb283 hg w86 hbox hb; replace HO275 := jA (jE (zo HO275) hb); replace HO281 := jA (jE (zo HO281) hb); have BK283 := jA (hbox); have GW283 := zg5 hg HB GE266 GE267 GE268 GE269 GE277; have GE283 := zg5 hg HB GE266 GE267 GE268 GE269 GE277; replace HB := zS5 HB GE266 GE267 GE268 GE269 GE277 hb; have NB266_283 := zn hg BK266; replace BK266 := zB BK266 hb; have NB283_266 := jA NB266_283.out.symm; have NB267_283 := zn hg BK267; replace BK267 := zB BK267 hb; have NB283_267 := jA NB267_283.out.symm; have NB268_283 := zn hg BK268; replace BK268 := zB BK268 hb; have NB283_268 := jA NB268_283.out.symm; have NB269_283 := zn hg BK269; replace BK269 := zB BK269 hb; have NB283_269 := jA NB269_283.out.symm; have NB277_283 := zn hg BK277; replace BK277 := zB BK277 hb; have NB283_277 := jA NB277_283.out.symm; clear hb hbox hg; have hnb87 := NB283_266.out; have hnc87 := NB266_283.out; have hnb88 := NB283_267.out; have hnc88 := NB267_283.out; have hnb89 := NB283_268.out; have hnc89 := NB268_283.out; have hnb90 := NB283_269.out; have hnc90 := NB269_283.out; have hnb91 := NB283_277.out; have hnc91 := NB277_283.out; have hcz92 := zc2 BK283; obtain ⟨Ao93, co93, eo93⟩ := Kd.R_slice HO281.out; subst eo93; have hnb94 := NB268_269.out; have hnc94 := NB269_268.out; have hcz95 := zc2 BK268; have hcz96 := zc2 BK269))
      refine jX (results_list (rs := [.cell 10 28, .cell 11 28, .tmp 12]) rfl (by simp) (.cell gb268 28 #[.int .i64 0, .slice none 0 0] (0, 0) _ rfl (zP2 BK268 NB268_269 NB268_283) Try.underlying28 rfl zr (.cell gb269 28 #[.int .i64 0, .slice none 0 0] (0, 0) _ rfl (zP2 BK269 NB269_268 NB269_283) Try.underlying28 rfl zr (.tmp .nil)))) rfl ?_
      exact ⟨_, _, by first | rfl | (simp [errW_none, errW_some] <;> rfl) | (simp [*, errW_none, errW_some] <;> rfl), by first | exact Kd.R_nil _ _ _ _ _ | exact Kd.N_nil _ _ _ _ _ | exact Kd.V_nil _ _ _ _ _ | exact Kd.Q_nil _ _ _ _ _ | exact Kd.S_nil _ _ _ _ _, by first | exact Kd.R_nil _ _ _ _ _ | exact Kd.N_nil _ _ _ _ _ | exact Kd.V_nil _ _ _ _ _ | exact Kd.Q_nil _ _ _ _ _ | exact Kd.S_nil _ _ _ _ _, zb6 HB GE266 GE267 GE268 GE269 GE277 GE283⟩
    ·rw [if_neg c37] at H
     have c37b0 : (t276 == 0) = false := beq_eq_false_iff_ne.mpr c37
     have c37b1 : (t276 != 0) = true := bne_iff_ne.mpr c37
     simp only [jM, jS] at H
     obtain ⟨rfl, rfl, rfl, rfl, rfl⟩ := H
     have hnb97 := NB266_267.out
     have hnc97 := NB267_266.out
     have hnb98 := NB266_268.out
     have hnc98 := NB268_266.out
     have hnb99 := NB266_269.out
     have hnc99 := NB269_266.out
     have hcz100 := zc2 BK266
     go_wp2_with (first | ((with_reducible refine jG (f := 36) rfl ?_); refine zL (some 33) Try.func36 #[.slice A0 l0.length c0, .agg #[.int .i64 a1_0, .slice A1_1 l1_1.length c1_1], .string a3, .int .i64 a4] ?_; (with_reducible refine (impl_TakePieces.calls kj5 _ _ l0 a1_0 _ _ l1_1 a3 a4 t272 t273 t276 _ ?side1 ?side2 ?side3 ?side4 A36.out).mono ?_); (case side1 => exact zs HR0 HB); (case side2 => exact HC0.out); (case side3 => exact zs HR1_1 HB); (case side4 => exact HC1_1.out); rintro e w101 ⟨v274, rfl, ho0, hb⟩; refine ⟨_, rfl, ?_⟩; have HO275 := jA (jU ho0 (jW (zb4 HB GE266 GE267 GE268 GE269))); replace BK266 := zB BK266 hb; replace BK267 := zB BK267 hb; replace BK268 := zB BK268 hb; replace BK269 := zB BK269 hb; replace HB := zS4 HB GE266 GE267 GE268 GE269 hb; (try clear hb); (try clear hb2); (try clear hk); (try clear hi); (try clear ho0)) | ((with_reducible refine jJ (N := 13) rfl ?_); refine zE 13 #[.int .i64 0, .slice none 0 0] 28 ?_; intro gb277 hg w102 hbox hb; replace HO275 := jA (jE (zo HO275) hb); have BK277 := jA (hbox); have GW277 := zg4 hg HB GE266 GE267 GE268 GE269; have GE277 := zg4 hg HB GE266 GE267 GE268 GE269; replace HB := zS4 HB GE266 GE267 GE268 GE269 hb; have NB266_277 := zn hg BK266; replace BK266 := zB BK266 hb; have NB277_266 := jA NB266_277.out.symm; have NB267_277 := zn hg BK267; replace BK267 := zB BK267 hb; have NB277_267 := jA NB267_277.out.symm; have NB268_277 := zn hg BK268; replace BK268 := zB BK268 hb; have NB277_268 := jA NB268_277.out.symm; have NB269_277 := zn hg BK269; replace BK269 := zB BK269 hb; have NB277_269 := jA NB269_277.out.symm; clear hb hbox hg; have hnb103 := NB277_266.out; have hnc103 := NB266_277.out; have hnb104 := NB277_267.out; have hnc104 := NB267_277.out; have hnb105 := NB277_268.out; have hnc105 := NB268_277.out; have hnb106 := NB277_269.out; have hnc106 := NB269_277.out; have hcz107 := zc2 BK277; obtain ⟨Ao108, co108, eo108⟩ := Kd.R_slice HO275.out; subst eo108; have hnb109 := NB268_267.out; have hnc109 := NB267_268.out; have hnb110 := NB268_269.out; have hnc110 := NB269_268.out; have hcz111 := zc2 BK268; have hnb112 := NB269_267.out; have hnc112 := NB267_269.out; have hcz113 := zc2 BK269))
     refine jX (results_list (rs := [.cell 10 28, .cell 11 28, .tmp 12]) rfl (by simp) (.cell gb268 28 #[.int .i64 0, .slice none 0 0] (0, 0) _ rfl (zP2 BK268 NB268_269 NB268_277) Try.underlying28 rfl zr (.cell gb269 28 #[.int .i64 0, .slice none 0 0] (0, 0) _ rfl (zP2 BK269 NB269_268 NB269_277) Try.underlying28 rfl zr (.tmp .nil)))) rfl ?_
     exact ⟨_, _, by first | rfl | (simp [errW_none, errW_some] <;> rfl) | (simp [*, errW_none, errW_some] <;> rfl), by first | exact Kd.R_nil _ _ _ _ _ | exact Kd.N_nil _ _ _ _ _ | exact Kd.V_nil _ _ _ _ _ | exact Kd.Q_nil _ _ _ _ _ | exact Kd.S_nil _ _ _ _ _, by first | exact Kd.R_nil _ _ _ _ _ | exact Kd.N_nil _ _ _ _ _ | exact Kd.V_nil _ _ _ _ _ | exact Kd.Q_nil _ _ _ _ _ | exact Kd.S_nil _ _ _ _ _, zb5 HB GE266 GE267 GE268 GE269 GE277⟩

end Go.Proofs.Ytdgglhfnlljmeaa.PFnMoved
