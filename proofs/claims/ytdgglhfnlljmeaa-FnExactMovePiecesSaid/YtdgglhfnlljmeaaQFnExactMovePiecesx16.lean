/- Functions and contracts that FnExactMovePieces reaches (17 of 24). -/
import Derived.Test.YtdgglhfnlljmeaaQFnExactMovePiecesx15
namespace Go.Proofs.Ytdgglhfnlljmeaa.PFnExactMovePieces
open Go.RowKit Go.Proofs.YtdgglhfnlljmeaaW.PrintWords Go.Proofs.YtdgglhfnlljmeaaW.PrintLast Go.Proofs.YtdgglhfnlljmeaaW.PrintMore
attribute [local go_sem] max2_int min2_int max_two min_two max_three min_three max_four min_four   -- for this text's walks alone
set_option linter.unusedVariables false
set_option linter.unusedSimpArgs false
open Go.Proofs.YtdgglhfnlljmeaaX

/-! ### impl_isLawful: function 66 -/
def impl_isLawful.f (k : Nat) (l0 : List (S65)) (a1_0 : Int) (l1_1 : List Int) : Option (Bool) := (impl_netIn.f k l0 a1_0 l1_1).bind fun t299 => (if t299 ≤ a1_0 then ((impl_isMixed.f k l0 a1_0 l1_1).bind fun t300 => (some (!t300))) else (some false))
theorem impl_isLawful.mono : ∀ a0 a1 a2 k, LeO (impl_isLawful.f k a0 a1 a2) (impl_isLawful.f (k + 1) a0 a1 a2) := by
 intro a0 a1 a2 k
 unfold impl_isLawful.f
 repeat' first
   | (with_reducible exact impl_isMixed.mono _ _ _ _)
   | (with_reducible exact impl_netIn.mono _ _ _ _)
   | (with_reducible exact LeO.refl _)
   | (with_reducible exact LeO.none _)
   | (with_reducible refine LeO.ite ?_ ?_)
   | (with_reducible refine LeO.bind ?_ (fun _ => ?_))
   | exact impl_isMixed.mono _ _ _ _
   | exact impl_netIn.mono _ _ _ _
   | exact LeO.none _
   | refine LeO.ite ?_ ?_
   | refine LeO.bind ?_ (fun _ => ?_)
def impl_isLawful.T1 : Bool × List (List Nat × List Nat) := (true, [([], []), ([], []), ([0, 1], [0, 1]), ([], []), ([3], [3]), ([2, 4], [2, 4]), ([5, 2], [5]), ([6], [6]), ([6], [6]), ([7, 8, 6, 6], [6, 7, 8]), ([9, 6], [6, 9]), ([6, 10], [6, 10]), ([11, 9, 0, 1, 2, 3, 4, 5, 6, 7, 8, 9, 10, 11], [11])])
def impl_isLawful.B1 : List Nat := [0, 0, 3, 0, 8, 31, 63, 127, 127, 511, 1023, 2047, 4095]
theorem impl_isLawful.tab1 : rtab .any (opsOf Try.f66 1) = impl_isLawful.T1 := by kernel_rfl
theorem impl_isLawful.bits1 : waitsOk impl_isLawful.T1.2 impl_isLawful.B1 = true := by kernel_rfl
set_option maxHeartbeats 8000000 in
set_option maxRecDepth 100000 in
theorem impl_isLawful.calls (k : Nat) (A0 : Option Addr) (c0 : Nat) (l0 : List (S65)) (a1_0 : Int) (A1_1 : Option Addr) (c1_1 : Nat) (l1_1 : List Int) (r : Bool) (w : World) (hr0 : Kd.C k65 w A0 l0.length l0) (hc0 : l0.length ≤ c0) (hr1_1 : Kd.C (Kd.int .i64) w A1_1 l1_1.length l1_1) (hc1_1 : l1_1.length ≤ c1_1) (h : impl_isLawful.f k l0 a1_0 l1_1 = some r) :
  Calls Try.prog 66 #[.slice A0 l0.length c0, .agg #[.int .i64 a1_0, .slice A1_1 l1_1.length c1_1]] w fun e w' => e = .returned (.bool r) ∧ Below w.heap.size w w' := by
 have hu28 := Try.underlying28
 have HR0 := jA hr0
 have HC0 := jA hc0
 clear hr0 hc0
 have HR1_1 := jA hr1_1
 have HC1_1 := jA hc1_1
 clear hr1_1 hc1_1
 have HB := jA (Below.refl w.heap.size w)
 have H := h
 unfold impl_isLawful.f at H
 clear h
 replace H := jG.mp H
 obtain ⟨t299, A30, H⟩ := H
 try dsimp only at H
 have A3 := jA A30
 clear A30
 by_cases c4 : t299 ≤ a1_0
 ·rw [if_pos c4] at H
  have c4b0 : decide (t299 ≤ a1_0) = true := jI c4
  clear c4
  replace H := jG.mp H
  obtain ⟨t300, A50, H⟩ := H
  replace H : (some (!t300)) = some r := H
  have A5 := jA A50
  clear A50
  obtain rfl := jH H
  go_enter Try.func66, Try.ntmps66
  try go_wp2_with (first | ((with_reducible refine jJ (N := 3) rfl ?_); refine zE 3 #[.int .i64 a1_0, .slice A1_1 l1_1.length c1_1] 28 ?_; intro gb298 hg w6 hbox hb; have BK298 := jA (hbox); have GW298 := zg0 hg HB; have GE298 := zg0 hg HB; replace HB := zS0 HB hb; clear hb hbox hg))
  replace BK298 := jA (blk_drew BK298.out)
  replace HB := jA (jR HB.out)
  refine start_ (n := 13) (S := fun w' => w'.cell? ⟨gb298, 0, none⟩ = some (.int .i64 a1_0) ∧ w'.cell? ⟨gb298, 1, none⟩ = some (.slice A1_1 l1_1.length c1_1)) (ds := []) m13_0 zr rfl rfl ⟨(jD BK298.out 0).trans rfl, (jD BK298.out 1).trans rfl⟩ (fun hHeld => ?_); refine with_tabW impl_isLawful.tab1 impl_isLawful.bits1 (fun HT_ HW_ => ?_)
  generalize w6.drew = w7 at BK298 HB hHeld ⊢
  refine zp HT_ 0 5 m13_1000 ?_
  refine zp HT_ 3 8 m13_1200 ?_
  refine zt2 HT_ HW_ hHeld 1 6 m13_1a00 ?_
  refine zt2 HT_ HW_ hHeld 4 9 m13_1b00 ?_
  refine one_ (i := 2) (N := some 7) m13_1f00 rfl rfl (one_of HT_.out zr) (by decide) (fun K hK => ?_)
  refine goes_ Try.func64 zr rfl #[.slice A0 l0.length c0, .agg #[.int .i64 a1_0, .slice A1_1 l1_1.length c1_1]] (by rfl) rfl rfl zm ?_
  with_reducible refine (impl_netIn.calls k _ _ l0 a1_0 _ _ l1_1 t299 _ ?side1 ?side2 ?side3 ?side4 A3.out).mono ?_
  (case side1 => exact zs HR0 HB)
  (case side2 => exact HC0.out)
  (case side3 => exact zs HR1_1 HB)
  (case side4 => exact HC1_1.out)
  rintro e w8 ⟨rfl, hb⟩
  refine ⟨_, rfl, ?_⟩
  replace BK298 := zB BK298 hb
  replace HB := zS1 HB GE298 hb
  (try clear hb)
  (try clear hb2)
  (try clear hk)
  (try clear hi)
  refine hK.out _ _ ⟨(jD BK298.out 0).trans rfl, (jD BK298.out 1).trans rfl⟩ (fun hHeld => ?_)
  clear hK K
  refine norm_ (a' := ?_) ?_ ?_
  rotate_left
  ·show Act.put _ (some 7) _ = _
   simp only [Act.put, jC, jE, jF, i64_w, i32_w]
   rfl
  refine zp HT_ 5 10 m13_1f80 ?_
  refine zp HT_ 6 11 m13_1fc0 ?_
  refine zp HT_ 7 12 m13_1fe0 ?_
  refine zt2 HT_ HW_ hHeld 8 13 m13_1ff0 ?_
  refine one_ (i := 9) (N := some 14) m13_1ff8 rfl rfl (one_of HT_.out zr) (by decide) (fun K hK => ?_)
  refine goes_ Try.func68 zr rfl #[.slice A0 l0.length c0, .agg #[.int .i64 a1_0, .slice A1_1 l1_1.length c1_1]] (by rfl) rfl rfl zm ?_
  with_reducible refine (impl_isMixed.calls k _ _ l0 a1_0 _ _ l1_1 t300 _ ?side1 ?side2 ?side3 ?side4 A5.out).mono ?_
  (case side1 => exact zs HR0 HB)
  (case side2 => exact HC0.out)
  (case side3 => exact zs HR1_1 HB)
  (case side4 => exact HC1_1.out)
  rintro e w9 ⟨rfl, hb⟩
  refine ⟨_, rfl, ?_⟩
  replace BK298 := zB BK298 hb
  replace HB := zS1 HB GE298 hb
  (try clear hb)
  (try clear hb2)
  (try clear hk)
  (try clear hi)
  refine hK.out _ _ ⟨(jD BK298.out 0).trans rfl, (jD BK298.out 1).trans rfl⟩ (fun hHeld => ?_)
  clear hK K
  refine norm_ (a' := ?_) ?_ ?_
  rotate_left
  ·show Act.put _ (some 14) _ = _
   simp only [Act.put, jC, jE, jF, i64_w, i32_w]
   rfl
  refine zp HT_ 10 15 m13_1ffc ?_
  refine zp HT_ 11 16 m13_1ffe ?_
  refine zp HT_ 12 4 m13_1fff ?_
  refine done_ (done_of HT_.out zr) ?_
  try go_wp2
  go_ret
  exact ⟨ze, zb1 HB GE298⟩
 ·rw [if_neg c4] at H
  have c4b0 : decide (t299 ≤ a1_0) = false := jM c4
  clear c4
  obtain rfl := jH H
  go_enter Try.func66, Try.ntmps66
  try go_wp2_with (first | ((with_reducible refine jJ (N := 3) rfl ?_); refine zE 3 #[.int .i64 a1_0, .slice A1_1 l1_1.length c1_1] 28 ?_; intro gb298 hg w10 hbox hb; have BK298 := jA (hbox); have GW298 := zg0 hg HB; have GE298 := zg0 hg HB; replace HB := zS0 HB hb; clear hb hbox hg))
  replace BK298 := jA (blk_drew BK298.out)
  replace HB := jA (jR HB.out)
  refine start_ (n := 13) (S := fun w' => w'.cell? ⟨gb298, 0, none⟩ = some (.int .i64 a1_0) ∧ w'.cell? ⟨gb298, 1, none⟩ = some (.slice A1_1 l1_1.length c1_1)) (ds := []) m13_0 zr rfl rfl ⟨(jD BK298.out 0).trans rfl, (jD BK298.out 1).trans rfl⟩ (fun hHeld => ?_); refine with_tabW impl_isLawful.tab1 impl_isLawful.bits1 (fun HT_ HW_ => ?_)
  generalize w10.drew = w11 at BK298 HB hHeld ⊢
  refine zp HT_ 0 5 m13_1000 ?_
  refine zp HT_ 3 8 m13_1200 ?_
  refine zt2 HT_ HW_ hHeld 1 6 m13_1a00 ?_
  refine zt2 HT_ HW_ hHeld 4 9 m13_1b00 ?_
  refine one_ (i := 2) (N := some 7) m13_1f00 rfl rfl (one_of HT_.out zr) (by decide) (fun K hK => ?_)
  refine goes_ Try.func64 zr rfl #[.slice A0 l0.length c0, .agg #[.int .i64 a1_0, .slice A1_1 l1_1.length c1_1]] (by rfl) rfl rfl zm ?_
  with_reducible refine (impl_netIn.calls k _ _ l0 a1_0 _ _ l1_1 t299 _ ?side1 ?side2 ?side3 ?side4 A3.out).mono ?_
  (case side1 => exact zs HR0 HB)
  (case side2 => exact HC0.out)
  (case side3 => exact zs HR1_1 HB)
  (case side4 => exact HC1_1.out)
  rintro e w12 ⟨rfl, hb⟩
  refine ⟨_, rfl, ?_⟩
  replace BK298 := zB BK298 hb
  replace HB := zS1 HB GE298 hb
  (try clear hb)
  (try clear hb2)
  (try clear hk)
  (try clear hi)
  refine hK.out _ _ ⟨(jD BK298.out 0).trans rfl, (jD BK298.out 1).trans rfl⟩ (fun hHeld => ?_)
  clear hK K
  refine norm_ (a' := ?_) ?_ ?_
  rotate_left
  ·show Act.put _ (some 7) _ = _
   simp only [Act.put, jC, jE, jF, i64_w, i32_w]
   rfl
  refine zp HT_ 5 10 m13_1f80 ?_
  refine zp HT_ 6 11 m13_1fc0 ?_
  refine zq HT_ 7 12 m13_1fe0 ?_
  refine zq HT_ 8 13 m13_1ff0 ?_
  refine zq HT_ 9 14 m13_1ff8 ?_
  refine zq HT_ 10 15 m13_1ffc ?_
  refine zp HT_ 11 16 m13_1ffe ?_
  refine zp HT_ 12 4 m13_1fff ?_
  refine done_ (done_of HT_.out zr) ?_
  try go_wp2
  go_ret
  exact ⟨ze, zb1 HB GE298⟩

/-! ### impl_isStored: function 71 -/
def impl_isStored.f (k : Nat) (l0 : List (S65)) (a1_0 : Int) (l1_1 : List Int) (a2 : Int) (a3 : Int) : Option (Bool) := (impl_withPieces.f a1_0 l1_1 a2 a3).bind fun bt302 => ((impl_IsMagazine.f k l0 bt302.1 bt302.2).bind fun t307 => (if t307 = true then ((impl_isLawful.f k l0 bt302.1 bt302.2).bind fun t308 => (some t308)) else (some false)))
theorem impl_isStored.mono : ∀ a0 a1 a2 a3 a4 k, LeO (impl_isStored.f k a0 a1 a2 a3 a4) (impl_isStored.f (k + 1) a0 a1 a2 a3 a4) := by
 intro a0 a1 a2 a3 a4 k
 unfold impl_isStored.f
 repeat' first
   | (with_reducible exact impl_IsMagazine.mono _ _ _ _)
   | (with_reducible exact impl_isLawful.mono _ _ _ _)
   | (with_reducible exact LeO.refl _)
   | (with_reducible exact LeO.none _)
   | (with_reducible refine LeO.ite ?_ ?_)
   | (with_reducible refine LeO.bind ?_ (fun _ => ?_))
   | exact impl_IsMagazine.mono _ _ _ _
   | exact impl_isLawful.mono _ _ _ _
   | exact LeO.none _
   | refine LeO.ite ?_ ?_
   | refine LeO.bind ?_ (fun _ => ?_)
set_option maxHeartbeats 8000000 in
set_option maxRecDepth 100000 in
theorem impl_isStored.calls (k : Nat) (A0 : Option Addr) (c0 : Nat) (l0 : List (S65)) (a1_0 : Int) (A1_1 : Option Addr) (c1_1 : Nat) (l1_1 : List Int) (a2 : Int) (a3 : Int) (r : Bool) (w : World) (hr0 : Kd.C k65 w A0 l0.length l0) (hc0 : l0.length ≤ c0) (hr1_1 : Kd.C (Kd.int .i64) w A1_1 l1_1.length l1_1) (hc1_1 : l1_1.length ≤ c1_1) (h : impl_isStored.f k l0 a1_0 l1_1 a2 a3 = some r) :
  Calls Try.prog 71 #[.slice A0 l0.length c0, .agg #[.int .i64 a1_0, .slice A1_1 l1_1.length c1_1], .int .i64 a2, .int .i64 a3] w fun e w' => e = .returned (.bool r) ∧ Below w.heap.size w w' := by
 have hu28 := Try.underlying28
 have HR0 := jA hr0
 have HC0 := jA hc0
 clear hr0 hc0
 have HR1_1 := jA hr1_1
 have HC1_1 := jA hc1_1
 clear hr1_1 hc1_1
 have HB := jA (Below.refl w.heap.size w)
 have H := h
 unfold impl_isStored.f at H
 clear h
 replace H := jG.mp H
 obtain ⟨⟨t302, t303⟩, A50, H⟩ := H
 try dsimp only at H
 have A5 := jA A50
 clear A50
 replace H := jG.mp H
 obtain ⟨t307, A60, H⟩ := H
 try dsimp only at H
 have A6 := jA A60
 clear A60
 by_cases c7 : t307 = true
 ·subst c7
  rw [if_pos rfl] at H
  replace H := jG.mp H
  obtain ⟨t308, A80, H⟩ := H
  replace H : (some t308) = some r := H
  have A8 := jA A80
  clear A80
  obtain rfl := jH H
  go_enter Try.func71, Try.ntmps71
  go_wp2_with (first | ((with_reducible refine jJ (N := 5) rfl ?_); refine zE 5 #[.int .i64 a1_0, .slice A1_1 l1_1.length c1_1] 28 ?_; intro gb301 hg w9 hbox hb; have BK301 := jA (hbox); have GW301 := zg0 hg HB; have GE301 := zg0 hg HB; replace HB := zS0 HB hb; clear hb hbox hg; have hcz10 := zc2 BK301) | ((with_reducible refine jK (f := 74) rfl ?_); refine zL (some 13) Try.func74 #[.agg #[.int .i64 a1_0, .slice A1_1 l1_1.length c1_1], .int .i64 a2, .int .i64 a3] ?_; (with_reducible refine (impl_withPieces.calls a1_0 _ _ l1_1 a2 a3 t302 t303 _ ?side1 ?side2 A5.out).mono ?_); (case side1 => exact zs HR1_1 HB); (case side2 => exact HC1_1.out); rintro e w11 ⟨v304, rfl, ho0, hb⟩; refine ⟨_, rfl, ?_⟩; have HO305 := jA (Kd.R_lower ho0 (below_size (zb1 HB GE301))); replace BK301 := zB BK301 hb; replace HB := zS1 HB GE301 hb; (try clear hb); (try clear hb2); (try clear hk); (try clear hi); (try clear ho0)) | ((with_reducible refine jJ (N := 9) rfl ?_); refine zE 9 #[.int .i64 0, .slice none 0 0] 28 ?_; intro gb306 hg w12 hbox hb; replace HO305 := jA (Kd.R_below (zo HO305) hb); have BK306 := jA (hbox); have GW306 := zg1 hg HB GE301; have GE306 := zg1 hg HB GE301; replace HB := zS1 HB GE301 hb; have NB301_306 := zn hg BK301; replace BK301 := zB BK301 hb; have NB306_301 := jA NB301_306.out.symm; clear hb hbox hg; have hnb13 := NB306_301.out; have hnc13 := NB301_306.out; have hcz14 := zc2 BK306; obtain ⟨Ao15, co15, eo15⟩ := Kd.R_slice HO305.out; subst eo15) | ((with_reducible refine jK (f := 26) rfl ?_); refine zL (some 16) Try.func26 #[.slice A0 l0.length c0, .agg #[.int .i64 t302, .slice Ao15 t303.length co15]] ?_; (with_reducible refine (impl_IsMagazine.calls k _ _ l0 t302 _ _ t303 true _ ?side1 ?side2 ?side3 ?side4 A6.out).mono ?_); (case side1 => exact Kd.C_below HR0.out (zb2 HB GE301 GE306)); (case side2 => exact HC0.out); (case side3 => refine (jP (e := 2) (base := w.heap.size) (ok := fun k_ => True) (n := t303.length) (c := co15) ?_).2.2; exact (zU HO305 BK306)); (case side4 => exact (jP HO305.out).2.1); rintro e w16 ⟨rfl, hb⟩; refine ⟨_, rfl, ?_⟩; replace HO305 := jA (Kd.R_below (zU HO305 BK306) hb); replace BK301 := jA (jO (g := gb301) (o := .cells #[.int .i64 a1_0, .slice A1_1 l1_1.length c1_1] 28 (0, 0)) (zQ1 BK301 NB301_306) hb); replace BK306 := jA (jO (g := gb306) (o := .cells #[.int .i64 t302, .slice Ao15 t303.length co15] 28 (0, 0)) (zP0 BK306) hb); replace HB := zS2 HB GE301 GE306 hb; clear hb; have hcz17 := zc2 BK306) | (go_at_call 66; (with_reducible refine (impl_isLawful.calls k _ _ l0 t302 _ _ t303 t308 _ ?side1 ?side2 ?side3 ?side4 A8.out).mono ?_); (case side1 => exact zs HR0 HB); (case side2 => exact HC0.out); (case side3 => exact zv HO305); (case side4 => exact (jP HO305.out).2.1); rintro e w18 ⟨rfl, hb⟩; replace HO305 := jA (Kd.R_below (zo HO305) hb); replace BK301 := zB BK301 hb; replace BK306 := zB BK306 hb; replace HB := zS2 HB GE301 GE306 hb; (try clear hb); (try clear hb2); (try clear hk); (try clear hi)))
  go_ret
  exact ⟨ze, zb2 HB GE301 GE306⟩
 ·replace c7 := Bool.eq_false_iff.mpr c7
  subst c7
  rw [if_neg zfalse] at H
  obtain rfl := jH H
  go_enter Try.func71, Try.ntmps71
  go_wp2_with (first | ((with_reducible refine jJ (N := 5) rfl ?_); refine zE 5 #[.int .i64 a1_0, .slice A1_1 l1_1.length c1_1] 28 ?_; intro gb301 hg w19 hbox hb; have BK301 := jA (hbox); have GW301 := zg0 hg HB; have GE301 := zg0 hg HB; replace HB := zS0 HB hb; clear hb hbox hg; have hcz20 := zc2 BK301) | ((with_reducible refine jK (f := 74) rfl ?_); refine zL (some 13) Try.func74 #[.agg #[.int .i64 a1_0, .slice A1_1 l1_1.length c1_1], .int .i64 a2, .int .i64 a3] ?_; (with_reducible refine (impl_withPieces.calls a1_0 _ _ l1_1 a2 a3 t302 t303 _ ?side1 ?side2 A5.out).mono ?_); (case side1 => exact zs HR1_1 HB); (case side2 => exact HC1_1.out); rintro e w21 ⟨v304, rfl, ho0, hb⟩; refine ⟨_, rfl, ?_⟩; have HO305 := jA (Kd.R_lower ho0 (below_size (zb1 HB GE301))); replace BK301 := zB BK301 hb; replace HB := zS1 HB GE301 hb; (try clear hb); (try clear hb2); (try clear hk); (try clear hi); (try clear ho0)) | ((with_reducible refine jJ (N := 9) rfl ?_); refine zE 9 #[.int .i64 0, .slice none 0 0] 28 ?_; intro gb306 hg w22 hbox hb; replace HO305 := jA (Kd.R_below (zo HO305) hb); have BK306 := jA (hbox); have GW306 := zg1 hg HB GE301; have GE306 := zg1 hg HB GE301; replace HB := zS1 HB GE301 hb; have NB301_306 := zn hg BK301; replace BK301 := zB BK301 hb; have NB306_301 := jA NB301_306.out.symm; clear hb hbox hg; have hnb23 := NB306_301.out; have hnc23 := NB301_306.out; have hcz24 := zc2 BK306; obtain ⟨Ao25, co25, eo25⟩ := Kd.R_slice HO305.out; subst eo25) | ((with_reducible refine jK (f := 26) rfl ?_); refine zL (some 16) Try.func26 #[.slice A0 l0.length c0, .agg #[.int .i64 t302, .slice Ao25 t303.length co25]] ?_; (with_reducible refine (impl_IsMagazine.calls k _ _ l0 t302 _ _ t303 false _ ?side1 ?side2 ?side3 ?side4 A6.out).mono ?_); (case side1 => exact Kd.C_below HR0.out (zb2 HB GE301 GE306)); (case side2 => exact HC0.out); (case side3 => refine (jP (e := 2) (base := w.heap.size) (ok := fun k_ => True) (n := t303.length) (c := co25) ?_).2.2; exact (zU HO305 BK306)); (case side4 => exact (jP HO305.out).2.1); rintro e w26 ⟨rfl, hb⟩; refine ⟨_, rfl, ?_⟩; replace HO305 := jA (Kd.R_below (zU HO305 BK306) hb); replace BK301 := jA (jO (g := gb301) (o := .cells #[.int .i64 a1_0, .slice A1_1 l1_1.length c1_1] 28 (0, 0)) (zQ1 BK301 NB301_306) hb); replace BK306 := jA (jO (g := gb306) (o := .cells #[.int .i64 t302, .slice Ao25 t303.length co25] 28 (0, 0)) (zP0 BK306) hb); replace HB := zS2 HB GE301 GE306 hb; clear hb))
  go_ret
  exact ⟨ze, zb2 HB GE301 GE306⟩

end Go.Proofs.Ytdgglhfnlljmeaa.PFnExactMovePieces
