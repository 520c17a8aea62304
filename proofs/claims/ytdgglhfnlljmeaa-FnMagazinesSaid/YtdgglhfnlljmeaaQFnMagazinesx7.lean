/- Functions and contracts that FnMagazines reaches (8 of 24). -/
import Derived.Test.YtdgglhfnlljmeaaQFnMagazinesx6
namespace Go.Proofs.Ytdgglhfnlljmeaa.PFnMagazines
open Go.RowKit Go.Proofs.YtdgglhfnlljmeaaW.PrintWords Go.Proofs.YtdgglhfnlljmeaaW.PrintLast Go.Proofs.YtdgglhfnlljmeaaW.PrintMore
attribute [local go_sem] max2_int min2_int max_two min_two max_three min_three max_four min_four   -- for this text's walks alone
set_option linter.unusedVariables false
set_option linter.unusedSimpArgs false

/-! ### impl_isLawful: function 66 -/
def impl_isLawful.f (k : Nat) (l0 : List (S65)) (a1_0 : Int) (l1_1 : List Int) : Option (Bool) := (impl_netIn.f k l0 a1_0 l1_1).bind fun t172 => (if t172 ≤ a1_0 then ((impl_isMixed.f k l0 a1_0 l1_1).bind fun t173 => (some (!t173))) else (some false))
theorem impl_isLawful.mono : ∀ a0 a1 a2 k, LeO (impl_isLawful.f k a0 a1 a2) (impl_isLawful.f (k + 1) a0 a1 a2) := by
 intro a0 a1 a2 k
 unfold impl_isLawful.f
 repeat' first
   | (with_reducible exact impl_isMixed.mono _ _ _ _)
   | (with_reducible exact impl_netIn.mono _ _ _ _)
   | (with_reducible exact LeO.refl _)
   | (with_reducible exact LeO.none _)
   | (with_reducible refine LeO.ite ?_ ?_)
   | (with_reducible refine LeO.bind ?_ (fun _ => ?_))
   | exact impl_isMixed.mono _ _ _ _
   | exact impl_netIn.mono _ _ _ _
   | exact LeO.none _
   | refine LeO.ite ?_ ?_
   | refine LeO.bind ?_ (fun _ => ?_)
def impl_isLawful.T1 : Bool × List (List Nat × List Nat) := (true, [([], []), ([], []), ([0, 1], [0, 1]), ([], []), ([3], [3]), ([2, 4], [2, 4]), ([5, 2], [5]), ([6], [6]), ([6], [6]), ([7, 8, 6, 6], [6, 7, 8]), ([9, 6], [6, 9]), ([6, 10], [6, 10]), ([11, 9, 0, 1, 2, 3, 4, 5, 6, 7, 8, 9, 10, 11], [11])])
def impl_isLawful.B1 : List Nat := [0, 0, 3, 0, 8, 31, 63, 127, 127, 511, 1023, 2047, 4095]
theorem impl_isLawful.tab1 : rtab .any (opsOf Try.f66 1) = impl_isLawful.T1 := by kernel_rfl
theorem impl_isLawful.bits1 : waitsOk impl_isLawful.T1.2 impl_isLawful.B1 = true := by kernel_rfl
set_option maxHeartbeats 8000000 in
set_option maxRecDepth 100000 in
theorem impl_isLawful.calls (k : Nat) (A0 : Option Addr) (c0 : Nat) (l0 : List (S65)) (a1_0 : Int) (A1_1 : Option Addr) (c1_1 : Nat) (l1_1 : List Int) (r : Bool) (w : World) (hr0 : Kd.C k65 w A0 l0.length l0) (hc0 : l0.length ≤ c0) (hr1_1 : Kd.C (Kd.int .i64) w A1_1 l1_1.length l1_1) (hc1_1 : l1_1.length ≤ c1_1) (h : impl_isLawful.f k l0 a1_0 l1_1 = some r) :
  Calls Try.prog 66 #[.slice A0 l0.length c0, .agg #[.int .i64 a1_0, .slice A1_1 l1_1.length c1_1]] w fun e w' => e = .returned (.bool r) ∧ Below w.heap.size w w' := by
 have hu28 := Try.underlying28
 have HR0 := jA hr0
 have HC0 := jA hc0
 clear hr0 hc0
 have HR1_1 := jA hr1_1
 have HC1_1 := jA hc1_1
 clear hr1_1 hc1_1
 have HB := jA (Below.refl w.heap.size w)
 have H := h
 unfold impl_isLawful.f at H
 clear h
 replace H := jB.mp H
 obtain ⟨t172, A30, H⟩ := H
 try dsimp only at H
 have A3 := jA A30
 clear A30
 by_cases c4 : t172 ≤ a1_0
 ·rw [if_pos c4] at H
  have c4b0 : decide (t172 ≤ a1_0) = true := jJ c4
  clear c4
  replace H := jB.mp H
  obtain ⟨t173, A50, H⟩ := H
  replace H : (some (!t173)) = some r := H
  have A5 := jA A50
  clear A50
  obtain rfl := jK H
  go_enter Try.func66, Try.ntmps66
  try go_wp2_with (first | ((with_reducible refine jL (N := 3) rfl ?_); refine zE 3 #[.int .i64 a1_0, .slice A1_1 l1_1.length c1_1] 28 ?_; intro gb171 hg w6 hbox hb; have BK171 := jA (hbox); have GW171 := zg0 hg HB; have GE171 := zg0 hg HB; replace HB := zS0 HB hb; clear hb hbox hg))
  replace BK171 := jA (blk_drew BK171.out)
  replace HB := jA (below_drew1 HB.out)
  refine start_ (n := 13) (S := fun w' => w'.cell? ⟨gb171, 0, none⟩ = some (.int .i64 a1_0) ∧ w'.cell? ⟨gb171, 1, none⟩ = some (.slice A1_1 l1_1.length c1_1)) (ds := []) m13_0 zr rfl rfl ⟨(jG BK171.out 0).trans rfl, (jG BK171.out 1).trans rfl⟩ (fun hHeld => ?_); refine with_tabW impl_isLawful.tab1 impl_isLawful.bits1 (fun HT_ HW_ => ?_)
  generalize w6.drew = w7 at BK171 HB hHeld ⊢
  refine zp HT_ 0 5 m13_1000 ?_
  refine zp HT_ 3 8 m13_1200 ?_
  refine zt2 HT_ HW_ hHeld 1 6 m13_1a00 ?_
  refine zt2 HT_ HW_ hHeld 4 9 m13_1b00 ?_
  refine one_ (i := 2) (N := some 7) m13_1f00 rfl rfl (one_of HT_.out zr) (by decide) (fun K hK => ?_)
  refine goes_ Try.func64 zr rfl #[.slice A0 l0.length c0, .agg #[.int .i64 a1_0, .slice A1_1 l1_1.length c1_1]] (by rfl) rfl rfl zm ?_
  with_reducible refine (impl_netIn.calls k _ _ l0 a1_0 _ _ l1_1 t172 _ ?side1 ?side2 ?side3 ?side4 A3.out).mono ?_
  (case side1 => exact zs HR0 HB)
  (case side2 => exact HC0.out)
  (case side3 => exact zs HR1_1 HB)
  (case side4 => exact HC1_1.out)
  rintro e w8 ⟨rfl, hb⟩
  refine ⟨_, rfl, ?_⟩
  replace BK171 := zB BK171 hb
  replace HB := zS1 HB GE171 hb
  (try clear hb)
  (try clear hb2)
  (try clear hk)
  (try clear hi)
  refine hK.out _ _ ⟨(jG BK171.out 0).trans rfl, (jG BK171.out 1).trans rfl⟩ (fun hHeld => ?_)
  clear hK K
  refine norm_ (a' := ?_) ?_ ?_
  rotate_left
  ·show Act.put _ (some 7) _ = _
   simp only [Act.put, jE, jH, jI, i64_w, i32_w]
   rfl
  refine zp HT_ 5 10 m13_1f80 ?_
  refine zp HT_ 6 11 m13_1fc0 ?_
  refine zp HT_ 7 12 m13_1fe0 ?_
  refine zt2 HT_ HW_ hHeld 8 13 m13_1ff0 ?_
  refine one_ (i := 9) (N := some 14) m13_1ff8 rfl rfl (one_of HT_.out zr) (by decide) (fun K hK => ?_)
  refine goes_ Try.func68 zr rfl #[.slice A0 l0.length c0, .agg #[.int .i64 a1_0, .slice A1_1 l1_1.length c1_1]] (by rfl) rfl rfl zm ?_
  with_reducible refine (impl_isMixed.calls k _ _ l0 a1_0 _ _ l1_1 t173 _ ?side1 ?side2 ?side3 ?side4 A5.out).mono ?_
  (case side1 => exact zs HR0 HB)
  (case side2 => exact HC0.out)
  (case side3 => exact zs HR1_1 HB)
  (case side4 => exact HC1_1.out)
  rintro e w9 ⟨rfl, hb⟩
  refine ⟨_, rfl, ?_⟩
  replace BK171 := zB BK171 hb
  replace HB := zS1 HB GE171 hb
  (try clear hb)
  (try clear hb2)
  (try clear hk)
  (try clear hi)
  refine hK.out _ _ ⟨(jG BK171.out 0).trans rfl, (jG BK171.out 1).trans rfl⟩ (fun hHeld => ?_)
  clear hK K
  refine norm_ (a' := ?_) ?_ ?_
  rotate_left
  ·show Act.put _ (some 14) _ = _
   simp only [Act.put, jE, jH, jI, i64_w, i32_w]
   rfl
  refine zp HT_ 10 15 m13_1ffc ?_
  refine zp HT_ 11 16 m13_1ffe ?_
  refine zp HT_ 12 4 m13_1fff ?_
  refine done_ (done_of HT_.out zr) ?_
  try go_wp2
  go_ret
  exact ⟨ze, zb1 HB GE171⟩
 ·rw [if_neg c4] at H
  have c4b0 : decide (t172 ≤ a1_0) = false := jQ c4
  clear c4
  obtain rfl := jK H
  go_enter Try.func66, Try.ntmps66
  try go_wp2_with (first | ((with_reducible refine jL (N := 3) rfl ?_); refine zE 3 #[.int .i64 a1_0, .slice A1_1 l1_1.length c1_1] 28 ?_; intro gb171 hg w10 hbox hb; have BK171 := jA (hbox); have GW171 := zg0 hg HB; have GE171 := zg0 hg HB; replace HB := zS0 HB hb; clear hb hbox hg))
  replace BK171 := jA (blk_drew BK171.out)
  replace HB := jA (below_drew1 HB.out)
  refine start_ (n := 13) (S := fun w' => w'.cell? ⟨gb171, 0, none⟩ = some (.int .i64 a1_0) ∧ w'.cell? ⟨gb171, 1, none⟩ = some (.slice A1_1 l1_1.length c1_1)) (ds := []) m13_0 zr rfl rfl ⟨(jG BK171.out 0).trans rfl, (jG BK171.out 1).trans rfl⟩ (fun hHeld => ?_); refine with_tabW impl_isLawful.tab1 impl_isLawful.bits1 (fun HT_ HW_ => ?_)
  generalize w10.drew = w11 at BK171 HB hHeld ⊢
  refine zp HT_ 0 5 m13_1000 ?_
  refine zp HT_ 3 8 m13_1200 ?_
  refine zt2 HT_ HW_ hHeld 1 6 m13_1a00 ?_
  refine zt2 HT_ HW_ hHeld 4 9 m13_1b00 ?_
  refine one_ (i := 2) (N := some 7) m13_1f00 rfl rfl (one_of HT_.out zr) (by decide) (fun K hK => ?_)
  refine goes_ Try.func64 zr rfl #[.slice A0 l0.length c0, .agg #[.int .i64 a1_0, .slice A1_1 l1_1.length c1_1]] (by rfl) rfl rfl zm ?_
  with_reducible refine (impl_netIn.calls k _ _ l0 a1_0 _ _ l1_1 t172 _ ?side1 ?side2 ?side3 ?side4 A3.out).mono ?_
  (case side1 => exact zs HR0 HB)
  (case side2 => exact HC0.out)
  (case side3 => exact zs HR1_1 HB)
  (case side4 => exact HC1_1.out)
  rintro e w12 ⟨rfl, hb⟩
  refine ⟨_, rfl, ?_⟩
  replace BK171 := zB BK171 hb
  replace HB := zS1 HB GE171 hb
  (try clear hb)
  (try clear hb2)
  (try clear hk)
  (try clear hi)
  refine hK.out _ _ ⟨(jG BK171.out 0).trans rfl, (jG BK171.out 1).trans rfl⟩ (fun hHeld => ?_)
  clear hK K
  refine norm_ (a' := ?_) ?_ ?_
  rotate_left
  ·show Act.put _ (some 7) _ = _
   simp only [Act.put, jE, jH, jI, i64_w, i32_w]
   rfl
  refine zp HT_ 5 10 m13_1f80 ?_
  refine zp HT_ 6 11 m13_1fc0 ?_
  refine zq HT_ 7 12 m13_1fe0 ?_
  refine zq HT_ 8 13 m13_1ff0 ?_
  refine zq HT_ 9 14 m13_1ff8 ?_
  refine zq HT_ 10 15 m13_1ffc ?_
  refine zp HT_ 11 16 m13_1ffe ?_
  refine zp HT_ 12 4 m13_1fff ?_
  refine done_ (done_of HT_.out zr) ?_
  try go_wp2
  go_ret
  exact ⟨ze, zb1 HB GE171⟩

/-! ### impl_IsLawful: function 30 -/
def impl_IsLawful.f (k : Nat) (l0 : List (S65)) (a1_0 : Int) (l1_1 : List Int) : Option (Bool × Int) := (impl_IsMagazine.f k l0 a1_0 l1_1).bind fun t175 => (if t175 = true then ((impl_isLawful.f k l0 a1_0 l1_1).bind fun t176 => (some (t176, 0))) else (some (false, 1)))
theorem impl_IsLawful.mono : ∀ a0 a1 a2 k, LeO (impl_IsLawful.f k a0 a1 a2) (impl_IsLawful.f (k + 1) a0 a1 a2) := by
 intro a0 a1 a2 k
 unfold impl_IsLawful.f
 repeat' first
   | (with_reducible exact impl_IsMagazine.mono _ _ _ _)
   | (with_reducible exact impl_isLawful.mono _ _ _ _)
   | (with_reducible exact LeO.refl _)
   | (with_reducible exact LeO.none _)
   | (with_reducible refine LeO.ite ?_ ?_)
   | (with_reducible refine LeO.bind ?_ (fun _ => ?_))
   | exact impl_IsMagazine.mono _ _ _ _
   | exact impl_isLawful.mono _ _ _ _
   | exact LeO.none _
   | refine LeO.ite ?_ ?_
   | refine LeO.bind ?_ (fun _ => ?_)
set_option maxHeartbeats 8000000 in
set_option maxRecDepth 100000 in
theorem impl_IsLawful.calls (k : Nat) (A0 : Option Addr) (c0 : Nat) (l0 : List (S65)) (a1_0 : Int) (A1_1 : Option Addr) (c1_1 : Nat) (l1_1 : List Int) (r1 : Bool) (r2 : Int) (w : World) (hr0 : Kd.C k65 w A0 l0.length l0) (hc0 : l0.length ≤ c0) (hr1_1 : Kd.C (Kd.int .i64) w A1_1 l1_1.length l1_1) (hc1_1 : l1_1.length ≤ c1_1) (h : impl_IsLawful.f k l0 a1_0 l1_1 = some (r1, r2)) :
  Calls Try.prog 30 #[.slice A0 l0.length c0, .agg #[.int .i64 a1_0, .slice A1_1 l1_1.length c1_1]] w fun e w' => e = .returned (.tuple #[.bool r1, .int .i64 r2]) ∧ Below w.heap.size w w' := by
 have hu28 := Try.underlying28
 have HR0 := jA hr0
 have HC0 := jA hc0
 clear hr0 hc0
 have HR1_1 := jA hr1_1
 have HC1_1 := jA hc1_1
 clear hr1_1 hc1_1
 have HB := jA (Below.refl w.heap.size w)
 have H := h
 unfold impl_IsLawful.f at H
 clear h
 replace H := jB.mp H
 obtain ⟨t175, A30, H⟩ := H
 try dsimp only at H
 have A3 := jA A30
 clear A30
 by_cases c4 : t175 = true
 ·subst c4
  rw [if_pos rfl] at H
  replace H := jB.mp H
  obtain ⟨t176, A50, H⟩ := H
  replace H : (some (t176, 0)) = some (r1, r2) := H
  have A5 := jA A50
  clear A50
  simp only [jN, jO] at H
  obtain ⟨rfl, rfl⟩ := H
  go_enter Try.func30, Try.ntmps30
  go_wp2_with (first | ((with_reducible refine jL (N := 3) rfl ?_); refine zE 3 #[.int .i64 a1_0, .slice A1_1 l1_1.length c1_1] 28 ?_; intro gb174 hg w6 hbox hb; have BK174 := jA (hbox); have GW174 := zg0 hg HB; have GE174 := zg0 hg HB; replace HB := zS0 HB hb; clear hb hbox hg; have hcz7 := zc2 BK174) | ((with_reducible refine jD (f := 26) rfl ?_); refine zL (some 8) Try.func26 #[.slice A0 l0.length c0, .agg #[.int .i64 a1_0, .slice A1_1 l1_1.length c1_1]] ?_; (with_reducible refine (impl_IsMagazine.calls k _ _ l0 a1_0 _ _ l1_1 true _ ?side1 ?side2 ?side3 ?side4 A3.out).mono ?_); (case side1 => exact zs HR0 HB); (case side2 => exact HC0.out); (case side3 => exact zs HR1_1 HB); (case side4 => exact HC1_1.out); rintro e w8 ⟨rfl, hb⟩; refine ⟨_, rfl, ?_⟩; replace BK174 := zB BK174 hb; replace HB := zS1 HB GE174 hb; clear hb; have hcz9 := zc2 BK174) | ((with_reducible refine jD (f := 66) rfl ?_); refine zL (some 12) Try.func66 #[.slice A0 l0.length c0, .agg #[.int .i64 a1_0, .slice A1_1 l1_1.length c1_1]] ?_; (with_reducible refine (impl_isLawful.calls k _ _ l0 a1_0 _ _ l1_1 t176 _ ?side1 ?side2 ?side3 ?side4 A5.out).mono ?_); (case side1 => exact zs HR0 HB); (case side2 => exact HC0.out); (case side3 => exact zs HR1_1 HB); (case side4 => exact HC1_1.out); rintro e w10 ⟨rfl, hb⟩; refine ⟨_, rfl, ?_⟩; replace BK174 := zB BK174 hb; replace HB := zS1 HB GE174 hb; clear hb))
  go_ret2
  exact ⟨ze, zb1 HB GE174⟩
 ·replace c4 := Bool.eq_false_iff.mpr c4
  subst c4
  rw [if_neg zfalse] at H
  simp only [jN, jO] at H
  obtain ⟨rfl, rfl⟩ := H
  go_enter Try.func30, Try.ntmps30
  go_wp2_with (first | ((with_reducible refine jL (N := 3) rfl ?_); refine zE 3 #[.int .i64 a1_0, .slice A1_1 l1_1.length c1_1] 28 ?_; intro gb174 hg w11 hbox hb; have BK174 := jA (hbox); have GW174 := zg0 hg HB; have GE174 := zg0 hg HB; replace HB := zS0 HB hb; clear hb hbox hg; have hcz12 := zc2 BK174) | ((with_reducible refine jD (f := 26) rfl ?_); refine zL (some 8) Try.func26 #[.slice A0 l0.length c0, .agg #[.int .i64 a1_0, .slice A1_1 l1_1.length c1_1]] ?_; (with_reducible refine (impl_IsMagazine.calls k _ _ l0 a1_0 _ _ l1_1 false _ ?side1 ?side2 ?side3 ?side4 A3.out).mono ?_); (case side1 => exact zs HR0 HB); (case side2 => exact HC0.out); (case side3 => exact zs HR1_1 HB); (case side4 => exact HC1_1.out); rintro e w13 ⟨rfl, hb⟩; refine ⟨_, rfl, ?_⟩; replace BK174 := zB BK174 hb; replace HB := zS1 HB GE174 hb; clear hb))
  go_ret2
  exact ⟨ze, zb1 HB GE174⟩

/-! ### spec_LawfulLimit: function 31 -/
def spec_LawfulLimit.f (k : Nat) (l0 : List (S65)) (a1_0 : Int) (l1_1 : List Int) : Option (Int × Int) := (spec_IsMagazine.f k l0 a1_0 l1_1).bind fun t178 => (if t178 = true then ((spec_l26Net.f k l0 a1_0 l1_1).bind fun t179 => ((spec_l26Mixed.f k l0 a1_0 l1_1).bind fun t180 => (if t180 = true then (some (0, 5)) else (if t179 > 1000000000 then (some (0, 5)) else (some (t179, 0)))))) else (some (0, 1)))
theorem spec_LawfulLimit.mono : ∀ a0 a1 a2 k, LeO (spec_LawfulLimit.f k a0 a1 a2) (spec_LawfulLimit.f (k + 1) a0 a1 a2) := by
 intro a0 a1 a2 k
 unfold spec_LawfulLimit.f
 repeat' first
   | (with_reducible exact spec_IsMagazine.mono _ _ _ _)
   | (with_reducible exact spec_l26Mixed.mono _ _ _ _)
   | (with_reducible exact spec_l26Net.mono _ _ _ _)
   | (with_reducible exact LeO.refl _)
   | (with_reducible exact LeO.none _)
   | (with_reducible refine LeO.ite ?_ ?_)
   | (with_reducible refine LeO.bind ?_ (fun _ => ?_))
   | exact spec_IsMagazine.mono _ _ _ _
   | exact spec_l26Mixed.mono _ _ _ _
   | exact spec_l26Net.mono _ _ _ _
   | exact LeO.none _
   | refine LeO.ite ?_ ?_
   | refine LeO.bind ?_ (fun _ => ?_)
set_option maxHeartbeats 8000000 in
set_option maxRecDepth 100000 in
theorem spec_LawfulLimit.calls (k : Nat) (A0 : Option Addr) (c0 : Nat) (l0 : List (S65)) (a1_0 : Int) (A1_1 : Option Addr) (c1_1 : Nat) (l1_1 : List Int) (r1 : Int) (r2 : Int) (w : World) (hr0 : Kd.C k65 w A0 l0.length l0) (hc0 : l0.length ≤ c0) (hr1_1 : Kd.C (Kd.int .i64) w A1_1 l1_1.length l1_1) (hc1_1 : l1_1.length ≤ c1_1) (h : spec_LawfulLimit.f k l0 a1_0 l1_1 = some (r1, r2)) :
  Calls Try.prog 31 #[.slice A0 l0.length c0, .agg #[.int .i64 a1_0, .slice A1_1 l1_1.length c1_1]] w fun e w' => e = .returned (.tuple #[.int .i64 r1, .int .i64 r2]) ∧ Below w.heap.size w w' := by
 have hu28 := Try.underlying28
 have HR0 := jA hr0
 have HC0 := jA hc0
 clear hr0 hc0
 have HR1_1 := jA hr1_1
 have HC1_1 := jA hc1_1
 clear hr1_1 hc1_1
 have HB := jA (Below.refl w.heap.size w)
 have H := h
 unfold spec_LawfulLimit.f at H
 clear h
 replace H := jB.mp H
 obtain ⟨t178, A30, H⟩ := H
 try dsimp only at H
 have A3 := jA A30
 clear A30
 by_cases c4 : t178 = true
 ·subst c4
  rw [if_pos rfl] at H
  replace H := jB.mp H
  obtain ⟨t179, A50, H⟩ := H
  try dsimp only at H
  have A5 := jA A50
  clear A50
  replace H := jB.mp H
  obtain ⟨t180, A60, H⟩ := H
  try dsimp only at H
  have A6 := jA A60
  clear A60
  by_cases c7 : t180 = true
  ·subst c7
   rw [if_pos rfl] at H
   simp only [jN, jO] at H
   obtain ⟨rfl, rfl⟩ := H
   go_enter Try.func31, Try.ntmps31
   go_wp2_with (first | ((with_reducible refine jL (N := 3) rfl ?_); refine zE 3 #[.int .i64 a1_0, .slice A1_1 l1_1.length c1_1] 28 ?_; intro gb177 hg w8 hbox hb; have BK177 := jA (hbox); have GW177 := zg0 hg HB; have GE177 := zg0 hg HB; replace HB := zS0 HB hb; clear hb hbox hg; have hcz9 := zc2 BK177) | ((with_reducible refine jD (f := 25) rfl ?_); refine zL (some 9) Try.func25 #[.slice A0 l0.length c0, .agg #[.int .i64 a1_0, .slice A1_1 l1_1.length c1_1]] ?_; (with_reducible refine (spec_IsMagazine.calls k _ _ l0 a1_0 _ _ l1_1 true _ ?side1 ?side2 ?side3 ?side4 A3.out).mono ?_); (case side1 => exact zs HR0 HB); (case side2 => exact HC0.out); (case side3 => exact zs HR1_1 HB); (case side4 => exact HC1_1.out); rintro e w10 ⟨rfl, hb⟩; refine ⟨_, rfl, ?_⟩; replace BK177 := zB BK177 hb; replace HB := zS1 HB GE177 hb; clear hb; have hcz11 := zc2 BK177) | ((with_reducible refine jD (f := 63) rfl ?_); refine zL (some 13) Try.func63 #[.slice A0 l0.length c0, .agg #[.int .i64 a1_0, .slice A1_1 l1_1.length c1_1]] ?_; (with_reducible refine (spec_l26Net.calls k _ _ l0 a1_0 _ _ l1_1 t179 _ ?side1 ?side2 ?side3 ?side4 A5.out).mono ?_); (case side1 => exact zs HR0 HB); (case side2 => exact HC0.out); (case side3 => exact zs HR1_1 HB); (case side4 => exact HC1_1.out); rintro e w12 ⟨rfl, hb⟩; refine ⟨_, rfl, ?_⟩; replace BK177 := zB BK177 hb; replace HB := zS1 HB GE177 hb; clear hb; have hcz13 := zc2 BK177) | ((with_reducible refine jD (f := 67) rfl ?_); refine zL (some 16) Try.func67 #[.slice A0 l0.length c0, .agg #[.int .i64 a1_0, .slice A1_1 l1_1.length c1_1]] ?_; (with_reducible refine (spec_l26Mixed.calls k _ _ l0 a1_0 _ _ l1_1 true _ ?side1 ?side2 ?side3 ?side4 A6.out).mono ?_); (case side1 => exact zs HR0 HB); (case side2 => exact HC0.out); (case side3 => exact zs HR1_1 HB); (case side4 => exact HC1_1.out); rintro e w14 ⟨rfl, hb⟩; refine ⟨_, rfl, ?_⟩; replace BK177 := zB BK177 hb; replace HB := zS1 HB GE177 hb; clear hb))
   go_ret2
   exact ⟨ze, zb1 HB GE177⟩
  ·replace c7 := Bool.eq_false_iff.mpr c7
   subst c7
   rw [if_neg zfalse] at H
   by_cases c15 : t179 > 1000000000
   ·rw [if_pos c15] at H
    have c15b0 : decide (1000000000 < t179) = true := jJ c15
    clear c15
    simp only [jN, jO] at H
    obtain ⟨rfl, rfl⟩ := H
    go_enter Try.func31, Try.ntmps31
    go_wp2_with (first | ((with_reducible refine jL (N := 3) rfl ?_); refine zE 3 #[.int .i64 a1_0, .slice A1_1 l1_1.length c1_1] 28 ?_; intro gb177 hg w16 hbox hb; have BK177 := jA (hbox); have GW177 := zg0 hg HB; have GE177 := zg0 hg HB; replace HB := zS0 HB hb; clear hb hbox hg; have hcz17 := zc2 BK177) | ((with_reducible refine jD (f := 25) rfl ?_); refine zL (some 9) Try.func25 #[.slice A0 l0.length c0, .agg #[.int .i64 a1_0, .slice A1_1 l1_1.length c1_1]] ?_; (with_reducible refine (spec_IsMagazine.calls k _ _ l0 a1_0 _ _ l1_1 true _ ?side1 ?side2 ?side3 ?side4 A3.out).mono ?_); (case side1 => exact zs HR0 HB); (case side2 => exact HC0.out); (case side3 => exact zs HR1_1 HB); (case side4 => exact HC1_1.out); rintro e w18 ⟨rfl, hb⟩; refine ⟨_, rfl, ?_⟩; replace BK177 := zB BK177 hb; replace HB := zS1 HB GE177 hb; clear hb; have hcz19 := zc2 BK177) | ((with_reducible refine jD (f := 63) rfl ?_); refine zL (some 13) Try.func63 #[.slice A0 l0.length c0, .agg #[.int .i64 a1_0, .slice A1_1 l1_1.length c1_1]] ?_; (with_reducible refine (spec_l26Net.calls k _ _ l0 a1_0 _ _ l1_1 t179 _ ?side1 ?side2 ?side3 ?side4 A5.out).mono ?_); (case side1 => exact zs HR0 HB); (case side2 => exact HC0.out); (case side3 => exact zs HR1_1 HB); (case side4 => exact HC1_1.out); rintro e w20 ⟨rfl, hb⟩; refine ⟨_, rfl, ?_⟩; replace BK177 := zB BK177 hb; replace HB := zS1 HB GE177 hb; clear hb; have hcz21 := zc2 BK177) | ((with_reducible refine jD (f := 67) rfl ?_); refine zL (some 16) Try.func67 #[.slice A0 l0.length c0, .agg #[.int .i64 a1_0, .slice A1_1 l1_1.length c1_1]] ?_; (with_reducible refine (spec_l26Mixed.calls k _ _ l0 a1_0 _ _ l1_1 false _ ?side1 ?side2 ?side3 ?side4 A6.out).mono ?_); (case side1 => exact zs HR0 HB); (case side2 => exact HC0.out); (case side3 => exact zs HR1_1 HB); (case side4 => exact HC1_1.out); rintro e w22 ⟨rfl, hb⟩; refine ⟨_, rfl, ?_⟩; replace BK177 := zB BK177 hb; replace HB := zS1 HB GE177 hb; clear hb))
    go_ret2
    exact ⟨ze, zb1 HB GE177⟩
   ·rw [if_neg c15] at H
    have c15b0 : decide (1000000000 < t179) = false := jQ c15
    clear c15
    simp only [jN, jO] at H
    obtain ⟨rfl, rfl⟩ := H
    go_enter Try.func31, Try.ntmps31
    go_wp2_with (first | ((with_reducible refine jL (N := 3) rfl ?_); refine zE 3 #[.int .i64 a1_0, .slice A1_1 l1_1.length c1_1] 28 ?_; intro gb177 hg w23 hbox hb; have BK177 := jA (hbox); have GW177 := zg0 hg HB; have GE177 := zg0 hg HB; replace HB := zS0 HB hb; clear hb hbox hg; have hcz24 := zc2 BK177) | ((with_reducible refine jD (f := 25) rfl ?_); refine zL (some 9) Try.func25 #[.slice A0 l0.length c0, .agg #[.int .i64 a1_0, .slice A1_1 l1_1.length c1_1]] ?_; (with_reducible refine (spec_IsMagazine.calls k _ _ l0 a1_0 _ _ l1_1 true _ ?side1 ?side2 ?side3 ?side4 A3.out).mono ?_); (case side1 => exact zs HR0 HB); (case side2 => exact HC0.out); (case side3 => exact zs HR1_1 HB); (case side4 => exact HC1_1.out); rintro e w25 ⟨rfl, hb⟩; refine ⟨_, rfl, ?_⟩; replace BK177 := zB BK177 hb; replace HB := zS1 HB GE177 hb; clear hb; have hcz26 := zc2 BK177) | ((with_reducible refine jD (f := 63) rfl ?_); refine zL (some 13) Try.func63 #[.slice A0 l0.length c0, .agg #[.int .i64 a1_0, .slice A1_1 l1_1.length c1_1]] ?_; (with_reducible refine (spec_l26Net.calls k _ _ l0 a1_0 _ _ l1_1 t179 _ ?side1 ?side2 ?side3 ?side4 A5.out).mono ?_); (case side1 => exact zs HR0 HB); (case side2 => exact HC0.out); (case side3 => exact zs HR1_1 HB); (case side4 => exact HC1_1.out); rintro e w27 ⟨rfl, hb⟩; refine ⟨_, rfl, ?_⟩; replace BK177 := zB BK177 hb; replace HB := zS1 HB GE177 hb; clear hb; have hcz28 := zc2 BK177) | ((with_reducible refine jD (f := 67) rfl ?_); refine zL (some 16) Try.func67 #[.slice A0 l0.length c0, .agg #[.int .i64 a1_0, .slice A1_1 l1_1.length c1_1]] ?_; (with_reducible refine (spec_l26Mixed.calls k _ _ l0 a1_0 _ _ l1_1 false _ ?side1 ?side2 ?side3 ?side4 A6.out).mono ?_); (case side1 => exact zs HR0 HB); (case side2 => exact HC0.out); (case side3 => exact zs HR1_1 HB); (case side4 => exact HC1_1.out); rintro e w29 ⟨rfl, hb⟩; refine ⟨_, rfl, ?_⟩; replace BK177 := zB BK177 hb; replace HB := zS1 HB GE177 hb; clear hb))
    go_ret2
    exact ⟨ze, zb1 HB GE177⟩
 ·replace c4 := Bool.eq_false_iff.mpr c4
  subst c4
  rw [if_neg zfalse] at H
  simp only [jN, jO] at H
  obtain ⟨rfl, rfl⟩ := H
  go_enter Try.func31, Try.ntmps31
  go_wp2_with (first | ((with_reducible refine jL (N := 3) rfl ?_); refine zE 3 #[.int .i64 a1_0, .slice A1_1 l1_1.length c1_1] 28 ?_; intro gb177 hg w30 hbox hb; have BK177 := jA (hbox); have GW177 := zg0 hg HB; have GE177 := zg0 hg HB; replace HB := zS0 HB hb; clear hb hbox hg; have hcz31 := zc2 BK177) | ((with_reducible refine jD (f := 25) rfl ?_); refine zL (some 9) Try.func25 #[.slice A0 l0.length c0, .agg #[.int .i64 a1_0, .slice A1_1 l1_1.length c1_1]] ?_; (with_reducible refine (spec_IsMagazine.calls k _ _ l0 a1_0 _ _ l1_1 false _ ?side1 ?side2 ?side3 ?side4 A3.out).mono ?_); (case side1 => exact zs HR0 HB); (case side2 => exact HC0.out); (case side3 => exact zs HR1_1 HB); (case side4 => exact HC1_1.out); rintro e w32 ⟨rfl, hb⟩; refine ⟨_, rfl, ?_⟩; replace BK177 := zB BK177 hb; replace HB := zS1 HB GE177 hb; clear hb))
  go_ret2
  exact ⟨ze, zb1 HB GE177⟩

end Go.Proofs.Ytdgglhfnlljmeaa.PFnMagazines
