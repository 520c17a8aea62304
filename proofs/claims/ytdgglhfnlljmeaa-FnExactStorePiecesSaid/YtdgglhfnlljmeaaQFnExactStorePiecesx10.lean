/- Functions and contracts that FnExactStorePieces reaches (11 of 17). -/
import Derived.Test.YtdgglhfnlljmeaaQFnExactStorePiecesx9
namespace Go.Proofs.Ytdgglhfnlljmeaa.PFnExactStorePieces
open Go.RowKit Go.Proofs.YtdgglhfnlljmeaaW.PrintWords Go.Proofs.YtdgglhfnlljmeaaW.PrintLast Go.Proofs.YtdgglhfnlljmeaaW.PrintMore
attribute [local go_sem] max2_int min2_int max_two min_two max_three min_three max_four min_four   -- for this text's walks alone
set_option linter.unusedVariables false
set_option linter.unusedSimpArgs false
open Go.Proofs.YtdgglhfnlljmeaaX

/-! ### impl_isLawful: function 66 -/
def impl_isLawful.f (k : Nat) (l0 : List (S65)) (a1_0 : Int) (l1_1 : List Int) : Option (Bool) := (impl_netIn.f k l0 a1_0 l1_1).bind fun t233 => (if t233 ≤ a1_0 then ((impl_isMixed.f k l0 a1_0 l1_1).bind fun t234 => (some (!t234))) else (some false))
theorem impl_isLawful.mono : ∀ a0 a1 a2 k, LeO (impl_isLawful.f k a0 a1 a2) (impl_isLawful.f (k + 1) a0 a1 a2) := by
 intro a0 a1 a2 k
 unfold impl_isLawful.f
 repeat' first
   | (with_reducible exact impl_isMixed.mono _ _ _ _)
   | (with_reducible exact impl_netIn.mono _ _ _ _)
   | (with_reducible exact LeO.refl _)
   | (with_reducible exact LeO.none _)
   | (with_reducible refine LeO.ite ?_ ?_)
   | (with_reducible refine LeO.bind ?_ (fun _ => ?_))
   | exact impl_isMixed.mono _ _ _ _
   | exact impl_netIn.mono _ _ _ _
   | exact LeO.none _
   | refine LeO.ite ?_ ?_
   | refine LeO.bind ?_ (fun _ => ?_)
def impl_isLawful.T1 : Bool × List (List Nat × List Nat) := (true, [([], []), ([], []), ([0, 1], [0, 1]), ([], []), ([3], [3]), ([2, 4], [2, 4]), ([5, 2], [5]), ([6], [6]), ([6], [6]), ([7, 8, 6, 6], [6, 7, 8]), ([9, 6], [6, 9]), ([6, 10], [6, 10]), ([11, 9, 0, 1, 2, 3, 4, 5, 6, 7, 8, 9, 10, 11], [11])])
def impl_isLawful.B1 : List Nat := [0, 0, 3, 0, 8, 31, 63, 127, 127, 511, 1023, 2047, 4095]
theorem impl_isLawful.tab1 : rtab .any (opsOf Try.f66 1) = impl_isLawful.T1 := by kernel_rfl
theorem impl_isLawful.bits1 : waitsOk impl_isLawful.T1.2 impl_isLawful.B1 = true := by kernel_rfl
set_option maxHeartbeats 8000000 in
set_option maxRecDepth 100000 in
theorem impl_isLawful.calls (k : Nat) (A0 : Option Addr) (c0 : Nat) (l0 : List (S65)) (a1_0 : Int) (A1_1 : Option Addr) (c1_1 : Nat) (l1_1 : List Int) (r : Bool) (w : World) (hr0 : Kd.C k65 w A0 l0.length l0) (hc0 : l0.length ≤ c0) (hr1_1 : Kd.C (Kd.int .i64) w A1_1 l1_1.length l1_1) (hc1_1 : l1_1.length ≤ c1_1) (h : impl_isLawful.f k l0 a1_0 l1_1 = some r) :
  Calls Try.prog 66 #[.slice A0 l0.length c0, .agg #[.int .i64 a1_0, .slice A1_1 l1_1.length c1_1]] w fun e w' => e = .returned (.bool r) ∧ Below w.heap.size w w' := by
 have hu28 := Try.underlying28
 have HR0 := jA hr0
 have HC0 := jA hc0
 clear hr0 hc0
 have HR1_1 := jA hr1_1
 have HC1_1 := jA hc1_1
 clear hr1_1 hc1_1
 have HB := jA (Below.refl w.heap.size w)
 have H : ((impl_netIn.f k l0 a1_0 l1_1).bind fun t233 => (if t233 ≤ a1_0 then ((impl_isMixed.f k l0 a1_0 l1_1).bind fun t234 => (some (!t234))) else (some false))) = some r := h
 clear h
 replace H := jP.mp H
 obtain ⟨t233, A30, H⟩ := H
 replace H : (if t233 ≤ a1_0 then ((impl_isMixed.f k l0 a1_0 l1_1).bind fun t234 => (some (!t234))) else (some false)) = some r := H
 have A3 := jA A30
 clear A30
 by_cases c4 : t233 ≤ a1_0
 ·rw [if_pos c4] at H
  have c4b0 : decide (t233 ≤ a1_0) = true := jQ c4
  clear c4
  replace H := jP.mp H
  obtain ⟨t234, A50, H⟩ := H
  replace H : (some (!t234)) = some r := H
  have A5 := jA A50
  clear A50
  obtain rfl := jM H
  go_enter Try.func66, Try.ntmps66
  try go_wp2_with (first | ((with_reducible refine jV (N := 3) rfl ?_); refine jU ?hg (N := 3) ?hd (cs := #[.int .i64 a1_0, .slice A1_1 l1_1.length c1_1]) (t := 28) ?hr ?_; (case hd => rfl); (case hg => rfl); (case hr => first | (go_simp; done) | (go_simp; rfl)); intro gb232 hg w6 hbox hb; have n0_ := jA (jJ (zb0 HB) hb); have n1_ := jA (hbox); have n2_ := jA ((by rw [hg]; exact (jF (zb0 HB)) : w.heap.size ≤ gb232)); have n3_ := jA ((by rw [hg]; exact (jF (zb0 HB)) : w.heap.size ≤ gb232)); clear HB; have HB := n0_; have BK232 := n1_; have GW232 := n2_; have GE232 := n3_; clear n0_ n1_ n2_ n3_; clear hb hbox hg))
  have n0_ := jA (jI BK232.out)
  have n1_ := jA (below_drew1 HB.out)
  clear BK232
  clear HB
  have BK232 := n0_
  have HB := n1_
  clear n0_ n1_
  refine start_ (n := 13) (S := fun w' => w'.cell? ⟨gb232, 0, none⟩ = some (.int .i64 a1_0) ∧ w'.cell? ⟨gb232, 1, none⟩ = some (.slice A1_1 l1_1.length c1_1)) (ds := []) m13_0 zr rfl rfl ⟨(jD BK232.out 0).trans rfl, (jD BK232.out 1).trans rfl⟩ (fun hHeld => ?_); refine with_tabW impl_isLawful.tab1 impl_isLawful.bits1 (fun HT_ HW_ => ?_)
  generalize w6.drew = w7 at BK232 HB hHeld ⊢
  refine zp HT_ 0 5 m13_1000 ?_
  refine zp HT_ 3 8 m13_1200 ?_
  refine zt2 HT_ HW_ hHeld 1 6 m13_1a00 ?_
  refine zt2 HT_ HW_ hHeld 4 9 m13_1b00 ?_
  refine one_ (i := 2) (N := some 7) m13_1f00 rfl rfl (one_of HT_.out zr) (by decide) (fun K hK => ?_)
  refine goes_ Try.func64 zr rfl #[.slice A0 l0.length c0, .agg #[.int .i64 a1_0, .slice A1_1 l1_1.length c1_1]] (by rfl) rfl rfl zm ?_
  with_reducible refine (impl_netIn.calls k _ _ l0 a1_0 _ _ l1_1 t233 _ ?side1 ?side2 ?side3 ?side4 A3.out).mono ?_
  (case side1 => exact zs HR0 HB)
  (case side2 => exact HC0.out)
  (case side3 => exact zs HR1_1 HB)
  (case side4 => exact HC1_1.out)
  rintro e w8 ⟨rfl, hb⟩
  refine ⟨_, rfl, ?_⟩
  have n0_ := jA (jO (g := gb232) (o := .cells #[.int .i64 a1_0, .slice A1_1 l1_1.length c1_1] 28 (0, 0)) (zk BK232) hb)
  have n1_ := jA (jJ (zb1 HB GE232) hb)
  clear BK232
  clear HB
  have BK232 := n0_
  have HB := n1_
  clear n0_ n1_
  (try clear hb)
  (try clear hb2)
  (try clear hk)
  (try clear hi)
  refine hK.out _ _ ⟨(jD BK232.out 0).trans rfl, (jD BK232.out 1).trans rfl⟩ (fun hHeld => ?_)
  clear hK K
  refine norm_ (a' := ?_) ?_ ?_
  rotate_left
  ·show Act.put _ (some 7) _ = _
   simp only [Act.put, jL, jS, jT, i64_w, i32_w]
   rfl
  refine zp HT_ 5 10 m13_1f80 ?_
  refine zp HT_ 6 11 m13_1fc0 ?_
  refine zp HT_ 7 12 m13_1fe0 ?_
  refine zt2 HT_ HW_ hHeld 8 13 m13_1ff0 ?_
  refine one_ (i := 9) (N := some 14) m13_1ff8 rfl rfl (one_of HT_.out zr) (by decide) (fun K hK => ?_)
  refine goes_ Try.func68 zr rfl #[.slice A0 l0.length c0, .agg #[.int .i64 a1_0, .slice A1_1 l1_1.length c1_1]] (by rfl) rfl rfl zm ?_
  with_reducible refine (impl_isMixed.calls k _ _ l0 a1_0 _ _ l1_1 t234 _ ?side1 ?side2 ?side3 ?side4 A5.out).mono ?_
  (case side1 => exact zs HR0 HB)
  (case side2 => exact HC0.out)
  (case side3 => exact zs HR1_1 HB)
  (case side4 => exact HC1_1.out)
  rintro e w9 ⟨rfl, hb⟩
  refine ⟨_, rfl, ?_⟩
  have n0_ := jA (jO (g := gb232) (o := .cells #[.int .i64 a1_0, .slice A1_1 l1_1.length c1_1] 28 (0, 0)) (zk BK232) hb)
  have n1_ := jA (jJ (zb1 HB GE232) hb)
  clear BK232
  clear HB
  have BK232 := n0_
  have HB := n1_
  clear n0_ n1_
  (try clear hb)
  (try clear hb2)
  (try clear hk)
  (try clear hi)
  refine hK.out _ _ ⟨(jD BK232.out 0).trans rfl, (jD BK232.out 1).trans rfl⟩ (fun hHeld => ?_)
  clear hK K
  refine norm_ (a' := ?_) ?_ ?_
  rotate_left
  ·show Act.put _ (some 14) _ = _
   simp only [Act.put, jL, jS, jT, i64_w, i32_w]
   rfl
  refine zp HT_ 10 15 m13_1ffc ?_
  refine zp HT_ 11 16 m13_1ffe ?_
  refine zp HT_ 12 4 m13_1fff ?_
  refine done_ (done_of HT_.out zr) ?_
  try go_wp2
  go_ret
  exact ⟨by first | rfl | (simp [errW_none, errW_some] <;> rfl) | (simp [*, errW_none, errW_some] <;> rfl), zb1 HB GE232⟩
 ·rw [if_neg c4] at H
  have c4b0 : decide (t233 ≤ a1_0) = false := jY c4
  clear c4
  obtain rfl := jM H
  go_enter Try.func66, Try.ntmps66
  try go_wp2_with (first | ((with_reducible refine jV (N := 3) rfl ?_); refine jU ?hg (N := 3) ?hd (cs := #[.int .i64 a1_0, .slice A1_1 l1_1.length c1_1]) (t := 28) ?hr ?_; (case hd => rfl); (case hg => rfl); (case hr => first | (go_simp; done) | (go_simp; rfl)); intro gb232 hg w10 hbox hb; have n0_ := jA (jJ (zb0 HB) hb); have n1_ := jA (hbox); have n2_ := jA ((by rw [hg]; exact (jF (zb0 HB)) : w.heap.size ≤ gb232)); have n3_ := jA ((by rw [hg]; exact (jF (zb0 HB)) : w.heap.size ≤ gb232)); clear HB; have HB := n0_; have BK232 := n1_; have GW232 := n2_; have GE232 := n3_; clear n0_ n1_ n2_ n3_; clear hb hbox hg))
  have n0_ := jA (jI BK232.out)
  have n1_ := jA (below_drew1 HB.out)
  clear BK232
  clear HB
  have BK232 := n0_
  have HB := n1_
  clear n0_ n1_
  refine start_ (n := 13) (S := fun w' => w'.cell? ⟨gb232, 0, none⟩ = some (.int .i64 a1_0) ∧ w'.cell? ⟨gb232, 1, none⟩ = some (.slice A1_1 l1_1.length c1_1)) (ds := []) m13_0 zr rfl rfl ⟨(jD BK232.out 0).trans rfl, (jD BK232.out 1).trans rfl⟩ (fun hHeld => ?_); refine with_tabW impl_isLawful.tab1 impl_isLawful.bits1 (fun HT_ HW_ => ?_)
  generalize w10.drew = w11 at BK232 HB hHeld ⊢
  refine zp HT_ 0 5 m13_1000 ?_
  refine zp HT_ 3 8 m13_1200 ?_
  refine zt2 HT_ HW_ hHeld 1 6 m13_1a00 ?_
  refine zt2 HT_ HW_ hHeld 4 9 m13_1b00 ?_
  refine one_ (i := 2) (N := some 7) m13_1f00 rfl rfl (one_of HT_.out zr) (by decide) (fun K hK => ?_)
  refine goes_ Try.func64 zr rfl #[.slice A0 l0.length c0, .agg #[.int .i64 a1_0, .slice A1_1 l1_1.length c1_1]] (by rfl) rfl rfl zm ?_
  with_reducible refine (impl_netIn.calls k _ _ l0 a1_0 _ _ l1_1 t233 _ ?side1 ?side2 ?side3 ?side4 A3.out).mono ?_
  (case side1 => exact zs HR0 HB)
  (case side2 => exact HC0.out)
  (case side3 => exact zs HR1_1 HB)
  (case side4 => exact HC1_1.out)
  rintro e w12 ⟨rfl, hb⟩
  refine ⟨_, rfl, ?_⟩
  have n0_ := jA (jO (g := gb232) (o := .cells #[.int .i64 a1_0, .slice A1_1 l1_1.length c1_1] 28 (0, 0)) (zk BK232) hb)
  have n1_ := jA (jJ (zb1 HB GE232) hb)
  clear BK232
  clear HB
  have BK232 := n0_
  have HB := n1_
  clear n0_ n1_
  (try clear hb)
  (try clear hb2)
  (try clear hk)
  (try clear hi)
  refine hK.out _ _ ⟨(jD BK232.out 0).trans rfl, (jD BK232.out 1).trans rfl⟩ (fun hHeld => ?_)
  clear hK K
  refine norm_ (a' := ?_) ?_ ?_
  rotate_left
  ·show Act.put _ (some 7) _ = _
   simp only [Act.put, jL, jS, jT, i64_w, i32_w]
   rfl
  refine zp HT_ 5 10 m13_1f80 ?_
  refine zp HT_ 6 11 m13_1fc0 ?_
  refine zq HT_ 7 12 m13_1fe0 ?_
  refine zq HT_ 8 13 m13_1ff0 ?_
  refine zq HT_ 9 14 m13_1ff8 ?_
  refine zq HT_ 10 15 m13_1ffc ?_
  refine zp HT_ 11 16 m13_1ffe ?_
  refine zp HT_ 12 4 m13_1fff ?_
  refine done_ (done_of HT_.out zr) ?_
  try go_wp2
  go_ret
  exact ⟨by first | rfl | (simp [errW_none, errW_some] <;> rfl) | (simp [*, errW_none, errW_some] <;> rfl), zb1 HB GE232⟩

/-! ### impl_copyList: function 87 -/
def impl_copyList.f (l0 : List Int) : Option (List Int) := (some (([] : List Int) : List Int)).bind fun y235 => (if y235.length + l0.length < 17592186044416 then (some (y235 ++ l0)) else (none))
set_option maxHeartbeats 8000000 in
set_option maxRecDepth 100000 in
theorem impl_copyList.calls (A0 : Option Addr) (c0 : Nat) (l0 : List Int) (r : List Int) (w : World) (hr0 : Kd.C (Kd.int .i64) w A0 l0.length l0) (hc0 : l0.length ≤ c0) (h : impl_copyList.f l0 = some r) :
  Calls Try.prog 87 #[.slice A0 l0.length c0] w fun e w' => ∃ v0_ : Value, e = .returned (v0_) ∧ Kd.R (Kd.int .i64) 2 w' w.heap.size (fun _ => True) v0_ r ∧ Below w.heap.size w w' := by
 have HR0 := jA hr0
 have HC0 := jA hc0
 clear hr0 hc0
 have HB := jA (Below.refl w.heap.size w)
 have H : ((some (([] : List Int) : List Int)).bind fun y235 => (if y235.length + l0.length < 17592186044416 then (some (y235 ++ l0)) else (none))) = some r := h
 clear h
 obtain ⟨y235, hy235⟩ : ∃ y_ : List Int, y_ = (([] : List Int)) := ⟨_, rfl⟩
 replace H : (if y235.length + l0.length < 17592186044416 then (some (y235 ++ l0)) else (none)) = some r := by first | (rw [hy235]; with_reducible exact H) | (have H2_ := (Option.bind_some _ _).symm.trans H; rw [hy235]; with_reducible exact H2_) | (have H2_ := (Option.bind_some _ _).symm.trans H; with_reducible exact H2_) | with_reducible exact H | (rw [hy235]; exact H) | exact H
 have Ny235 := jA hy235
 clear hy235
 by_cases c2 : y235.length + l0.length < 17592186044416
 ·rw [if_pos c2] at H
  have LMc2 := jA c2
  clear c2
  obtain ⟨y238, hy238⟩ : ∃ y_ : List Int, y_ = (y235 ++ l0) := ⟨_, rfl⟩
  replace H : (some y238) = some r := by first | (rw [hy238]; with_reducible exact H) | (have H2_ := (Option.bind_some _ _).symm.trans H; rw [hy238]; with_reducible exact H2_) | (have H2_ := (Option.bind_some _ _).symm.trans H; with_reducible exact H2_) | with_reducible exact H | (rw [hy238]; exact H) | exact H
  have Ny238 := jA hy238
  clear hy238
  obtain rfl := jM H
  go_enter Try.func87, Try.ntmps87
  go_wp2_with (first | ((with_reducible refine jV (N := 3) rfl ?_); refine Kd.R_lit (Kd.int .i64) _ 2 ?hg (N := 3) ?hd (xs := ([] : List Int)) (inner := []) (ok := fun _ => True) (okp := fun _ => True) ?hr ?hp (fun _ hk => hk) trivial (Below.refl _ _) (Nat.le_refl _) (by simp) ?_; (case hd => rfl); (case hg => rfl); (case hr => first | (go_simp; done) | (go_simp; rfl)); (case hp => exact (Reps.none _ _)); intro v236 w3 ho4 hb hg_ hnew_; clear hg_ hnew_; (first | rw [← Ny235.out] at ho4 | (simp only [Int.reduceToNat] at ho4; rw [← Ny235.out] at ho4)); have n0_ := jA (Kd.R_lower ho4 (jF (zb0 HB))); have n1_ := jA (jJ (zb0 HB) hb); clear HB; have HO237 := n0_; have HB := n1_; clear n0_ n1_; clear hb ho4) | ((with_reducible refine gate_builtin (b := .append) (xs := #[.tmp 3, .tmp 4]) rfl ?_); at_builtin; refine Kd.R_append_rows (Kd.int .i64) (w0 := w) w.heap.size rfl (.tmp 3) (.tmp 4) 23 2 (.int .i64 0) 8 rfl Try.underlying23 info2 rfl (by decide) (by omega) v236 y235 l0 _ _ _ (fun _ => True) (fun _ => False) rfl rfl ?aO ?aR (fun _ _ h => h) (fun _ h => h.elim) ?aF ?aB ?aS ?aL ?_; (case aR => repeat (first | exact HR0.out | exact (Kd.C_below HR0.out HB.out) | (with_reducible refine Kd.C_alloc ?_ _) | (with_reducible refine Kd.C_drewN ?_ _) | (with_reducible refine Kd.C_drew ?_))); (case aB => exact (zb0 HB)); (case aF => exact (fun _ _ => trivial)); (case aO => exact (zo HO237)); (case aS => exact (jF (zb0 HB))); (case aL => have := LMc2.out; omega); intro v239 w5 ho hb hg hat; rw [← Ny238.out] at ho; have n0_ := jA (hb); have n1_ := jA (ho); clear HB; clear HO237; have HB := n0_; have HO240 := n1_; clear n0_ n1_; clear ho hb hg hat))
  go_ret
  exact ⟨_, by first | rfl | (simp [errW_none, errW_some] <;> rfl) | (simp [*, errW_none, errW_some] <;> rfl), by (with_reducible repeat (first | apply Kd.R_alloc | apply Kd.R_drewN | apply Kd.R_drew)); exact HO240.out, zb0 HB⟩
 ·rw [if_neg c2] at H
  exact absurd H (by simp)

/-! ### impl_withPieces: function 74 -/
def impl_withPieces.f (a0_0 : Int) (l0_1 : List Int) (a1 : Int) (a2 : Int) : Option (Int × List Int) := (impl_copyList.f l0_1).bind fun t243 => (if 0 ≤ a1 then (if a1 < (t243.length : Int) then (some (a0_0, (t243.set (a1 : Int).toNat (wrap64 ((rd t243 a1) + a2))))) else (none)) else (none))
def impl_withPieces.T1 : Bool × List (List Nat × List Nat) := (true, [([], []), ([0], [0]), ([], []), ([2], [2]), ([3], [3]), ([1, 4], [1, 4]), ([], []), ([6, 5, 4, 0, 1, 2, 3, 4, 5, 6], [5, 6])])
def impl_withPieces.B1 : List Nat := [0, 1, 0, 4, 12, 31, 0, 127]
theorem impl_withPieces.tab1 : rtab .any (opsOf Try.f74 1) = impl_withPieces.T1 := by kernel_rfl
theorem impl_withPieces.bits1 : waitsOk impl_withPieces.T1.2 impl_withPieces.B1 = true := by kernel_rfl
set_option maxHeartbeats 8000000 in
set_option maxRecDepth 100000 in
theorem impl_withPieces.calls (a0_0 : Int) (A0_1 : Option Addr) (c0_1 : Nat) (l0_1 : List Int) (a1 : Int) (a2 : Int) (r1 : Int) (r2 : List Int) (w : World) (hr0_1 : Kd.C (Kd.int .i64) w A0_1 l0_1.length l0_1) (hc0_1 : l0_1.length ≤ c0_1) (h : impl_withPieces.f a0_0 l0_1 a1 a2 = some (r1, r2)) :
  Calls Try.prog 74 #[.agg #[.int .i64 a0_0, .slice A0_1 l0_1.length c0_1], .int .i64 a1, .int .i64 a2] w fun e w' => ∃ v1_ : Value, e = .returned (.agg #[.int .i64 r1, v1_]) ∧ Kd.R (Kd.int .i64) 2 w' w.heap.size (fun _ => True) v1_ r2 ∧ Below w.heap.size w w' := by
 have hu28 := Try.underlying28
 have HR0_1 := jA hr0_1
 have HC0_1 := jA hc0_1
 clear hr0_1 hc0_1
 have HB := jA (Below.refl w.heap.size w)
 have H : ((impl_copyList.f l0_1).bind fun t243 => (if 0 ≤ a1 then (if a1 < (t243.length : Int) then (some (a0_0, (t243.set (a1 : Int).toNat (wrap64 ((rd t243 a1) + a2))))) else (none)) else (none))) = some (r1, r2) := h
 clear h
 replace H := jP.mp H
 obtain ⟨t243, A40, H⟩ := H
 replace H : (if 0 ≤ a1 then (if a1 < (t243.length : Int) then (some (a0_0, (t243.set (a1 : Int).toNat (wrap64 ((rd t243 a1) + a2))))) else (none)) else (none)) = some (r1, r2) := H
 have A4 := jA A40
 clear A40
 by_cases c5 : 0 ≤ a1
 ·rw [if_pos c5] at H
  have c5b0 : decide (0 ≤ a1) = true := jQ c5
  clear c5
  by_cases c6 : a1 < (t243.length : Int)
  ·rw [if_pos c6] at H
   have c6b0 : decide (a1 < (t243.length : Int)) = true := jQ c6
   clear c6
   obtain ⟨y248, hy248⟩ : ∃ y_ : List Int, y_ = (t243.set (a1 : Int).toNat (wrap64 ((rd t243 a1) + a2))) := ⟨_, rfl⟩
   replace H : (some (a0_0, y248)) = some (r1, r2) := by first | (rw [hy248]; with_reducible exact H) | (have H2_ := (Option.bind_some _ _).symm.trans H; rw [hy248]; with_reducible exact H2_) | (have H2_ := (Option.bind_some _ _).symm.trans H; with_reducible exact H2_) | with_reducible exact H | (rw [hy248]; exact H) | exact H
   have Ny248 := jA hy248
   clear hy248
   simp only [Option.some.injEq, Prod.mk.injEq] at H
   obtain ⟨rfl, rfl⟩ := H
   go_enter Try.func74, Try.ntmps74
   try go_wp2_with (first | ((with_reducible refine jV (N := 3) rfl ?_); refine jU ?hg (N := 3) ?hd (cs := #[.int .i64 a0_0, .slice A0_1 l0_1.length c0_1]) (t := 28) ?hr ?_; (case hd => rfl); (case hg => rfl); (case hr => first | (go_simp; done) | (go_simp; rfl)); intro gb241 hg w8 hbox hb; have n0_ := jA (jJ (zb0 HB) hb); have n1_ := jA (hbox); have n2_ := jA ((by rw [hg]; exact (jF (zb0 HB)) : w.heap.size ≤ gb241)); have n3_ := jA ((by rw [hg]; exact (jF (zb0 HB)) : w.heap.size ≤ gb241)); clear HB; have HB := n0_; have BK241 := n1_; have GW241 := n2_; have GE241 := n3_; clear n0_ n1_ n2_ n3_; clear hb hbox hg) | ((with_reducible refine jV (N := 6) rfl ?_); refine jU ?hg (N := 6) ?hd (cs := #[.int .i64 0, .slice none 0 0]) (t := 28) ?hr ?_; (case hd => rfl); (case hg => rfl); (case hr => first | (go_simp; done) | (go_simp; rfl)); intro gb242 hg w9 hbox hb; have n0_ := jA (jO (g := gb241) (o := .cells #[.int .i64 a0_0, .slice A0_1 l0_1.length c0_1] 28 (0, 0)) (zk BK241) hb); have n1_ := jA (jJ (zb1 HB GE241) hb); have n2_ := jA (hbox); have n3_ := jA ((by rw [hg]; exact (jF (zb1 HB GE241)) : w.heap.size ≤ gb242)); have n4_ := jA ((by rw [hg]; exact (jF (zb1 HB GE241)) : w.heap.size ≤ gb242)); have n5_ := jA ((by rw [hg]; exact jN (blk_lt (g := gb241) (o := .cells #[.int .i64 a0_0, .slice A0_1 l0_1.length c0_1] 28 (0, 0)) (zk BK241)) : gb241 ≠ gb242)); have n6_ := jA n5_.out.symm; clear BK241; clear HB; have BK241 := n0_; have HB := n1_; have BK242 := n2_; have GW242 := n3_; have GE242 := n4_; have NB241_242 := n5_; have NB242_241 := n6_; clear n0_ n1_ n2_ n3_ n4_ n5_ n6_; clear hb hbox hg))
   have n0_ := jA (jI BK241.out)
   have n1_ := jA (jI BK242.out)
   have n2_ := jA (below_drew1 HB.out)
   clear BK241
   clear BK242
   clear HB
   have BK241 := n0_
   have BK242 := n1_
   have HB := n2_
   clear n0_ n1_ n2_
   refine start_ (n := 8) (S := fun w' => w'.cell? ⟨gb241, 0, none⟩ = some (.int .i64 a0_0) ∧ w'.cell? ⟨gb241, 1, none⟩ = some (.slice A0_1 l0_1.length c0_1)) (ds := []) m8_0 zr rfl rfl ⟨(jD BK241.out 0).trans rfl, (jD BK241.out 1).trans rfl⟩ (fun hHeld => ?_); refine with_tabW impl_withPieces.tab1 impl_withPieces.bits1 (fun HT_ HW_ => ?_)
   generalize w9.drew = w10 at BK241 BK242 HB hHeld ⊢
   refine zp HT_ 0 8 m8_80 ?_
   refine zp HT_ 2 10 m8_a0 ?_
   refine zt2 HT_ HW_ hHeld 1 9 m8_e0 ?_
   refine zt2 HT_ HW_ hHeld 3 11 m8_f0 ?_
   refine join_ (σ := Value × Nat) 1 m8_fe (fun s_ => [(12, s_.1), (7, .pointer (some ⟨s_.2, 0, none⟩)), (13, .agg #[.int .i64 a0_0, s_.1])]) (fun s_ w' => (w'.cell? ⟨gb241, 0, none⟩ = some (.int .i64 a0_0) ∧ w'.cell? ⟨gb241, 1, none⟩ = some (.slice A0_1 l0_1.length c0_1)) ∧ (Kd.R (Kd.int .i64) 2 w' w.heap.size (fun _ => True) s_.1 t243) ∧ (w'.heap[gb241]? = some (.cells #[.int .i64 a0_0, .slice A0_1 l0_1.length c0_1] 28 (0, 0))) ∧ (w'.heap[gb242]? = some (.cells #[.int .i64 0, .slice none 0 0] 28 (0, 0))) ∧ (w'.heap[s_.2]? = some (.cells #[.int .i64 0, .slice none 0 0] 28 (0, 0))) ∧ (w.heap.size ≤ s_.2) ∧ (w.heap.size ≤ s_.2) ∧ (gb241 ≠ s_.2) ∧ (s_.2 ≠ gb241) ∧ (gb242 ≠ s_.2) ∧ (s_.2 ≠ gb242) ∧ (Below w.heap.size w w')) ?_ ?_
   rotate_left
   ·intro hCont
    refine two_ (i := 4) (j := 6) (Ni := some 12) (Nj := some 7) m8_f8 m8_f2 rfl rfl rfl rfl (two_of HT_.out zr) (by decide) (by decide) (fun K hK => ?_) (fun K hK => ?_)
    ·skip
     refine goes_ Try.func87 zr rfl #[.slice A0_1 l0_1.length c0_1] (by rfl) rfl rfl zm ?_
     with_reducible refine (impl_copyList.calls _ _ l0_1 t243 _ ?side1 ?side2 A4.out).mono ?_
     (case side1 => exact zs HR0_1 HB)
     (case side2 => exact HC0_1.out)
     rintro e w11 ⟨v244, rfl, ho0, hb⟩
     refine ⟨_, rfl, ?_⟩
     have n0_ := jA (Kd.R_lower ho0 (jF (zb2 HB GE241 GE242)))
     have n1_ := jA (jO (g := gb241) (o := .cells #[.int .i64 a0_0, .slice A0_1 l0_1.length c0_1] 28 (0, 0)) (zk BK241) hb)
     have n2_ := jA (jO (g := gb242) (o := .cells #[.int .i64 0, .slice none 0 0] 28 (0, 0)) (zk BK242) hb)
     have n3_ := jA (jJ (zb2 HB GE241 GE242) hb)
     clear BK241
     clear BK242
     clear HB
     have HO245 := n0_
     have BK241 := n1_
     have BK242 := n2_
     have HB := n3_
     clear n0_ n1_ n2_ n3_
     (try clear hb)
     (try clear hb2)
     (try clear hk)
     (try clear hi)
     (try clear ho0)
     obtain ⟨Ao12, co12, eo12⟩ := Kd.R_slice HO245.out
     (first | subst eo12 | (injection eo12 with f1_ f2_ f3_; have f4_ := f1_.symm; have f5_ := f3_.symm; clear f1_ f2_ f3_; subst f4_; subst f5_))
     refine hK.out _ _ ⟨(jD BK241.out 0).trans rfl, (jD BK241.out 1).trans rfl⟩ (fun hHeld => ?_)
     clear hK K
     refine norm_ (a' := ?_) ?_ ?_
     rotate_left
     ·show Act.put _ (some 12) _ = _
      simp only [Act.put, jL, jS, jT, i64_w, i32_w]
      rfl
     refine zp HT_ 5 13 m8_fc ?_
     refine one_ (i := 6) (N := some 7) m8_fe rfl rfl (one_of HT_.out zr) (by decide) (fun K hK => ?_)
     refine box_step ?hg (N := 7) ?hd (cs := #[.int .i64 0, .slice none 0 0]) (t := 28) ?hr ?_; (case hd => rfl); (case hg => rfl); (case hr => first | (go_simp; done) | (go_simp; rfl))
     intro gb246 hg w13 hbox hb
     have n0_ := jA (Kd.R_below (zo HO245) hb)
     have n1_ := jA (jO (g := gb241) (o := .cells #[.int .i64 a0_0, .slice A0_1 l0_1.length c0_1] 28 (0, 0)) (zk BK241) hb)
     have n2_ := jA (jO (g := gb242) (o := .cells #[.int .i64 0, .slice none 0 0] 28 (0, 0)) (zk BK242) hb)
     have n3_ := jA (jJ (zb2 HB GE241 GE242) hb)
     have n4_ := jA (hbox)
     have n5_ := jA ((by rw [hg]; exact (jF (zb2 HB GE241 GE242)) : w.heap.size ≤ gb246))
     have n6_ := jA ((by rw [hg]; exact (jF (zb2 HB GE241 GE242)) : w.heap.size ≤ gb246))
     have n7_ := jA ((by rw [hg]; exact jN (blk_lt (g := gb241) (o := .cells #[.int .i64 a0_0, .slice A0_1 l0_1.length c0_1] 28 (0, 0)) (zk BK241)) : gb241 ≠ gb246))
     have n8_ := jA ((by rw [hg]; exact Nat.ne_of_gt (blk_lt (g := gb241) (o := .cells #[.int .i64 a0_0, .slice A0_1 l0_1.length c0_1] 28 (0, 0)) (zk BK241)) : gb246 ≠ gb241))
     have n9_ := jA ((by rw [hg]; exact jN (blk_lt (g := gb242) (o := .cells #[.int .i64 0, .slice none 0 0] 28 (0, 0)) (zk BK242)) : gb242 ≠ gb246))
     have n10_ := jA ((by rw [hg]; exact Nat.ne_of_gt (blk_lt (g := gb242) (o := .cells #[.int .i64 0, .slice none 0 0] 28 (0, 0)) (zk BK242)) : gb246 ≠ gb242))
     clear HO245
     clear BK241
     clear BK242
     clear HB
     have HO245 := n0_
     have BK241 := n1_
     have BK242 := n2_
     have HB := n3_
     have BK246 := n4_
     have GW246 := n5_
     have GE246 := n6_
     have NB241_246 := n7_
     have NB246_241 := n8_
     have NB242_246 := n9_
     have NB246_242 := n10_
     clear n0_ n1_ n2_ n3_ n4_ n5_ n6_ n7_ n8_ n9_ n10_
     clear hb hbox hg
     refine hK.out _ _ ⟨(jD BK241.out 0).trans rfl, (jD BK241.out 1).trans rfl⟩ (fun hHeld => ?_)
     clear hK K
     refine norm_ (a' := ?_) ?_ ?_
     rotate_left
     ·show Act.put _ (some 7) _ = _
      simp only [Act.put, jL, jS, jT, i64_w, i32_w]
      rfl
     exact norm_ (by simp only [putAll, Act.put, jL, jS, jT]) (hCont (.slice Ao12 t243.length co12, gb246) _ ⟨hHeld, (zo HO245), (zk BK241), (zk BK242), (zk BK246), GW246.out, GE246.out, NB241_246.out, NB246_241.out, NB242_246.out, NB246_242.out, (zb3 HB GE241 GE242 GE246)⟩)
    ·skip
     refine box_step ?hg (N := 7) ?hd (cs := #[.int .i64 0, .slice none 0 0]) (t := 28) ?hr ?_; (case hd => rfl); (case hg => rfl); (case hr => first | (go_simp; done) | (go_simp; rfl))
     intro gb246 hg w11 hbox hb
     have n0_ := jA (jO (g := gb241) (o := .cells #[.int .i64 a0_0, .slice A0_1 l0_1.length c0_1] 28 (0, 0)) (zk BK241) hb)
     have n1_ := jA (jO (g := gb242) (o := .cells #[.int .i64 0, .slice none 0 0] 28 (0, 0)) (zk BK242) hb)
     have n2_ := jA (jJ (zb2 HB GE241 GE242) hb)
     have n3_ := jA (hbox)
     have n4_ := jA ((by rw [hg]; exact (jF (zb2 HB GE241 GE242)) : w.heap.size ≤ gb246))
     have n5_ := jA ((by rw [hg]; exact (jF (zb2 HB GE241 GE242)) : w.heap.size ≤ gb246))
     have n6_ := jA ((by rw [hg]; exact jN (blk_lt (g := gb241) (o := .cells #[.int .i64 a0_0, .slice A0_1 l0_1.length c0_1] 28 (0, 0)) (zk BK241)) : gb241 ≠ gb246))
     have n7_ := jA ((by rw [hg]; exact Nat.ne_of_gt (blk_lt (g := gb241) (o := .cells #[.int .i64 a0_0, .slice A0_1 l0_1.length c0_1] 28 (0, 0)) (zk BK241)) : gb246 ≠ gb241))
     have n8_ := jA ((by rw [hg]; exact jN (blk_lt (g := gb242) (o := .cells #[.int .i64 0, .slice none 0 0] 28 (0, 0)) (zk BK242)) : gb242 ≠ gb246))
     have n9_ := jA ((by rw [hg]; exact Nat.ne_of_gt (blk_lt (g := gb242) (o := .cells #[.int .i64 0, .slice none 0 0] 28 (0, 0)) (zk BK242)) : gb246 ≠ gb242))
     clear BK241
     clear BK242
     clear HB
     have BK241 := n0_
     have BK242 := n1_
     have HB := n2_
     have BK246 := n3_
     have GW246 := n4_
     have GE246 := n5_
     have NB241_246 := n6_
     have NB246_241 := n7_
     have NB242_246 := n8_
     have NB246_242 := n9_
     clear n0_ n1_ n2_ n3_ n4_ n5_ n6_ n7_ n8_ n9_
     clear hb hbox hg
     refine hK.out _ _ ⟨(jD BK241.out 0).trans rfl, (jD BK241.out 1).trans rfl⟩ (fun hHeld => ?_)
     clear hK K
     refine norm_ (a' := ?_) ?_ ?_
     rotate_left
     ·show Act.put _ (some 7) _ = _
      simp only [Act.put, jL, jS, jT, i64_w, i32_w]
      rfl
     refine one_ (i := 4) (N := some 12) m8_fa rfl rfl (one_of HT_.out zr) (by decide) (fun K hK => ?_)
     refine goes_ Try.func87 zr rfl #[.slice A0_1 l0_1.length c0_1] (by rfl) rfl rfl zm ?_
     with_reducible refine (impl_copyList.calls _ _ l0_1 t243 _ ?side1 ?side2 A4.out).mono ?_
     (case side1 => exact zs HR0_1 HB)
     (case side2 => exact HC0_1.out)
     rintro e w12 ⟨v244, rfl, ho0, hb⟩
     refine ⟨_, rfl, ?_⟩
     have n0_ := jA (Kd.R_lower ho0 (jF (zb3 HB GE241 GE242 GE246)))
     have n1_ := jA (jO (g := gb241) (o := .cells #[.int .i64 a0_0, .slice A0_1 l0_1.length c0_1] 28 (0, 0)) (zk BK241) hb)
     have n2_ := jA (jO (g := gb242) (o := .cells #[.int .i64 0, .slice none 0 0] 28 (0, 0)) (zk BK242) hb)
     have n3_ := jA (jO (g := gb246) (o := .cells #[.int .i64 0, .slice none 0 0] 28 (0, 0)) (zk BK246) hb)
     have n4_ := jA (jJ (zb3 HB GE241 GE242 GE246) hb)
     clear BK241
     clear BK242
     clear BK246
     clear HB
     have HO245 := n0_
     have BK241 := n1_
     have BK242 := n2_
     have BK246 := n3_
     have HB := n4_
     clear n0_ n1_ n2_ n3_ n4_
     (try clear hb)
     (try clear hb2)
     (try clear hk)
     (try clear hi)
     (try clear ho0)
     obtain ⟨Ao13, co13, eo13⟩ := Kd.R_slice HO245.out
     (first | subst eo13 | (injection eo13 with f1_ f2_ f3_; have f4_ := f1_.symm; have f5_ := f3_.symm; clear f1_ f2_ f3_; subst f4_; subst f5_))
     refine hK.out _ _ ⟨(jD BK241.out 0).trans rfl, (jD BK241.out 1).trans rfl⟩ (fun hHeld => ?_)
     clear hK K
     refine norm_ (a' := ?_) ?_ ?_
     rotate_left
     ·show Act.put _ (some 12) _ = _
      simp only [Act.put, jL, jS, jT, i64_w, i32_w]
      rfl
     refine zp HT_ 5 13 m8_fe ?_
     exact norm_ (by simp only [putAll, Act.put, jL, jS, jT]) (hCont (.slice Ao13 t243.length co13, gb246) _ ⟨hHeld, (zo HO245), (zk BK241), (zk BK242), (zk BK246), GW246.out, GE246.out, NB241_246.out, NB246_241.out, NB242_246.out, NB246_242.out, (zb3 HB GE241 GE242 GE246)⟩)
   rintro ⟨v244, gb246⟩ w14 ⟨hS_, h0_, h1_, h2_, h3_, h4_, h5_, h6_, h7_, h8_, h9_, h10_⟩
   have n0_ : Aside0 (Kd.R (Kd.int .i64) 2 w14 w.heap.size (fun _ => True) v244 t243) := ⟨h0_⟩
   have n1_ : Aside0 (w14.heap[gb241]? = some (.cells #[.int .i64 a0_0, .slice A0_1 l0_1.length c0_1] 28 (0, 0))) := ⟨h1_⟩
   have n2_ : Aside0 (w14.heap[gb242]? = some (.cells #[.int .i64 0, .slice none 0 0] 28 (0, 0))) := ⟨h2_⟩
   have n3_ : Aside0 (w14.heap[gb246]? = some (.cells #[.int .i64 0, .slice none 0 0] 28 (0, 0))) := ⟨h3_⟩
   have n4_ : Aside0 (w.heap.size ≤ gb246) := ⟨h4_⟩
   have n5_ : Aside0 (w.heap.size ≤ gb246) := ⟨h5_⟩
   have n6_ : Aside0 (gb241 ≠ gb246) := ⟨h6_⟩
   have n7_ : Aside0 (gb246 ≠ gb241) := ⟨h7_⟩
   have n8_ : Aside0 (gb242 ≠ gb246) := ⟨h8_⟩
   have n9_ : Aside0 (gb246 ≠ gb242) := ⟨h9_⟩
   have n10_ : Aside0 (Below w.heap.size w w14) := ⟨h10_⟩
   clear BK241
   clear BK242
   clear HB
   clear h0_ h1_ h2_ h3_ h4_ h5_ h6_ h7_ h8_ h9_ h10_
   have HO245 := n0_
   have BK241 := n1_
   have BK242 := n2_
   have BK246 := n3_
   have GW246 := n4_
   have GE246 := n5_
   have NB241_246 := n6_
   have NB246_241 := n7_
   have NB242_246 := n8_
   have NB246_242 := n9_
   have HB := n10_
   clear n0_ n1_ n2_ n3_ n4_ n5_ n6_ n7_ n8_ n9_ n10_
   have hHeld : w14.cell? ⟨gb241, 0, none⟩ = some (.int .i64 a0_0) ∧ w14.cell? ⟨gb241, 1, none⟩ = some (.slice A0_1 l0_1.length c0_1) := hS_
   obtain ⟨Ao15, co15, eo15⟩ := Kd.R_slice HO245.out
   (first | subst eo15 | (injection eo15 with f1_ f2_ f3_; have f4_ := f1_.symm; have f5_ := f3_.symm; clear f1_ f2_ f3_; subst f4_; subst f5_))
   refine norm_ (a' := ?_) ?_ ?_
   rotate_left
   ·simp only [putAll, Act.put, jL, jS, jT]
    rfl
   refine one_ (i := 7) (N := none) m8_ff rfl rfl (one_of HT_.out zr) (by decide) (fun K hK => ?_)
   have hs16 : w14.cell? ⟨gb246, 0, none⟩ = some (.int .i64 0) := (jD BK246.out 0).trans rfl
   have hfs16 := jC BK246.out 0
   have hns16_0 := NB241_246.out
   have hns16_1 := NB242_246.out
   have hms16_0 := NB246_241.out
   have hms16_1 := NB246_242.out
   have hs17 : w14.cell? ⟨gb246, 1, none⟩ = some (.slice none 0 0) := (jD BK246.out 1).trans rfl
   have hfs17 := jC BK246.out 1
   have hns17_0 := NB241_246.out
   have hns17_1 := NB242_246.out
   have hms17_0 := NB246_241.out
   have hms17_1 := NB246_242.out
   refine skip_ (w1 := ?_) (by rfl) rfl ?_ ?_
   rotate_left
   ·go_simp
    rfl
   refine hK.out _ _ ⟨((jX (p := ⟨gb246, _, none⟩) NB241_246.out _).trans (((jX (p := ⟨gb246, _, none⟩) NB241_246.out _).trans (hHeld.1)))), ((jX (p := ⟨gb246, _, none⟩) NB241_246.out _).trans (((jX (p := ⟨gb246, _, none⟩) NB241_246.out _).trans (hHeld.2))))⟩ (fun hHeld => ?_)
   clear hK K
   refine done_ (done_of HT_.out zr) ?_
   have n0_ : Aside0 (Kd.R (Kd.int .i64) 2 ((w14.setCell ⟨gb246, 0, none⟩ (.int .i64 a0_0)).setCell ⟨gb246, 1, none⟩ (.slice Ao15 t243.length co15)) w.heap.size (fun _ => True) (.slice Ao15 t243.length co15) t243) := ⟨by (with_reducible repeat (first | apply Kd.R_alloc | apply Kd.R_drewN | apply Kd.R_drew)); exact Kd.R_mono (Kd.R_far (p := ⟨gb246, 1, none⟩) (Kd.R_far (p := ⟨gb246, 0, none⟩) (Kd.R_types HO245.out BK246.out (by decide)) (fun _ hk => hk.2) (.int .i64 a0_0)) (fun _ hk => hk.2) (.slice Ao15 t243.length co15)) (fun _ hk => trivial)⟩
   have n1_ : Aside0 (((w14.setCell ⟨gb246, 0, none⟩ (.int .i64 a0_0)).setCell ⟨gb246, 1, none⟩ (.slice Ao15 t243.length co15)).heap[gb241]? = some (.cells #[.int .i64 a0_0, .slice A0_1 l0_1.length c0_1] 28 (0, 0))) := ⟨by (with_reducible repeat (first | refine jG ?_ _ | refine jI ?_ | refine jH ?_ _)); refine ja ?_ NB241_246.out _; (with_reducible repeat (first | refine jG ?_ _ | refine jI ?_ | refine jH ?_ _)); refine ja ?_ NB241_246.out _; (with_reducible repeat (first | refine jG ?_ _ | refine jI ?_ | refine jH ?_ _)); exact BK241.out⟩
   have n2_ : Aside0 (((w14.setCell ⟨gb246, 0, none⟩ (.int .i64 a0_0)).setCell ⟨gb246, 1, none⟩ (.slice Ao15 t243.length co15)).heap[gb242]? = some (.cells #[.int .i64 0, .slice none 0 0] 28 (0, 0))) := ⟨by (with_reducible repeat (first | refine jG ?_ _ | refine jI ?_ | refine jH ?_ _)); refine ja ?_ NB242_246.out _; (with_reducible repeat (first | refine jG ?_ _ | refine jI ?_ | refine jH ?_ _)); refine ja ?_ NB242_246.out _; (with_reducible repeat (first | refine jG ?_ _ | refine jI ?_ | refine jH ?_ _)); exact BK242.out⟩
   have n3_ : Aside0 (((w14.setCell ⟨gb246, 0, none⟩ (.int .i64 a0_0)).setCell ⟨gb246, 1, none⟩ (.slice Ao15 t243.length co15)).heap[gb246]? = some (.cells #[.int .i64 a0_0, .slice Ao15 t243.length co15] 28 (0, 0))) := ⟨by (with_reducible repeat (first | refine jG ?_ _ | refine jI ?_ | refine jH ?_ _)); refine jZ (cs := #[.int .i64 a0_0, .slice none 0 0]) ?_ 1 _ rfl; (with_reducible repeat (first | refine jG ?_ _ | refine jI ?_ | refine jH ?_ _)); refine jZ (cs := #[.int .i64 0, .slice none 0 0]) ?_ 0 _ rfl; (with_reducible repeat (first | refine jG ?_ _ | refine jI ?_ | refine jH ?_ _)); exact BK246.out⟩
   have n4_ : Aside0 (Below w.heap.size w ((w14.setCell ⟨gb246, 0, none⟩ (.int .i64 a0_0)).setCell ⟨gb246, 1, none⟩ (.slice Ao15 t243.length co15))) := ⟨zb3 HB GE241 GE242 GE246⟩
   (try clear HO245)
   (try clear BK241)
   (try clear BK242)
   (try clear BK246)
   (try clear HB)
   generalize ((w14.setCell ⟨gb246, 0, none⟩ (.int .i64 a0_0)).setCell ⟨gb246, 1, none⟩ (.slice Ao15 t243.length co15)) = w18 at n0_ n1_ n2_ n3_ n4_ ⊢
   have HO245 := n0_
   have BK241 := n1_
   have BK242 := n2_
   have BK246 := n3_
   have HB := n4_
   clear n0_ n1_ n2_ n3_ n4_
   have hnb19 := NB246_241.out
   have hnc19 := NB241_246.out
   have hnb20 := NB246_242.out
   have hnc20 := NB242_246.out
   have hcz21_0 : w18.cell? ⟨gb246, 0, none⟩ = some (.int .i64 a0_0) := (jD BK246.out 0).trans rfl
   have hcz21_1 : w18.cell? ⟨gb246, 1, none⟩ = some (.slice Ao15 t243.length co15) := (jD BK246.out 1).trans rfl
   have hfz21_0 := jC BK246.out 0
   have hfz21_1 := jC BK246.out 1
   have p247 : 0 ≤ (a1 : Int) := jE za
   have q247 : a1 < (t243.length : Int) := jE za
   obtain ⟨ad247, e247, hx247_0⟩ := Kd.at_int (jb HO245.out).2.2 a1 p247 q247
   cases e247
   replace p247 := eq_true p247
   replace q247 := eq_true q247
   have p7 : 0 ≤ (a1 : Int) := jE za
   have q7 : (a1 : Int) < ((t243.length : Int) : Int) := jE za
   obtain ⟨go7, co7, eo7, gb7, gl7, cl7, HG7⟩ := Kd.R_form HO245.out (by omega)
   (first | cases eo7 | (injection eo7 with ea_ en_ ec_; (first | subst ea_ | (injection ea_ with ea_; subst ea_)); subst ec_; clear en_))
   have GB7 := jA gb7
   have GG7 := jA HG7
   clear gb7 gl7 HG7
   (first | simp only [add_plain] at hx247_0 | skip)
   obtain ⟨hx7_0, hf7_0⟩ := Kd.R_celln 0 HO245.out (a1 : Int) p7 q7
   replace p7 := eq_true p7
   replace q7 := eq_true q7
   obtain ⟨hy22_, hz22_⟩ := Kd.R_celln 0 HO245.out (a1 : Int) (jE za) (jE za)
   have HP22 := Kd.R_putg HO245.out (a1 : Int) (wrap64 ((rd t243 a1) + a2))
   try go_wp2_with (first | ((with_reducible refine gate_store (t := 2) (p := 21) rfl ?_); refine store_event (t := 2) (p := 21) (v := ?vo_w23) (w1 := (w18.setCell ⟨go7, (a1 : Int).toNat, none⟩ (.int .i64 (wrap64 ((rd t243 a1) + a2))))) ?hg ?ho ?hn ?hr ?_; (case ho => rfl); (case hg => rfl); (case hn => rfl); (case hr => first | (go_simp; done) | (go_simp; rfl)); intro w23 hw; have hg : w18.grownBy w23 (some go7) := (by rw [hw]; exact HP22.2); have hp_ : Kd.R (Kd.int .i64) 2 w23 w.heap.size (fun _ => True) (.slice (some ⟨go7, 0, none⟩) t243.length co15) y248 := (by rw [hw, Ny248.out]; exact HP22.1); clear HP22; have n0_ := jA (blk_grown (g := gb241) (o := .cells #[.int .i64 a0_0, .slice A0_1 l0_1.length c0_1] 28 (0, 0)) (zk BK241) hg (Kd.R_ne HO245.out BK241.out (by decide))); have n1_ := jA (blk_grown (g := gb242) (o := .cells #[.int .i64 0, .slice none 0 0] 28 (0, 0)) (zk BK242) hg (Kd.R_ne HO245.out BK242.out (by decide))); have n2_ := jA (hp_); have n3_ := jA (blk_grown (g := gb246) (o := .cells #[.int .i64 a0_0, .slice (some ⟨go7, 0, none⟩) t243.length co15] 28 (0, 0)) (zk BK246) hg (Kd.R_ne HO245.out BK246.out (by decide))); have n4_ := jA ((by rw [hw]; exact below_set (HB.out) GB7.out : Below w.heap.size w w23)); clear BK241; clear BK242; clear HO245; clear BK246; clear HB; have BK241 := n0_; have BK242 := n1_; have HO245 := n2_; have BK246 := n3_; have HB := n4_; clear n0_ n1_ n2_ n3_ n4_; clear hg hw hp_; have hcz24_0 : w23.cell? ⟨gb246, 0, none⟩ = some (.int .i64 a0_0) := (jD BK246.out 0).trans rfl; have hcz24_1 : w23.cell? ⟨gb246, 1, none⟩ = some (.slice (some ⟨go7, 0, none⟩) t243.length co15) := (jD BK246.out 1).trans rfl; have hfz24_0 := jC BK246.out 0; have hfz24_1 := jC BK246.out 1; have hnb25 := NB242_241.out; have hnc25 := NB241_242.out; have hcz26_0 : w23.cell? ⟨gb242, 0, none⟩ = some (.int .i64 0) := (jD BK242.out 0).trans rfl; have hcz26_1 : w23.cell? ⟨gb242, 1, none⟩ = some (.slice none 0 0) := (jD BK242.out 1).trans rfl; have hfz26_0 := jC BK242.out 0; have hfz26_1 := jC BK242.out 1))
   refine bodyPost_ret (results_cell_row rfl _ _ gb242 28 #[.int .i64 a0_0, .slice (some ⟨go7, 0, none⟩) t243.length co15] (0, 0) _ rfl (by (with_reducible repeat (first | refine jG ?_ _ | refine jI ?_ | refine jH ?_ _)); refine jZ (cs := #[.int .i64 a0_0, .slice none 0 0]) ?_ 1 _ rfl; (with_reducible repeat (first | refine jG ?_ _ | refine jI ?_ | refine jH ?_ _)); refine jZ (cs := #[.int .i64 0, .slice none 0 0]) ?_ 0 _ rfl; (with_reducible repeat (first | refine jG ?_ _ | refine jI ?_ | refine jH ?_ _)); exact BK242.out) Try.underlying28 rfl zr) rfl ?_
   exact ⟨_, by first | rfl | (simp [errW_none, errW_some] <;> rfl) | (simp [*, errW_none, errW_some] <;> rfl), by (with_reducible repeat (first | apply Kd.R_alloc | apply Kd.R_drewN | apply Kd.R_drew)); exact Kd.R_mono (Kd.R_far (p := ⟨gb242, 1, none⟩) (Kd.R_far (p := ⟨gb242, 0, none⟩) (Kd.R_types HO245.out BK242.out (by decide)) (fun _ hk => hk.2) (.int .i64 a0_0)) (fun _ hk => hk.2) (.slice (some ⟨go7, 0, none⟩) t243.length co15)) (fun _ hk => trivial), zb3 HB GE241 GE242 GE246⟩
  ·rw [if_neg c6] at H
   exact absurd H (by simp)
 ·rw [if_neg c5] at H
  exact absurd H (by simp)

end Go.Proofs.Ytdgglhfnlljmeaa.PFnExactStorePieces
