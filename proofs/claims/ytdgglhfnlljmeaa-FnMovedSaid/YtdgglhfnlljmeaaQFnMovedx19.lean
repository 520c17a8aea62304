/- Functions and contracts that FnMoved reaches (20 of 29). -/
import Derived.Test.YtdgglhfnlljmeaaQFnMovedx18
namespace Go.Proofs.Ytdgglhfnlljmeaa.PFnMoved
open Go.RowKit Go.Proofs.YtdgglhfnlljmeaaW.PrintWords Go.Proofs.YtdgglhfnlljmeaaW.PrintLast Go.Proofs.YtdgglhfnlljmeaaW.PrintMore
attribute [local go_sem] max2_int min2_int max_two min_two max_three min_three max_four min_four   -- for this text's walks alone
set_option linter.unusedVariables false
set_option linter.unusedSimpArgs false

/-! ### spec_l26For: function 81 -/
def spec_l26For.l0 : Nat → List (S65) → Int → List Int → Int → Int → Int → List Int → Option (Int × List Int × Int × Int)
 | 0, _, _, _, _, _, _, _ => none
 | k + 1, x1, x6, x1000, x1001, x1002, x320000, x320001 => if x6 < (x1.length : Int) then ((spec_l01Next.f x1000 x1001 x1002 6).bind fun bt320 => ((spec_l01Pick.f x1000 bt320.2.1 bt320.2.2 (([0, 0, bt320.1] : List Int))).bind fun bt326 => (if x320001.length < 17592186044416 then (spec_l26For.l0 k x1 (wrap64 (x6 + 1)) x1000 bt326.2.1 bt326.2.2 x320000 (x320001 ++ [bt326.1])) else (none)))) else ((spec_l01Next.f x1000 x1001 x1002 30).bind fun bt332 => (if bt332.1 = 0 then ((spec_l01Pick.f x1000 bt332.2.1 bt332.2.2 (([(-1), 0, 1000000000, 1000000001] : List Int))).bind fun bt338 => (some (bt338.1, x320001, bt338.2.1, bt338.2.2))) else (if bt332.1 = 1 then (if x320001.length < 17592186044416 then (some (x320000, (x320001 ++ [1]), bt332.2.1, bt332.2.2)) else (none)) else (if bt332.1 = 2 then (if (x320001.length : Int) > 0 then ((spec_l01Pick.f x1000 bt332.2.1 bt332.2.2 (([1000, 1001, (-1)] : List Int))).bind fun bt347 => (if 0 < (x320001.length : Int) then (some (x320000, (x320001.set (0 : Int).toNat bt347.1), bt347.2.1, bt347.2.2)) else (none))) else (some (x320000, x320001, bt332.2.1, bt332.2.2))) else (some (x320000, x320001, bt332.2.1, bt332.2.2))))))
def spec_l26For.f (k : Nat) (s0_0 : List Int) (s0_1 : Int) (s0_2 : Int) (l1 : List (S65)) : Option (Int × List Int × Int × Int) := (spec_l01Next.f s0_0 s0_1 s0_2 30000).bind fun bt313 => (spec_l26For.l0 k l1 0 s0_0 bt313.2.1 bt313.2.2 (wrap64 (1000 + bt313.1)) (([] : List Int)))
theorem spec_l26For.mono_l : ∀ k, (∀ y0 y1 y2 y3 y4 y5 y6, LeO (spec_l26For.l0 k y0 y1 y2 y3 y4 y5 y6) (spec_l26For.l0 (k + 1) y0 y1 y2 y3 y4 y5 y6))
 | 0 => fun _ _ _ _ _ _ _ r h => by simp [spec_l26For.l0] at h
 | k + 1 => by
  have ih0 := spec_l26For.mono_l k
  ·intro y0 y1 y2 y3 y4 y5 y6
   unfold spec_l26For.l0
   repeat' first
   | (with_reducible exact ih0 _ _ _ _ _ _ _)
   | (with_reducible exact LeO.refl _)
   | (with_reducible exact LeO.none _)
   | (with_reducible refine LeO.ite ?_ ?_)
   | (with_reducible refine LeO.bind ?_ (fun _ => ?_))
   | exact ih0 _ _ _ _ _ _ _
   | exact LeO.none _
   | refine LeO.ite ?_ ?_
   | refine LeO.bind ?_ (fun _ => ?_)
theorem spec_l26For.mono : ∀ a0 a1 a2 a3 k, LeO (spec_l26For.f k a0 a1 a2 a3) (spec_l26For.f (k + 1) a0 a1 a2 a3) := by
 intro a0 a1 a2 a3 k
 have ih0 := spec_l26For.mono_l k
 unfold spec_l26For.f
 repeat' first
   | (with_reducible exact ih0 _ _ _ _ _ _ _)
   | (with_reducible exact LeO.refl _)
   | (with_reducible exact LeO.none _)
   | (with_reducible refine LeO.ite ?_ ?_)
   | (with_reducible refine LeO.bind ?_ (fun _ => ?_))
   | exact ih0 _ _ _ _ _ _ _
   | exact LeO.none _
   | refine LeO.ite ?_ ?_
   | refine LeO.bind ?_ (fun _ => ?_)
def spec_l26For.T5 : Bool × List (List Nat × List Nat) := (true, [([], []), ([0], [0]), ([], []), ([], []), ([3], [3]), ([4], [4]), ([2, 5, 4], [2, 5]), ([6], [6]), ([1, 7, 6], [1, 7]), ([0, 1, 2, 3, 4, 5, 6, 7, 8], []), ([9, 8, 8, 0, 1, 2, 3, 4, 5, 6, 7, 8], [8, 9])])
def spec_l26For.B5 : List Nat := [0, 1, 0, 0, 8, 24, 60, 124, 255, 511, 1023]
theorem spec_l26For.tab5 : rtab .any (opsOf Try.f81 5) = spec_l26For.T5 := by kernel_rfl
theorem spec_l26For.bits5 : waitsOk spec_l26For.T5.2 spec_l26For.B5 = true := by kernel_rfl
set_option maxHeartbeats 8000000 in
set_option maxRecDepth 100000 in
theorem spec_l26For.calls (k : Nat) (g : Nat) (s0_0 : List Int) (s0_1 : Int) (s0_2 : Int) (A1 : Option Addr) (c1 : Nat) (l1 : List (S65)) (r1 : Int) (r2 : List Int) (r3 : Int) (r4 : Int) (w0 w : World) (hI : IsS92 w0 w g s0_0 s0_1 s0_2) (hB : Below w0.heap.size w0 w) (hr1 : ∀ W_, KeepBut w W_ g none → Kd.C k65 W_ A1 l1.length l1) (hc1 : l1.length ≤ c1) (h : spec_l26For.f k s0_0 s0_1 s0_2 l1 = some (r1, r2, r3, r4)) :
  Calls Try.prog 81 #[.pointer (some ⟨g, 0, none⟩), .slice A1 l1.length c1] w fun e w' => ∃ v1_ : Value, e = .returned (.agg #[.int .i64 r1, v1_]) ∧ Kd.R (Kd.int .i64) 2 w' w.heap.size (fun _ => True) v1_ r2 ∧ IsS92 w0 w' g s0_0 r3 r4 ∧ Below w0.heap.size w0 w' ∧ KeepBut w w' g none := by
 have hu28 := Try.underlying28
 have HR1 := jA hr1
 have HC1 := jA hc1
 clear hr1 hc1
 have HI0 := jA hI
 have HK := jA (KeepBut.refl w g none)
 have HL := jA hB.size
 clear hI
 have HW0 := jA hB.size
 have HB := jA hB
 clear hB
 have H := h
 unfold spec_l26For.f at H
 clear h
 replace H := jB.mp H
 obtain ⟨⟨t313, t314, t315⟩, A30, H⟩ := H
 try dsimp only at H
 have A3 := jA A30
 clear A30
 obtain ⟨y316, hy316⟩ : ∃ y_ : List Int, y_ = (([] : List Int)) := ⟨_, rfl⟩
 replace H : (spec_l26For.l0 k l1 0 s0_0 t314 t315 (wrap64 (1000 + t313)) y316) = some (r1, r2, r3, r4) := by first | (rw [hy316]; with_reducible exact H) | (have H2_ := (Option.bind_some _ _).symm.trans H; rw [hy316]; with_reducible exact H2_) | (have H2_ := (Option.bind_some _ _).symm.trans H; with_reducible exact H2_) | with_reducible exact H | (rw [hy316]; exact H) | exact H
 have Ny316 := jA hy316
 clear hy316
 have H' := jA H
 clear H
 go_enter Try.func81, Try.ntmps81
 go_wp2_with (first | ((with_reducible refine jJ (N := 4) rfl ?_); refine zE 4 #[.int .i64 0, .slice none 0 0] 28 ?_; intro gb312 hg w4 hbox hb; replace HB := jA (jY (zr4 HB HI0) hb); have BK312 := jA (hbox); have GW312 := jA ((by rw [hg]; exact (keep_size (w := w) (g := g) (row := none) (zh0 HK)) : w.heap.size ≤ gb312)); have GE312 := jA ((Nat.le_trans HW0.out (by rw [hg]; exact (keep_size (w := w) (g := g) (row := none) (zh0 HK)) : w.heap.size ≤ gb312) : w0.heap.size ≤ gb312)); replace HK := jA (KeepBut.trans (zh0 HK) (KeepBut.of_below hb g none) (.inl rfl)); have NB0_312 := jA ((by rw [hg]; exact Nat.ne_of_lt (IsS92.lt (show IsS92 w0 _ g s0_0 s0_1 s0_2 from zr3 HI0)) : g ≠ gb312)); have NB312_0 := jA ((by rw [hg]; exact Nat.ne_of_gt (IsS92.lt (show IsS92 w0 _ g s0_0 s0_1 s0_2 from zr3 HI0)) : gb312 ≠ g)); replace HI0 := jA (IsS92.below (zr3 HI0) hb); clear hb hbox hg) | ((with_reducible refine jG (f := 79) rfl ?_); refine zL (some 8) Try.func79 #[.pointer (some ⟨g, 0, none⟩), .int .i64 30000] ?_; (with_reducible refine (spec_l01Next.calls g s0_0 s0_1 s0_2 30000 t313 t314 t315 w0 _ ?side1 ?side2 A3.out).mono ?_); (case side1 => exact zr5 HI0 NB0_312); (case side2 => exact zr6 HB HI0 GE312); rintro e w5 ⟨rfl, hi, hb, hk⟩; refine ⟨_, rfl, ?_⟩; replace BK312 := zK hk BK312 NB312_0; replace HK := jA (KeepBut.trans (zh1 HK GW312) hk (.inl rfl)); replace HB := jA (hb); replace HI0 := jA (hi); (try clear hb); (try clear hb2); (try clear hk); (try clear hi)) | ((with_reducible refine jJ (N := 10) rfl ?_); refine Kd.R_lit (Kd.int .i64) _ 2 ?hg (N := 10) ?hd (xs := ([] : List Int)) (inner := []) (ok := fun _ => True) (okp := fun _ => True) ?hr ?hp (fun _ hk => hk) trivial (Below.refl _ _) (Nat.le_refl _) (by simp) ?_; (case hd => rfl); (case hg => rfl); (case hr => first | (go_simp; done) | (go_simp; rfl)); (case hp => exact (Reps.none _ _)); intro v317 w6 ho7 hb hg_ hnew_; clear hg_ hnew_; (first | rw [← Ny316.out] at ho7 | (simp only [Int.reduceToNat] at ho7; rw [← Ny316.out] at ho7)); have HO318 := jA (jU ho7 (keep_size (w := w) (g := g) (row := none) (zh1 HK GW312))); replace BK312 := zB BK312 hb; replace HK := jA (KeepBut.trans (zh1 HK GW312) (KeepBut.of_below hb g none) (.inl rfl)); replace HB := jA (jY (zr6 HB HI0 GE312) hb); replace HI0 := jA (IsS92.below (zr5 HI0 NB0_312) hb); clear hb ho7; obtain ⟨Ao8, co8, eo8⟩ := Kd.R_slice HO318.out; subst eo8) | ((with_reducible refine jJ (N := 5) rfl ?_); refine zE 5 #[.int .i64 0, .slice none 0 0] 28 ?_; intro gb319 hg w9 hbox hb; replace HO318 := jA (jE (zo HO318) hb); replace HB := jA (jY (zr6 HB HI0 GE312) hb); have BK319 := jA (hbox); have GW319 := jA ((by rw [hg]; exact (keep_size (w := w) (g := g) (row := none) (zh1 HK GW312)) : w.heap.size ≤ gb319)); have GE319 := jA ((Nat.le_trans HW0.out (by rw [hg]; exact (keep_size (w := w) (g := g) (row := none) (zh1 HK GW312)) : w.heap.size ≤ gb319) : w0.heap.size ≤ gb319)); replace HK := jA (KeepBut.trans (zh1 HK GW312) (KeepBut.of_below hb g none) (.inl rfl)); have NB312_319 := zn hg BK312; replace BK312 := zB BK312 hb; have NB319_312 := jA NB312_319.out.symm; have NB0_319 := jA ((by rw [hg]; exact Nat.ne_of_lt (IsS92.lt (show IsS92 w0 _ g s0_0 t314 t315 from zr5 HI0 NB0_312)) : g ≠ gb319)); have NB319_0 := jA ((by rw [hg]; exact Nat.ne_of_gt (IsS92.lt (show IsS92 w0 _ g s0_0 t314 t315 from zr5 HI0 NB0_312)) : gb319 ≠ g)); replace HI0 := jA (IsS92.below (zr5 HI0 NB0_312) hb); clear hb hbox hg; have hnb10 := NB319_312.out; have hnc10 := NB312_319.out; have hnb11 := NB319_0.out; have hnc11 := NB0_319.out; have hcz12 := zc2 BK319))
 go_loopg [6] k (fun kq v6 w' => ∃ (x6_1 : Int) (x1001_1 : Int) (x1002_1 : Int) (x320001_1 : List Int) (u320001 : Value), v6 = .int .i64 x6_1 ∧ Aside0 (spec_l26For.l0 kq l1 x6_1 s0_0 x1001_1 x1002_1 (wrap64 (1000 + t313)) x320001_1 = some (r1, r2, r3, r4)) ∧ Aside0 (kq ≤ k) ∧ Aside0 (Kd.R (Kd.int .i64) 2 w' w.heap.size (fun _ => True) u320001 x320001_1) ∧ Aside0 (w'.heap[gb312]? = some (.cells #[.int .i64 0, (.slice none 0 0)] 28 (0, 0))) ∧ Aside0 (w'.heap[gb319]? = some (.cells #[.int .i64 (wrap64 (1000 + t313)), u320001] 28 (0, 0))) ∧ Aside0 (IsS92 w0 w' g s0_0 x1001_1 x1002_1) ∧ Aside0 (KeepBut w w' g none) ∧ Aside0 (Below w0.heap.size w0 w'))
 case atStart => exact ⟨(0), (t314), (t315), (y316), (.slice Ao8 y316.length co8), zz, H', ⟨Nat.le_refl _⟩, ⟨zT HO318 BK319⟩, ⟨zQ1 BK312 NB312_319⟩, ⟨zP0 BK319⟩, ⟨zr7 HI0 NB0_312 NB0_319⟩, ⟨zh2 HK GW312 GW319⟩, ⟨zr8 HB HI0 GE312 GE319⟩⟩
 case round =>
  clear H'
  try clear c1
  try clear p2
  try clear p6
  try clear c7
  try clear c8
  try clear c10
  try clear c11
  try clear hcz12
  obtain ⟨x6_1, x1001_1, x1002_1, x320001_1, u320001, rfl, HA, HK1, HO_320001, BK312, BK319, HI0, HK, HB⟩ := hrel
  cases gk with
  | zero => exact absurd HA.out (by simp [spec_l26For.l0])
  | succ k1 =>
   have H := HA.out
   clear HA
   simp only [spec_l26For.l0] at H
   by_cases c13 : x6_1 < (l1.length : Int)
   ·rw [if_pos c13] at H
    have c13b0 : decide (x6_1 < (l1.length : Int)) = true := jK c13
    clear c13
    replace H := jB.mp H
    obtain ⟨⟨t320, t321, t322⟩, A140, H⟩ := H
    replace H : ((spec_l01Pick.f s0_0 t321 t322 (([0, 0, t320] : List Int))).bind fun bt326 => (if x320001_1.length < 17592186044416 then (spec_l26For.l0 k1 l1 (wrap64 (x6_1 + 1)) s0_0 bt326.2.1 bt326.2.2 (wrap64 (1000 + t313)) (x320001_1 ++ [bt326.1])) else (none))) = some (r1, r2, r3, r4) := H
    have A14 := jA A140
    clear A140
    obtain ⟨y323, hy323⟩ : ∃ y_ : List Int, y_ = (([0, 0, t320] : List Int)) := ⟨_, rfl⟩
    replace H : ((spec_l01Pick.f s0_0 t321 t322 y323).bind fun bt326 => (if x320001_1.length < 17592186044416 then (spec_l26For.l0 k1 l1 (wrap64 (x6_1 + 1)) s0_0 bt326.2.1 bt326.2.2 (wrap64 (1000 + t313)) (x320001_1 ++ [bt326.1])) else (none))) = some (r1, r2, r3, r4) := by first | (rw [hy323]; with_reducible exact H) | (have H2_ := (Option.bind_some _ _).symm.trans H; rw [hy323]; with_reducible exact H2_) | (have H2_ := (Option.bind_some _ _).symm.trans H; with_reducible exact H2_) | with_reducible exact H | (rw [hy323]; exact H) | exact H
    have Ny323 := jA hy323
    clear hy323
    replace H := jB.mp H
    obtain ⟨⟨t326, t327, t328⟩, A150, H⟩ := H
    replace H : (if x320001_1.length < 17592186044416 then (spec_l26For.l0 k1 l1 (wrap64 (x6_1 + 1)) s0_0 t327 t328 (wrap64 (1000 + t313)) (x320001_1 ++ [t326])) else (none)) = some (r1, r2, r3, r4) := H
    have A15 := jA A150
    clear A150
    by_cases c16 : x320001_1.length < 17592186044416
    ·rw [if_pos c16] at H
     have LMc16 := jA c16
     clear c16
     obtain ⟨y329, hy329⟩ : ∃ y_ : List Int, y_ = (x320001_1 ++ [t326]) := ⟨_, rfl⟩
     replace H : (spec_l26For.l0 k1 l1 (wrap64 (x6_1 + 1)) s0_0 t327 t328 (wrap64 (1000 + t313)) y329) = some (r1, r2, r3, r4) := by first | (rw [hy329]; with_reducible exact H) | (have H2_ := (Option.bind_some _ _).symm.trans H; rw [hy329]; with_reducible exact H2_) | (have H2_ := (Option.bind_some _ _).symm.trans H; with_reducible exact H2_) | with_reducible exact H | (rw [hy329]; exact H) | exact H
     have Ny329 := jA hy329
     clear hy329
     have H' := jA H
     clear H
     try go_wp2
     replace HO_320001 := jA (jP HO_320001.out)
     replace BK312 := jA (blk_drew BK312.out)
     replace BK319 := jA (blk_drew BK319.out)
     replace HI0 := jA (IsS92.drew HI0.out)
     replace HK := jA (keep_drew HK.out)
     replace HB := jA (below_drew1 HB.out)
     refine start_ (n := 11) (S := fun w' => w'.cell? ⟨gb319, 0, none⟩ = some (.int .i64 (wrap64 (1000 + t313))) ∧ w'.cell? ⟨gb319, 1, none⟩ = some (u320001)) (ds := [10]) #[false, false, false, false, false, false, false, false, false, false, false] zr rfl rfl ⟨(jF BK319.out 0).trans rfl, (jF BK319.out 1).trans rfl⟩ (fun hHeld => ?_); refine with_tabW spec_l26For.tab5 spec_l26For.bits5 (fun HT_ HW_ => ?_)
     generalize wr.drew = w17 at HO_320001 BK312 BK319 HI0 HK HB hHeld ⊢
     refine zp HT_ 0 18 #[true, false, false, false, false, false, false, false, false, false, false] ?_
     refine zp HT_ 2 20 #[true, false, true, false, false, false, false, false, false, false, false] ?_
     refine zp HT_ 3 21 #[true, false, true, true, false, false, false, false, false, false, false] ?_
     refine zt2 HT_ HW_ hHeld 1 19 #[true, true, true, true, false, false, false, false, false, false, false] ?_
     refine one_ (i := 4) (N := some 22) #[true, true, true, true, true, false, false, false, false, false, false] rfl rfl (one_of HT_.out zr) (by decide) (fun K hK => ?_)
     refine goes_ Try.func79 zr rfl #[.pointer (some ⟨g, 0, none⟩), .int .i64 6] (by rfl) rfl rfl zm ?_
     with_reducible refine (spec_l01Next.calls g s0_0 x1001_1 x1002_1 6 t320 t321 t322 w0 _ ?side1 ?side2 A14.out).mono ?_
     (case side1 => exact zr7 HI0 NB0_312 NB0_319)
     (case side2 => exact zr8 HB HI0 GE312 GE319)
     rintro e w18 ⟨rfl, hi, hb, hk⟩
     refine ⟨_, rfl, ?_⟩
     replace HO_320001 := jA (Kd.R_mono (Kd.R_keep (IsS92.apart (show IsS92 w0 _ g s0_0 x1001_1 x1002_1 from zr7 HI0 NB0_312 NB0_319) (zo HO_320001) (by decide)) hk (fun _ h => h.2)) (fun _ h => h.1))
     replace BK312 := zK hk BK312 NB312_0
     replace BK319 := zK hk BK319 NB319_0
     replace HK := jA (KeepBut.trans (zh2 HK GW312 GW319) hk (.inl rfl))
     replace HB := jA (hb)
     replace HI0 := jA (hi)
     (try clear hb)
     (try clear hb2)
     (try clear hk)
     (try clear hi)
     refine hK.out _ _ ⟨(jF BK319.out 0).trans rfl, (jF BK319.out 1).trans rfl⟩ (fun hHeld => ?_)
     clear hK K
     refine norm_ (a' := ?_) ?_ ?_
     rotate_left
     ·show Act.put _ (some 22) _ = _
      simp only [Act.put, jC, jH, jI, i64_w, i32_w]
      rfl
     refine one_ (i := 5) (N := some 23) #[true, true, true, true, true, true, false, false, false, false, false] rfl rfl (one_of HT_.out zr) (by decide) (fun K hK => ?_)
     refine Kd.R_lit_step (Kd.int .i64) _ 2 ?hg (N := 23) ?hd (xs := ([0, 0, t320] : List Int)) (inner := [.int .i64 0, .int .i64 0, .int .i64 t320]) (ok := fun _ => True) (okp := fun _ => True) ?hr ?hp (fun _ hk => hk) trivial (Below.refl _ _) (Nat.le_refl _) (by simp) ?_; (case hd => rfl); (case hg => rfl); (case hr => first | (go_simp; done) | (go_simp; rfl)); (case hp => exact (Reps.one (show Kd.M (Kd.int .i64) _ _ _ 0 [.int .i64 0] from rfl) (Reps.one (show Kd.M (Kd.int .i64) _ _ _ 0 [.int .i64 0] from rfl) (Reps.one (show Kd.M (Kd.int .i64) _ _ _ t320 [.int .i64 t320] from rfl) (Reps.none _ _)))))
     intro v324 w19 ho20 hb hg_ hnew_
     clear hg_ hnew_
     (first | rw [← Ny323.out] at ho20 | (simp only [Int.reduceToNat] at ho20; rw [← Ny323.out] at ho20))
     have HO325 := jA (jU (Kd.R_new' ho20 (Kd.R_lt (zo HO_320001))) (keep_size (w := w) (g := g) (row := none) (zh2 HK GW312 GW319)))
     replace HO_320001 := jA (Kd.R_elder' (zo HO_320001) (Kd.R_base ho20) hb)
     replace BK312 := zB BK312 hb
     replace BK319 := zB BK319 hb
     replace HK := jA (KeepBut.trans (zh2 HK GW312 GW319) (KeepBut.of_below hb g none) (.inl rfl))
     replace HB := jA (jY (zr8 HB HI0 GE312 GE319) hb)
     replace HI0 := jA (IsS92.below (zr7 HI0 NB0_312 NB0_319) hb)
     clear hb ho20
     obtain ⟨Ao21, co21, eo21⟩ := Kd.R_slice HO325.out
     (first | subst eo21 | (injection eo21 with f1_ f2_ f3_; have f4_ := f1_.symm; have f5_ := f3_.symm; clear f1_ f2_ f3_; subst f4_; subst f5_))
     refine hK.out _ _ ⟨(jF BK319.out 0).trans rfl, (jF BK319.out 1).trans rfl⟩ (fun hHeld => ?_)
     clear hK K
     refine norm_ (a' := ?_) ?_ ?_
     rotate_left
     ·show Act.put _ (some 23) _ = _
      simp only [Act.put, jC, jH, jI, i64_w, i32_w]
      rfl
     refine one_ (i := 6) (N := some 24) #[true, true, true, true, true, true, true, false, false, false, false] rfl rfl (one_of HT_.out zr) (by decide) (fun K hK => ?_)
     refine goes_ Try.func78 zr rfl #[.pointer (some ⟨g, 0, none⟩), .slice Ao21 y323.length co21] (by rfl) rfl rfl zm ?_
     with_reducible refine (spec_l01Pick.calls g s0_0 t321 t322 _ _ y323 t326 t327 t328 w0 _ ?side1 ?side2 ?side3 ?side4 ?side5 A15.out).mono ?_
     (case side1 => exact zr7 HI0 NB0_312 NB0_319)
     (case side2 => exact zr8 HB HI0 GE312 GE319)
     (case side3 => exact zv HO325)
     (case side4 => exact (jO HO325.out).2.1)
     (case side5 => exact far_slice (IsS92.own_ne HI0.out HO325.out (by decide)))
     rintro e w22 ⟨rfl, hi, hb, hk⟩
     refine ⟨_, rfl, ?_⟩
     replace HO_320001 := jA (Kd.R_mono (Kd.R_keep (IsS92.apart (show IsS92 w0 _ g s0_0 t321 t322 from zr7 HI0 NB0_312 NB0_319) (zo HO_320001) (by decide)) hk (fun _ h => h.2)) (fun _ h => h.1))
     replace BK312 := zK hk BK312 NB312_0
     replace BK319 := zK hk BK319 NB319_0
     replace HO325 := jA (Kd.R_mono (Kd.R_keep (IsS92.apart (show IsS92 w0 _ g s0_0 t321 t322 from zr7 HI0 NB0_312 NB0_319) (zo HO325) (by decide)) hk (fun _ h => h.2)) (fun _ h => h.1))
     replace HK := jA (KeepBut.trans (zh2 HK GW312 GW319) hk (.inl rfl))
     replace HB := jA (hb)
     replace HI0 := jA (hi)
     (try clear hb)
     (try clear hb2)
     (try clear hk)
     (try clear hi)
     refine hK.out _ _ ⟨(jF BK319.out 0).trans rfl, (jF BK319.out 1).trans rfl⟩ (fun hHeld => ?_)
     clear hK K
     refine norm_ (a' := ?_) ?_ ?_
     rotate_left
     ·show Act.put _ (some 24) _ = _
      simp only [Act.put, jC, jH, jI, i64_w, i32_w]
      rfl
     refine one_ (i := 7) (N := some 25) #[true, true, true, true, true, true, true, true, false, false, false] rfl rfl (one_of HT_.out zr) (by decide) (fun K hK => ?_)
     refine value_ (w1 := ?_) (v := ?_) (by rfl) rfl ?_ ?_
     rotate_left 2
     ·go_simp
      constructor
      ·rfl
      ·rfl
     refine hK.out _ _ ⟨(jF (blk_alloc BK319.out _) 0).trans rfl, (jF (blk_alloc BK319.out _) 1).trans rfl⟩ (fun hHeld => ?_)
     clear hK K
     refine norm_ (a' := ?_) ?_ ?_
     rotate_left
     ·show Act.put _ (some 25) _ = _
      simp only [Act.put, jC, jH, jI, i64_w, i32_w]
      rfl
     refine one_ (i := 8) (N := some 26) #[true, true, true, true, true, true, true, true, true, false, false] rfl rfl (one_of HT_.out zr) (by decide) (fun K hK => ?_)
     refine Kd.R_append_step (Kd.int .i64) w.heap.size (by rfl) (.tmp 19) (.tmp 25) 23 2 (.int .i64 0) 8 rfl Try.underlying23 info2 rfl (by decide) (by omega) u320001 x320001_1 t326 [.int .i64 t326] (fun k_ => some k_ ≠ (.slice Ao21 y323.length co21 : Value).ownBlock) (fun _ => False) rfl rfl ?aP (fun _ hk => hk.elim) ?aF ?aO (Below.refl _ _) ?aS ?aL ?_
     (case aP => exact rfl)
     (case aF => exact (fun k_ hk => Kd.fresh' (Kd.R_lt (zo HO325)) k_ hk))
     (case aO => exact (by (with_reducible repeat (first | apply jR | apply jQ | apply jP)); exact Kd.R_mono HO_320001.out (fun _ hk => hk.2)))
     (case aS => exact (keep_size (w := w) (g := g) (row := none) (zh2 HK GW312 GW319)))
     (case aL => have := LMc16.out; omega)
     intro v330 w23 ho hb hg hat
     rw [← Ny329.out] at ho
     replace BK312 := jA (blk_grown (g := gb312) (o := .cells #[.int .i64 0, .slice none 0 0] 28 (0, 0)) (zk BK312) hg (Kd.R_ne HO_320001.out BK312.out (by decide)))
     replace BK319 := jA (blk_grown (g := gb319) (o := .cells #[.int .i64 (wrap64 (1000 + t313)), u320001] 28 (0, 0)) (zk BK319) hg (Kd.R_ne HO_320001.out BK319.out (by decide)))
     replace HO325 := jA (Kd.R_after (ok := (fun _ => True)) (zo HO325) hg hat)
     replace HB := jA (below_weaken (zr8 HB HI0 GE312 GE319) HL.out hb)
     replace HI0 := jA (IsS92.grown (zr7 HI0 NB0_312 NB0_319) hg (IsS92.own_ne HI0.out HO_320001.out (by decide)))
     replace HK := jA (KeepBut.trans (zh2 HK GW312 GW319) (KeepBut.of_grown hg g) (Kd.R_base2 HO_320001.out))
     have HO331 := jA (ho)
     clear HO_320001
     clear ho hb hg hat
     obtain ⟨Ao24, co24, eo24⟩ := Kd.R_slice HO331.out
     (first | subst eo24 | (injection eo24 with f1_ f2_ f3_; have f4_ := f1_.symm; have f5_ := f3_.symm; clear f1_ f2_ f3_; subst f4_; subst f5_))
     refine hK.out _ _ ⟨(jF BK319.out 0).trans rfl, (jF BK319.out 1).trans rfl⟩ (fun hHeld => ?_)
     clear hK K
     refine norm_ (a' := ?_) ?_ ?_
     rotate_left
     ·show Act.put _ (some 26) _ = _
      simp only [Act.put, jC, jH, jI, i64_w, i32_w]
      rfl
     refine zp HT_ 9 27 #[true, true, true, true, true, true, true, true, true, true, false] ?_
     refine last_ (i := 10) (N := none) #[true, true, true, true, true, true, true, true, true, true, true] rfl rfl (one_of HT_.out zr) (by decide) (fun K hK => ?_)
     have hs25 : w23.cell? ⟨gb319, 1, none⟩ = some (u320001) := (jF BK319.out 1).trans rfl
     have hfs25 := blk_frozen BK319.out 1
     have hns25_0 := NB312_319.out
     have hms25_0 := NB319_312.out
     refine skip_ (w1 := ?_) (by rfl) rfl ?_ ?_
     rotate_left
     ·go_simp
      rfl
     refine hK.out _ _ ?_
     clear hK K
     refine done_ (done_of HT_.out zr) ?_
     try go_wp2
     go_roundg k1
     case measure => have := HK1.out; omega
     case rel => exact ⟨(wrap64 (x6_1 + 1)), (t327), (t328), (y329), (.slice Ao24 y329.length co24), zz, H', ⟨by have := HK1.out; omega⟩, ⟨zT HO331 BK319⟩, ⟨zQ1 BK312 NB312_319⟩, ⟨zP0 BK319⟩, ⟨zr7 HI0 NB0_312 NB0_319⟩, ⟨zh2 HK GW312 GW319⟩, ⟨zr8 HB HI0 GE312 GE319⟩⟩
    ·rw [if_neg c16] at H
     exact absurd H (by simp)
   ·rw [if_neg c13] at H
    have c13b0 : decide (x6_1 < (l1.length : Int)) = false := jV c13
    clear c13
    replace H := jB.mp H
    obtain ⟨⟨t332, t333, t334⟩, A260, H⟩ := H
    replace H : (if t332 = 0 then ((spec_l01Pick.f s0_0 t333 t334 (([(-1), 0, 1000000000, 1000000001] : List Int))).bind fun bt338 => (some (bt338.1, x320001_1, bt338.2.1, bt338.2.2))) else (if t332 = 1 then (if x320001_1.length < 17592186044416 then (some ((wrap64 (1000 + t313)), (x320001_1 ++ [1]), t333, t334)) else (none)) else (if t332 = 2 then (if (x320001_1.length : Int) > 0 then ((spec_l01Pick.f s0_0 t333 t334 (([1000, 1001, (-1)] : List Int))).bind fun bt347 => (if 0 < (x320001_1.length : Int) then (some ((wrap64 (1000 + t313)), (x320001_1.set (0 : Int).toNat bt347.1), bt347.2.1, bt347.2.2)) else (none))) else (some ((wrap64 (1000 + t313)), x320001_1, t333, t334))) else (some ((wrap64 (1000 + t313)), x320001_1, t333, t334))))) = some (r1, r2, r3, r4) := H
    have A26 := jA A260
    clear A260
    by_cases c27 : t332 = 0
    ·rw [if_pos c27] at H
     have c27b0 : (t332 == 0) = true := beq_iff_eq.mpr c27
     have c27b1 : (t332 != 0) = false := bne_eq_false_iff_eq.mpr c27
     clear c27
     obtain ⟨y335, hy335⟩ : ∃ y_ : List Int, y_ = (([(-1), 0, 1000000000, 1000000001] : List Int)) := ⟨_, rfl⟩
     replace H : ((spec_l01Pick.f s0_0 t333 t334 y335).bind fun bt338 => (some (bt338.1, x320001_1, bt338.2.1, bt338.2.2))) = some (r1, r2, r3, r4) := by first | (rw [hy335]; with_reducible exact H) | (have H2_ := (Option.bind_some _ _).symm.trans H; rw [hy335]; with_reducible exact H2_) | (have H2_ := (Option.bind_some _ _).symm.trans H; with_reducible exact H2_) | with_reducible exact H | (rw [hy335]; exact H) | exact H
     have Ny335 := jA hy335
     clear hy335
     replace H := jB.mp H
     obtain ⟨⟨t338, t339, t340⟩, A280, H⟩ := H
     try dsimp only at H
     have A28 := jA A280
     clear A280
     simp only [jM, jS] at H
     obtain ⟨rfl, rfl, rfl, rfl⟩ := H
     go_wp2_with (first | ((with_reducible refine jG (f := 79) rfl ?_); refine zL (some 29) Try.func79 #[.pointer (some ⟨g, 0, none⟩), .int .i64 30] ?_; (with_reducible refine (spec_l01Next.calls g s0_0 x1001_1 x1002_1 30 t332 t333 t334 w0 _ ?side1 ?side2 A26.out).mono ?_); (case side1 => exact zr7 HI0 NB0_312 NB0_319); (case side2 => exact zr8 HB HI0 GE312 GE319); rintro e w29 ⟨rfl, hi, hb, hk⟩; refine ⟨_, rfl, ?_⟩; replace HO_320001 := jA (Kd.R_mono (Kd.R_keep (IsS92.apart (show IsS92 w0 _ g s0_0 x1001_1 x1002_1 from zr7 HI0 NB0_312 NB0_319) (zo HO_320001) (by decide)) hk (fun _ h => h.2)) (fun _ h => h.1)); replace BK312 := zK hk BK312 NB312_0; replace BK319 := zK hk BK319 NB319_0; replace HK := jA (KeepBut.trans (zh2 HK GW312 GW319) hk (.inl rfl)); replace HB := jA (hb); replace HI0 := jA (hi); (try clear hb); (try clear hb2); (try clear hk); (try clear hi)) | ((with_reducible refine jJ (N := 33) rfl ?_); refine Kd.R_lit (Kd.int .i64) _ 2 ?hg (N := 33) ?hd (xs := ([(-1), 0, 1000000000, 1000000001] : List Int)) (inner := [.int .i64 (-1), .int .i64 0, .int .i64 1000000000, .int .i64 1000000001]) (ok := fun _ => True) (okp := fun _ => True) ?hr ?hp (fun _ hk => hk) trivial (Below.refl _ _) (Nat.le_refl _) (by simp) ?_; (case hd => rfl); (case hg => rfl); (case hr => first | (go_simp; done) | (go_simp; rfl)); (case hp => exact (Reps.one (show Kd.M (Kd.int .i64) _ _ _ (-1) [.int .i64 (-1)] from rfl) (Reps.one (show Kd.M (Kd.int .i64) _ _ _ 0 [.int .i64 0] from rfl) (Reps.one (show Kd.M (Kd.int .i64) _ _ _ 1000000000 [.int .i64 1000000000] from rfl) (Reps.one (show Kd.M (Kd.int .i64) _ _ _ 1000000001 [.int .i64 1000000001] from rfl) (Reps.none _ _)))))); intro v336 w30 ho31 hb hg_ hnew_; clear hg_ hnew_; (first | rw [← Ny335.out] at ho31 | (simp only [Int.reduceToNat] at ho31; rw [← Ny335.out] at ho31)); have HO337 := jA (jU (Kd.R_new' ho31 (Kd.R_lt (zo HO_320001))) (keep_size (w := w) (g := g) (row := none) (zh2 HK GW312 GW319))); replace HO_320001 := jA (Kd.R_elder' (zo HO_320001) (Kd.R_base ho31) hb); replace BK312 := zB BK312 hb; replace BK319 := zB BK319 hb; replace HK := jA (KeepBut.trans (zh2 HK GW312 GW319) (KeepBut.of_below hb g none) (.inl rfl)); replace HB := jA (jY (zr8 HB HI0 GE312 GE319) hb); replace HI0 := jA (IsS92.below (zr7 HI0 NB0_312 NB0_319) hb); clear hb ho31; obtain ⟨Ao32, co32, eo32⟩ := Kd.R_slice HO337.out; subst eo32) | ((with_reducible refine jG (f := 78) rfl ?_); refine zL (some 34) Try.func78 #[.pointer (some ⟨g, 0, none⟩), .slice Ao32 y335.length co32] ?_; (with_reducible refine (spec_l01Pick.calls g s0_0 t333 t334 _ _ y335 t338 t339 t340 w0 _ ?side1 ?side2 ?side3 ?side4 ?side5 A28.out).mono ?_); (case side1 => exact zr7 HI0 NB0_312 NB0_319); (case side2 => exact zr8 HB HI0 GE312 GE319); (case side3 => exact zv HO337); (case side4 => exact (jO HO337.out).2.1); (case side5 => exact far_slice (IsS92.own_ne HI0.out HO337.out (by decide))); rintro e w33 ⟨rfl, hi, hb, hk⟩; refine ⟨_, rfl, ?_⟩; replace HO_320001 := jA (Kd.R_mono (Kd.R_keep (IsS92.apart (show IsS92 w0 _ g s0_0 t333 t334 from zr7 HI0 NB0_312 NB0_319) (zo HO_320001) (by decide)) hk (fun _ h => h.2)) (fun _ h => h.1)); replace BK312 := zK hk BK312 NB312_0; replace BK319 := zK hk BK319 NB319_0; replace HO337 := jA (Kd.R_mono (Kd.R_keep (IsS92.apart (show IsS92 w0 _ g s0_0 t333 t334 from zr7 HI0 NB0_312 NB0_319) (zo HO337) (by decide)) hk (fun _ h => h.2)) (fun _ h => h.1)); replace HK := jA (KeepBut.trans (zh2 HK GW312 GW319) hk (.inl rfl)); replace HB := jA (hb); replace HI0 := jA (hi); (try clear hb); (try clear hb2); (try clear hk); (try clear hi); have hnb34 := NB319_312.out; have hnc34 := NB312_319.out; have hnb35 := NB319_0.out; have hnc35 := NB0_319.out; have hcz36 := zc2 BK319; have hnb37 := NB312_0.out; have hnc37 := NB0_312.out; have hcz38 := zc2 BK312; obtain ⟨Ao39, co39, eo39⟩ := Kd.R_slice HO_320001.out; subst eo39))
     refine jX (results_cell_row rfl _ _ gb312 28 #[.int .i64 t338, .slice Ao39 x320001_1.length co39] (0, 0) _ rfl (zP1 BK312 NB312_319) Try.underlying28 rfl zr) rfl ?_
     exact ⟨_, ze, by (with_reducible repeat (first | apply jR | apply jQ | apply jP)); exact Kd.R_mono (Kd.R_far (p := ⟨gb312, 1, none⟩) (Kd.R_far (p := ⟨gb312, 0, none⟩) (Kd.R_far (p := ⟨gb319, 0, none⟩) (Kd.R_types (Kd.R_types HO_320001.out BK319.out (by decide)) BK312.out (by decide)) (fun _ hk => hk.1.2) (.int .i64 t338)) (fun _ hk => hk.2) (.int .i64 t338)) (fun _ hk => hk.2) (.slice Ao39 x320001_1.length co39)) (fun _ hk => trivial), zr7 HI0 NB0_312 NB0_319, zr8 HB HI0 GE312 GE319, zh2 HK GW312 GW319⟩
    ·rw [if_neg c27] at H
     have c27b0 : (t332 == 0) = false := beq_eq_false_iff_ne.mpr c27
     have c27b1 : (t332 != 0) = true := bne_iff_ne.mpr c27
     by_cases c40 : t332 = 1
     ·rw [if_pos c40] at H
      have c40b0 : (t332 == 1) = true := beq_iff_eq.mpr c40
      have c40b1 : (t332 != 1) = false := bne_eq_false_iff_eq.mpr c40
      clear c40
      by_cases c41 : x320001_1.length < 17592186044416
      ·rw [if_pos c41] at H
       have LMc41 := jA c41
       clear c41
       obtain ⟨y341, hy341⟩ : ∃ y_ : List Int, y_ = (x320001_1 ++ [1]) := ⟨_, rfl⟩
       replace H : (some ((wrap64 (1000 + t313)), y341, t333, t334)) = some (r1, r2, r3, r4) := by first | (rw [hy341]; with_reducible exact H) | (have H2_ := (Option.bind_some _ _).symm.trans H; rw [hy341]; with_reducible exact H2_) | (have H2_ := (Option.bind_some _ _).symm.trans H; with_reducible exact H2_) | with_reducible exact H | (rw [hy341]; exact H) | exact H
       have Ny341 := jA hy341
       clear hy341
       simp only [jM, jS] at H
       obtain ⟨rfl, rfl, rfl, rfl⟩ := H
       go_wp2_with (first | ((with_reducible refine jG (f := 79) rfl ?_); refine zL (some 29) Try.func79 #[.pointer (some ⟨g, 0, none⟩), .int .i64 30] ?_; (with_reducible refine (spec_l01Next.calls g s0_0 x1001_1 x1002_1 30 t332 t333 t334 w0 _ ?side1 ?side2 A26.out).mono ?_); (case side1 => exact zr7 HI0 NB0_312 NB0_319); (case side2 => exact zr8 HB HI0 GE312 GE319); rintro e w42 ⟨rfl, hi, hb, hk⟩; refine ⟨_, rfl, ?_⟩; replace HO_320001 := jA (Kd.R_mono (Kd.R_keep (IsS92.apart (show IsS92 w0 _ g s0_0 x1001_1 x1002_1 from zr7 HI0 NB0_312 NB0_319) (zo HO_320001) (by decide)) hk (fun _ h => h.2)) (fun _ h => h.1)); replace BK312 := zK hk BK312 NB312_0; replace BK319 := zK hk BK319 NB319_0; replace HK := jA (KeepBut.trans (zh2 HK GW312 GW319) hk (.inl rfl)); replace HB := jA (hb); replace HI0 := jA (hi); (try clear hb); (try clear hb2); (try clear hk); (try clear hi); have hnb43 := NB319_312.out; have hnc43 := NB312_319.out; have hnb44 := NB319_0.out; have hnc44 := NB0_319.out; have hcz45 := zc2 BK319) | ((with_reducible refine gate_builtin (b := .append) (xs := #[.tmp 39, .tmp 40]) rfl ?_); at_builtin; refine Kd.R_append (Kd.int .i64) w.heap.size rfl (.tmp 39) (.tmp 40) 23 2 (.int .i64 0) 8 rfl Try.underlying23 info2 rfl (by decide) (by omega) u320001 x320001_1 1 [.int .i64 1] (fun _ => True) (fun _ => False) rfl rfl ?aP (fun _ hk => hk.elim) ?aF ?aO (Below.refl _ _) ?aS ?aL ?_; (case aP => exact rfl); (case aF => exact (fun _ _ => trivial)); (case aO => exact (zo HO_320001)); (case aS => exact (keep_size (w := w) (g := g) (row := none) (zh2 HK GW312 GW319))); (case aL => have := LMc41.out; omega); intro v342 w46 ho hb hg hat; rw [← Ny341.out] at ho; replace BK312 := jA (blk_grown (g := gb312) (o := .cells #[.int .i64 0, .slice none 0 0] 28 (0, 0)) (zk BK312) hg (Kd.R_ne HO_320001.out BK312.out (by decide))); replace BK319 := jA (blk_grown (g := gb319) (o := .cells #[.int .i64 (wrap64 (1000 + t313)), u320001] 28 (0, 0)) (zk BK319) hg (Kd.R_ne HO_320001.out BK319.out (by decide))); replace HB := jA (below_weaken (zr8 HB HI0 GE312 GE319) HL.out hb); replace HI0 := jA (IsS92.grown (zr7 HI0 NB0_312 NB0_319) hg (IsS92.own_ne HI0.out HO_320001.out (by decide))); replace HK := jA (KeepBut.trans (zh2 HK GW312 GW319) (KeepBut.of_grown hg g) (Kd.R_base2 HO_320001.out)); have HO343 := jA (ho); clear HO_320001; clear ho hb hg hat; obtain ⟨Ao47, co47, eo47⟩ := Kd.R_slice HO343.out; subst eo47; have hcz48 := zc2 BK319; have hnb49 := NB312_0.out; have hnc49 := NB0_312.out; have hcz50 := zc2 BK312))
       refine jX (results_cell_row rfl _ _ gb312 28 #[.int .i64 (wrap64 (1000 + t313)), .slice Ao47 y341.length co47] (0, 0) _ rfl (zP1 BK312 NB312_319) Try.underlying28 rfl zr) rfl ?_
       exact ⟨_, ze, by (with_reducible repeat (first | apply jR | apply jQ | apply jP)); exact Kd.R_mono (Kd.R_far (p := ⟨gb312, 1, none⟩) (Kd.R_far (p := ⟨gb312, 0, none⟩) (Kd.R_far (p := ⟨gb319, 1, none⟩) (Kd.R_types (Kd.R_types HO343.out BK319.out (by decide)) BK312.out (by decide)) (fun _ hk => hk.1.2) (.slice Ao47 y341.length co47)) (fun _ hk => hk.2) (.int .i64 (wrap64 (1000 + t313)))) (fun _ hk => hk.2) (.slice Ao47 y341.length co47)) (fun _ hk => trivial), zr7 HI0 NB0_312 NB0_319, zr8 HB HI0 GE312 GE319, zh2 HK GW312 GW319⟩
      ·rw [if_neg c41] at H
       exact absurd H (by simp)
     ·rw [if_neg c40] at H
      have c40b0 : (t332 == 1) = false := beq_eq_false_iff_ne.mpr c40
      have c40b1 : (t332 != 1) = true := bne_iff_ne.mpr c40
      by_cases c51 : t332 = 2
      ·rw [if_pos c51] at H
       have c51b0 : (t332 == 2) = true := beq_iff_eq.mpr c51
       have c51b1 : (t332 != 2) = false := bne_eq_false_iff_eq.mpr c51
       clear c51
       by_cases c52 : (x320001_1.length : Int) > 0
       ·rw [if_pos c52] at H
        have c52b0 : decide (0 < (x320001_1.length : Int)) = true := jK c52
        have c52b1 : decide (0 < x320001_1.length) = true := jK (by omega)
        clear c52
        obtain ⟨y344, hy344⟩ : ∃ y_ : List Int, y_ = (([1000, 1001, (-1)] : List Int)) := ⟨_, rfl⟩
        replace H : ((spec_l01Pick.f s0_0 t333 t334 y344).bind fun bt347 => (if 0 < (x320001_1.length : Int) then (some ((wrap64 (1000 + t313)), (x320001_1.set (0 : Int).toNat bt347.1), bt347.2.1, bt347.2.2)) else (none))) = some (r1, r2, r3, r4) := by first | (rw [hy344]; with_reducible exact H) | (have H2_ := (Option.bind_some _ _).symm.trans H; rw [hy344]; with_reducible exact H2_) | (have H2_ := (Option.bind_some _ _).symm.trans H; with_reducible exact H2_) | with_reducible exact H | (rw [hy344]; exact H) | exact H
        have Ny344 := jA hy344
        clear hy344
        replace H := jB.mp H
        obtain ⟨⟨t347, t348, t349⟩, A530, H⟩ := H
        replace H : (if 0 < (x320001_1.length : Int) then (some ((wrap64 (1000 + t313)), (x320001_1.set (0 : Int).toNat t347), t348, t349)) else (none)) = some (r1, r2, r3, r4) := H
        have A53 := jA A530
        clear A530
        by_cases c54 : 0 < (x320001_1.length : Int)
        ·rw [if_pos c54] at H
         have c54b0 : decide (0 < (x320001_1.length : Int)) = true := jK c54
         have c54b1 : decide (0 < x320001_1.length) = true := jK (by omega)
         clear c54
         obtain ⟨y350, hy350⟩ : ∃ y_ : List Int, y_ = (x320001_1.set (0 : Int).toNat t347) := ⟨_, rfl⟩
         replace H : (some ((wrap64 (1000 + t313)), y350, t348, t349)) = some (r1, r2, r3, r4) := by first | (rw [hy350]; with_reducible exact H) | (have H2_ := (Option.bind_some _ _).symm.trans H; rw [hy350]; with_reducible exact H2_) | (have H2_ := (Option.bind_some _ _).symm.trans H; with_reducible exact H2_) | with_reducible exact H | (rw [hy350]; exact H) | exact H
         have Ny350 := jA hy350
         clear hy350
         simp only [jM, jS] at H
         obtain ⟨rfl, rfl, rfl, rfl⟩ := H
         try go_wp2_with (first | ((with_reducible refine jG (f := 79) rfl ?_); refine zL (some 29) Try.func79 #[.pointer (some ⟨g, 0, none⟩), .int .i64 30] ?_; (with_reducible refine (spec_l01Next.calls g s0_0 x1001_1 x1002_1 30 t332 t333 t334 w0 _ ?side1 ?side2 A26.out).mono ?_); (case side1 => exact zr7 HI0 NB0_312 NB0_319); (case side2 => exact zr8 HB HI0 GE312 GE319); rintro e w56 ⟨rfl, hi, hb, hk⟩; refine ⟨_, rfl, ?_⟩; replace HO_320001 := jA (Kd.R_mono (Kd.R_keep (IsS92.apart (show IsS92 w0 _ g s0_0 x1001_1 x1002_1 from zr7 HI0 NB0_312 NB0_319) (zo HO_320001) (by decide)) hk (fun _ h => h.2)) (fun _ h => h.1)); replace BK312 := zK hk BK312 NB312_0; replace BK319 := zK hk BK319 NB319_0; replace HK := jA (KeepBut.trans (zh2 HK GW312 GW319) hk (.inl rfl)); replace HB := jA (hb); replace HI0 := jA (hi); (try clear hb); (try clear hb2); (try clear hk); (try clear hi); have hnb57 := NB319_312.out; have hnc57 := NB312_319.out; have hnb58 := NB319_0.out; have hnc58 := NB0_319.out; have hcz59 := zc2 BK319; obtain ⟨Ao60, co60, eo60⟩ := Kd.R_slice HO_320001.out; subst eo60))
         replace HO_320001 := jA (jP HO_320001.out)
         replace BK312 := jA (blk_drew BK312.out)
         replace BK319 := jA (blk_drew BK319.out)
         replace HI0 := jA (IsS92.drew HI0.out)
         replace HK := jA (keep_drew HK.out)
         replace HB := jA (below_drew1 HB.out)
         refine start_ (n := 7) (S := fun w' => w'.cell? ⟨gb319, 0, none⟩ = some (.int .i64 (wrap64 (1000 + t313))) ∧ w'.cell? ⟨gb319, 1, none⟩ = some (.slice Ao60 x320001_1.length co60)) (ds := [6]) #[false, false, false, false, false, false, false] zr rfl rfl ⟨(jF BK319.out 0).trans rfl, (jF BK319.out 1).trans rfl⟩ (fun hHeld => ?_)
         generalize w56.drew = w61 at HO_320001 BK312 BK319 HI0 HK HB hHeld ⊢
         refine pure_ (i := 0) (N := some 49) (v := ?_) (a' := ?_) #[true, false, false, false, false, false, false] rfl rfl zr (fun _ _ _ h => h) (Or.inl ⟨by rfl, ?_⟩) ?_ ?_
         rotate_left
         ·intro w'
          go_simp
          with_reducible rfl
         rotate_left
         ·simp only [Act.put, jC, jH, jI, i64_w, i32_w]
          rfl
         refine pure_ (i := 2) (N := some 51) (v := ?_) (a' := ?_) #[true, false, true, false, false, false, false] rfl rfl zr (fun _ _ _ h => h) (Or.inl ⟨by rfl, ?_⟩) ?_ ?_
         rotate_left
         ·intro w'
          go_simp
          with_reducible rfl
         rotate_left
         ·simp only [Act.put, jC, jH, jI, i64_w, i32_w]
          rfl
         refine take_ (i := 1) (N := some 50) (v := ?_) (a' := ?_) #[true, true, true, false, false, false, false] rfl rfl zr (fun _ _ _ h => h) (Or.inl ⟨by rfl, ?_⟩) hHeld ?_ ?_
         rotate_left
         ·rintro w' ⟨s0, s1⟩
          go_simp
          with_reducible rfl
         rotate_left
         ·simp only [Act.put, jC, jH, jI, i64_w, i32_w]
          rfl
         refine one_ (i := 3) (N := some 52) #[true, true, true, true, false, false, false] rfl rfl zr (by decide) (fun K hK => ?_)
         refine Kd.R_lit_step (Kd.int .i64) _ 2 ?hg (N := 52) ?hd (xs := ([1000, 1001, (-1)] : List Int)) (inner := [.int .i64 1000, .int .i64 1001, .int .i64 (-1)]) (ok := fun _ => True) (okp := fun _ => True) ?hr ?hp (fun _ hk => hk) trivial (Below.refl _ _) (Nat.le_refl _) (by simp) ?_; (case hd => rfl); (case hg => rfl); (case hr => first | (go_simp; done) | (go_simp; rfl)); (case hp => exact (Reps.one (show Kd.M (Kd.int .i64) _ _ _ 1000 [.int .i64 1000] from rfl) (Reps.one (show Kd.M (Kd.int .i64) _ _ _ 1001 [.int .i64 1001] from rfl) (Reps.one (show Kd.M (Kd.int .i64) _ _ _ (-1) [.int .i64 (-1)] from rfl) (Reps.none _ _)))))
         intro v345 w62 ho63 hb hg_ hnew_
         clear hg_ hnew_
         (first | rw [← Ny344.out] at ho63 | (simp only [Int.reduceToNat] at ho63; rw [← Ny344.out] at ho63))
         have HO346 := jA (jU (Kd.R_new' ho63 (Kd.R_lt (zo HO_320001))) (keep_size (w := w) (g := g) (row := none) (zh2 HK GW312 GW319)))
         replace HO_320001 := jA (Kd.R_elder' (zo HO_320001) (Kd.R_base ho63) hb)
         replace BK312 := zB BK312 hb
         replace BK319 := zB BK319 hb
         replace HK := jA (KeepBut.trans (zh2 HK GW312 GW319) (KeepBut.of_below hb g none) (.inl rfl))
         replace HB := jA (jY (zr8 HB HI0 GE312 GE319) hb)
         replace HI0 := jA (IsS92.below (zr7 HI0 NB0_312 NB0_319) hb)
         clear hb ho63
         obtain ⟨Ao64, co64, eo64⟩ := Kd.R_slice HO346.out
         (first | subst eo64 | (injection eo64 with f1_ f2_ f3_; have f4_ := f1_.symm; have f5_ := f3_.symm; clear f1_ f2_ f3_; subst f4_; subst f5_))
         refine hK.out _ _ ⟨(jF BK319.out 0).trans rfl, (jF BK319.out 1).trans rfl⟩ (fun hHeld => ?_)
         clear hK K
         refine norm_ (a' := ?_) ?_ ?_
         rotate_left
         ·show Act.put _ (some 52) _ = _
          simp only [Act.put, jC, jH, jI, i64_w, i32_w]
          rfl
         refine one_ (i := 4) (N := some 53) #[true, true, true, true, true, false, false] rfl rfl zr (by decide) (fun K hK => ?_)
         refine goes_ Try.func78 zr rfl #[.pointer (some ⟨g, 0, none⟩), .slice Ao64 y344.length co64] (by rfl) rfl rfl zm ?_
         with_reducible refine (spec_l01Pick.calls g s0_0 t333 t334 _ _ y344 t347 t348 t349 w0 _ ?side1 ?side2 ?side3 ?side4 ?side5 A53.out).mono ?_
         (case side1 => exact zr7 HI0 NB0_312 NB0_319)
         (case side2 => exact zr8 HB HI0 GE312 GE319)
         (case side3 => exact zv HO346)
         (case side4 => exact (jO HO346.out).2.1)
         (case side5 => exact far_slice (IsS92.own_ne HI0.out HO346.out (by decide)))
         rintro e w65 ⟨rfl, hi, hb, hk⟩
         refine ⟨_, rfl, ?_⟩
         replace HO_320001 := jA (Kd.R_mono (Kd.R_keep (IsS92.apart (show IsS92 w0 _ g s0_0 t333 t334 from zr7 HI0 NB0_312 NB0_319) (zo HO_320001) (by decide)) hk (fun _ h => h.2)) (fun _ h => h.1))
         replace BK312 := zK hk BK312 NB312_0
         replace BK319 := zK hk BK319 NB319_0
         replace HO346 := jA (Kd.R_mono (Kd.R_keep (IsS92.apart (show IsS92 w0 _ g s0_0 t333 t334 from zr7 HI0 NB0_312 NB0_319) (zo HO346) (by decide)) hk (fun _ h => h.2)) (fun _ h => h.1))
         replace HK := jA (KeepBut.trans (zh2 HK GW312 GW319) hk (.inl rfl))
         replace HB := jA (hb)
         replace HI0 := jA (hi)
         (try clear hb)
         (try clear hb2)
         (try clear hk)
         (try clear hi)
         have p55 : 0 ≤ (0 : Int) := (by omega)
         have q55 : (0 : Int) < ((x320001_1.length : Int) : Int) := jD za
         have qi55 : (0 < x320001_1.length) = True := eq_true (by omega)
         obtain ⟨go55, co55, eo55, gb55, gl55, cl55, HG55⟩ := Kd.R_form HO_320001.out (by omega)
         (first | cases eo55 | (injection eo55 with ea_ en_ ec_; (first | subst ea_ | (injection ea_ with ea_; subst ea_)); subst ec_; clear en_))
         have GB55 := jA gb55
         have GG55 := jA HG55
         clear gb55 gl55 HG55
         obtain ⟨hx55_0, hf55_0⟩ := Kd.R_celln 0 HO_320001.out (0 : Int) p55 q55
         (try rw [show ((0 : Int)).toNat = 0 from rfl] at hx55_0)
         (try simp only [Nat.reduceMul, Nat.zero_mul, Nat.zero_add, Nat.reduceAdd] at hx55_0)
         (try rw [show ((0 : Int)).toNat = 0 from rfl] at hf55_0)
         (try simp only [Nat.reduceMul, Nat.zero_mul, Nat.zero_add, Nat.reduceAdd] at hf55_0)
         replace p55 := eq_true p55
         replace q55 := eq_true q55
         have HN0_go55 := jA (show g ≠ go55 from by have h_ := IsS92.own_ne HI0.out HO_320001.out (by decide); intro e_; exact h_ (by rw [e_]; rfl))
         have HP66 := Kd.R_putn HO_320001.out (0 : Int) t347
         rw [← Ny350.out] at HP66
         have HQ66 := jA HP66
         clear HP66
         refine hK.out _ _ ⟨(jF BK319.out 0).trans rfl, (jF BK319.out 1).trans rfl⟩ (fun hHeld => ?_)
         clear hK K
         refine norm_ (a' := ?_) ?_ ?_
         rotate_left
         ·show Act.put _ (some 53) _ = _
          simp only [Act.put, jC, jH, jI, i64_w, i32_w]
          rfl
         refine pure_ (i := 5) (N := some 54) (v := ?_) (a' := ?_) #[true, true, true, true, true, true, false] rfl rfl zr (fun _ _ _ h => h) (Or.inl ⟨by rfl, ?_⟩) ?_ ?_
         rotate_left
         ·intro w'
          go_simp
          with_reducible rfl
         rotate_left
         ·simp only [Act.put, jC, jH, jI, i64_w, i32_w]
          rfl
         refine last_ (i := 6) (N := none) #[true, true, true, true, true, true, true] rfl rfl zr (by decide) (fun K hK => ?_)
         refine skip_ (w1 := ?_) (by rfl) rfl ?_ ?_
         rotate_left
         ·go_simp
          rfl
         refine hK.out _ _ ?_
         clear hK K
         refine done_ zr ?_
         have n0_ : Aside0 (Kd.R (Kd.int .i64) 2 (w65.setCell ⟨go55, 0, none⟩ (.int .i64 t347)) w.heap.size (fun k_ => some k_ ≠ (.slice Ao64 y344.length co64 : Value).ownBlock) (.slice (some ⟨go55, 0, none⟩) x320001_1.length co60) y350) := ⟨by (with_reducible repeat (first | apply jR | apply jQ | apply jP)); exact Kd.R_mono HQ66.out (fun _ hk => hk.2)⟩
         have n1_ : Aside0 (Kd.R (Kd.int .i64) 2 (w65.setCell ⟨go55, 0, none⟩ (.int .i64 t347)) w.heap.size (fun k_ => some k_ ≠ (.slice (some ⟨go55, 0, none⟩) x320001_1.length co60 : Value).ownBlock) (.slice Ao64 y344.length co64) y344) := ⟨by (with_reducible repeat (first | apply jR | apply jQ | apply jP)); exact Kd.R_mono (Kd.R_far (p := ⟨go55, 0, none⟩) (Kd.R_mono HO346.out (fun k_ hk => (⟨hk, fun e_ => hk.2 (by rw [e_]; rfl)⟩ : _ ∧ k_ ≠ go55))) (fun _ hk => hk.2) (.int .i64 t347)) (fun _ hk => hk.1.2)⟩
         have n2_ : Aside0 ((w65.setCell ⟨go55, 0, none⟩ (.int .i64 t347)).heap[gb312]? = some (.cells #[.int .i64 0, .slice none 0 0] 28 (0, 0))) := ⟨by (with_reducible repeat (first | refine blk_drewN ?_ _ | refine blk_drew ?_ | refine blk_alloc ?_ _)); refine blk_far ?_ (by have h_ := Kd.R_ne HO_320001.out BK312.out (by decide); intro e_; exact h_ (by rw [e_]; rfl)) _; (with_reducible repeat (first | refine blk_drewN ?_ _ | refine blk_drew ?_ | refine blk_alloc ?_ _)); exact BK312.out⟩
         have n3_ : Aside0 ((w65.setCell ⟨go55, 0, none⟩ (.int .i64 t347)).heap[gb319]? = some (.cells #[.int .i64 (wrap64 (1000 + t313)), .slice (some ⟨go55, 0, none⟩) x320001_1.length co60] 28 (0, 0))) := ⟨by (with_reducible repeat (first | refine blk_drewN ?_ _ | refine blk_drew ?_ | refine blk_alloc ?_ _)); refine blk_far ?_ (by have h_ := Kd.R_ne HO_320001.out BK319.out (by decide); intro e_; exact h_ (by rw [e_]; rfl)) _; (with_reducible repeat (first | refine blk_drewN ?_ _ | refine blk_drew ?_ | refine blk_alloc ?_ _)); exact BK319.out⟩
         have n4_ : Aside0 (IsS92 w0 (w65.setCell ⟨go55, 0, none⟩ (.int .i64 t347)) g s0_0 t348 t349) := ⟨zr9 HI0 HN0_go55 NB0_312 NB0_319⟩
         have n5_ : Aside0 (KeepBut w (w65.setCell ⟨go55, 0, none⟩ (.int .i64 t347)) g none) := ⟨zr10 HK GB55 GW312 GW319⟩
         have n6_ : Aside0 (Below w0.heap.size w0 (w65.setCell ⟨go55, 0, none⟩ (.int .i64 t347))) := ⟨zr11 HB HL GB55 HI0 GE312 GE319⟩
         (try clear HO_320001)
         (try clear HO346)
         (try clear BK312)
         (try clear BK319)
         (try clear HI0)
         (try clear HK)
         (try clear HB)
         generalize (w65.setCell ⟨go55, 0, none⟩ (.int .i64 t347)) = w67 at n0_ n1_ n2_ n3_ n4_ n5_ n6_ ⊢
         have HO_320001 := n0_
         have HO346 := n1_
         have BK312 := n2_
         have BK319 := n3_
         have HI0 := n4_
         have HK := n5_
         have HB := n6_
         clear n0_ n1_ n2_ n3_ n4_ n5_ n6_
         have hcz68 := zc2 BK319
         have hnb69 := NB312_0.out
         have hnc69 := NB0_312.out
         have hcz70 := zc2 BK312
         try go_wp2
         refine jX (results_cell_row rfl _ _ gb312 28 #[.int .i64 (wrap64 (1000 + t313)), .slice (some ⟨go55, 0, none⟩) x320001_1.length co60] (0, 0) _ rfl (zP0 BK312) Try.underlying28 rfl zr) rfl ?_
         exact ⟨_, ze, zT HO_320001 BK312, zr7 HI0 NB0_312 NB0_319, zr8 HB HI0 GE312 GE319, zh2 HK GW312 GW319⟩
        ·rw [if_neg c54] at H
         exact absurd H (by simp)
       ·rw [if_neg c52] at H
        have c52b0 : decide (0 < (x320001_1.length : Int)) = false := jV c52
        have c52b1 : decide (0 < x320001_1.length) = false := jV (by omega)
        clear c52
        simp only [jM, jS] at H
        obtain ⟨rfl, rfl, rfl, rfl⟩ := H
        go_wp2_with (first | ((with_reducible refine jG (f := 79) rfl ?_); refine zL (some 29) Try.func79 #[.pointer (some ⟨g, 0, none⟩), .int .i64 30] ?_; (with_reducible refine (spec_l01Next.calls g s0_0 x1001_1 x1002_1 30 t332 t333 t334 w0 _ ?side1 ?side2 A26.out).mono ?_); (case side1 => exact zr7 HI0 NB0_312 NB0_319); (case side2 => exact zr8 HB HI0 GE312 GE319); rintro e w71 ⟨rfl, hi, hb, hk⟩; refine ⟨_, rfl, ?_⟩; replace HO_320001 := jA (Kd.R_mono (Kd.R_keep (IsS92.apart (show IsS92 w0 _ g s0_0 x1001_1 x1002_1 from zr7 HI0 NB0_312 NB0_319) (zo HO_320001) (by decide)) hk (fun _ h => h.2)) (fun _ h => h.1)); replace BK312 := zK hk BK312 NB312_0; replace BK319 := zK hk BK319 NB319_0; replace HK := jA (KeepBut.trans (zh2 HK GW312 GW319) hk (.inl rfl)); replace HB := jA (hb); replace HI0 := jA (hi); (try clear hb); (try clear hb2); (try clear hk); (try clear hi); have hnb72 := NB319_312.out; have hnc72 := NB312_319.out; have hnb73 := NB319_0.out; have hnc73 := NB0_319.out; have hcz74 := zc2 BK319; obtain ⟨Ao75, co75, eo75⟩ := Kd.R_slice HO_320001.out; subst eo75; have hnb76 := NB312_0.out; have hnc76 := NB0_312.out; have hcz77 := zc2 BK312))
        refine jX (results_cell_row rfl _ _ gb312 28 #[.int .i64 (wrap64 (1000 + t313)), .slice Ao75 x320001_1.length co75] (0, 0) _ rfl (zP0 BK312) Try.underlying28 rfl zr) rfl ?_
        exact ⟨_, ze, zT HO_320001 BK312, zr7 HI0 NB0_312 NB0_319, zr8 HB HI0 GE312 GE319, zh2 HK GW312 GW319⟩
      ·rw [if_neg c51] at H
       have c51b0 : (t332 == 2) = false := beq_eq_false_iff_ne.mpr c51
       have c51b1 : (t332 != 2) = true := bne_iff_ne.mpr c51
       simp only [jM, jS] at H
       obtain ⟨rfl, rfl, rfl, rfl⟩ := H
       go_wp2_with (first | ((with_reducible refine jG (f := 79) rfl ?_); refine zL (some 29) Try.func79 #[.pointer (some ⟨g, 0, none⟩), .int .i64 30] ?_; (with_reducible refine (spec_l01Next.calls g s0_0 x1001_1 x1002_1 30 t332 t333 t334 w0 _ ?side1 ?side2 A26.out).mono ?_); (case side1 => exact zr7 HI0 NB0_312 NB0_319); (case side2 => exact zr8 HB HI0 GE312 GE319); rintro e w78 ⟨rfl, hi, hb, hk⟩; refine ⟨_, rfl, ?_⟩; replace HO_320001 := jA (Kd.R_mono (Kd.R_keep (IsS92.apart (show IsS92 w0 _ g s0_0 x1001_1 x1002_1 from zr7 HI0 NB0_312 NB0_319) (zo HO_320001) (by decide)) hk (fun _ h => h.2)) (fun _ h => h.1)); replace BK312 := zK hk BK312 NB312_0; replace BK319 := zK hk BK319 NB319_0; replace HK := jA (KeepBut.trans (zh2 HK GW312 GW319) hk (.inl rfl)); replace HB := jA (hb); replace HI0 := jA (hi); (try clear hb); (try clear hb2); (try clear hk); (try clear hi); have hnb79 := NB319_312.out; have hnc79 := NB312_319.out; have hnb80 := NB319_0.out; have hnc80 := NB0_319.out; have hcz81 := zc2 BK319; have hnb82 := NB312_0.out; have hnc82 := NB0_312.out; have hcz83 := zc2 BK312; obtain ⟨Ao84, co84, eo84⟩ := Kd.R_slice HO_320001.out; subst eo84))
       refine jX (results_cell_row rfl _ _ gb312 28 #[.int .i64 (wrap64 (1000 + t313)), .slice Ao84 x320001_1.length co84] (0, 0) _ rfl (zP0 BK312) Try.underlying28 rfl zr) rfl ?_
       exact ⟨_, ze, zT HO_320001 BK312, zr7 HI0 NB0_312 NB0_319, zr8 HB HI0 GE312 GE319, zh2 HK GW312 GW319⟩

end Go.Proofs.Ytdgglhfnlljmeaa.PFnMoved
