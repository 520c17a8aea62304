/- Functions and contracts that FnMagazines reaches (12 of 24). -/
import Derived.Test.YtdgglhfnlljmeaaQFnMagazinesx10
namespace Go.Proofs.Ytdgglhfnlljmeaa.PFnMagazines
open Go.RowKit Go.Proofs.YtdgglhfnlljmeaaW.PrintWords Go.Proofs.YtdgglhfnlljmeaaW.PrintLast Go.Proofs.YtdgglhfnlljmeaaW.PrintMore
attribute [local go_sem] max2_int min2_int max_two min_two max_three min_three max_four min_four   -- for this text's walks alone
set_option linter.unusedVariables false
set_option linter.unusedSimpArgs false

/-! ### spec_l26For: function 81 -/
def spec_l26For.l0 : Nat → List (S65) → Int → List Int → Int → Int → Int → List Int → Option (Int × List Int × Int × Int)
 | 0, _, _, _, _, _, _, _ => none
 | k + 1, x1, x6, x1000, x1001, x1002, x227000, x227001 => if x6 < (x1.length : Int) then ((spec_l01Next.f x1000 x1001 x1002 6).bind fun bt227 => ((spec_l01Pick.f x1000 bt227.2.1 bt227.2.2 (([0, 0, bt227.1] : List Int))).bind fun bt233 => (if x227001.length < 17592186044416 then (spec_l26For.l0 k x1 (wrap64 (x6 + 1)) x1000 bt233.2.1 bt233.2.2 x227000 (x227001 ++ [bt233.1])) else (none)))) else ((spec_l01Next.f x1000 x1001 x1002 30).bind fun bt239 => (if bt239.1 = 0 then ((spec_l01Pick.f x1000 bt239.2.1 bt239.2.2 (([(-1), 0, 1000000000, 1000000001] : List Int))).bind fun bt245 => (some (bt245.1, x227001, bt245.2.1, bt245.2.2))) else (if bt239.1 = 1 then (if x227001.length < 17592186044416 then (some (x227000, (x227001 ++ [1]), bt239.2.1, bt239.2.2)) else (none)) else (if bt239.1 = 2 then (if (x227001.length : Int) > 0 then ((spec_l01Pick.f x1000 bt239.2.1 bt239.2.2 (([1000, 1001, (-1)] : List Int))).bind fun bt254 => (if 0 < (x227001.length : Int) then (some (x227000, (x227001.set (0 : Int).toNat bt254.1), bt254.2.1, bt254.2.2)) else (none))) else (some (x227000, x227001, bt239.2.1, bt239.2.2))) else (some (x227000, x227001, bt239.2.1, bt239.2.2))))))
def spec_l26For.f (k : Nat) (s0_0 : List Int) (s0_1 : Int) (s0_2 : Int) (l1 : List (S65)) : Option (Int × List Int × Int × Int) := (spec_l01Next.f s0_0 s0_1 s0_2 30000).bind fun bt220 => (spec_l26For.l0 k l1 0 s0_0 bt220.2.1 bt220.2.2 (wrap64 (1000 + bt220.1)) (([] : List Int)))
theorem spec_l26For.mono_l : ∀ k, (∀ y0 y1 y2 y3 y4 y5 y6, LeO (spec_l26For.l0 k y0 y1 y2 y3 y4 y5 y6) (spec_l26For.l0 (k + 1) y0 y1 y2 y3 y4 y5 y6))
 | 0 => fun _ _ _ _ _ _ _ r h => by simp [spec_l26For.l0] at h
 | k + 1 => by
  have ih0 := spec_l26For.mono_l k
  ·intro y0 y1 y2 y3 y4 y5 y6
   unfold spec_l26For.l0
   repeat' first
   | (with_reducible exact ih0 _ _ _ _ _ _ _)
   | (with_reducible exact LeO.refl _)
   | (with_reducible exact LeO.none _)
   | (with_reducible refine LeO.ite ?_ ?_)
   | (with_reducible refine LeO.bind ?_ (fun _ => ?_))
   | exact ih0 _ _ _ _ _ _ _
   | exact LeO.none _
   | refine LeO.ite ?_ ?_
   | refine LeO.bind ?_ (fun _ => ?_)
theorem spec_l26For.mono : ∀ a0 a1 a2 a3 k, LeO (spec_l26For.f k a0 a1 a2 a3) (spec_l26For.f (k + 1) a0 a1 a2 a3) := by
 intro a0 a1 a2 a3 k
 have ih0 := spec_l26For.mono_l k
 unfold spec_l26For.f
 repeat' first
   | (with_reducible exact ih0 _ _ _ _ _ _ _)
   | (with_reducible exact LeO.refl _)
   | (with_reducible exact LeO.none _)
   | (with_reducible refine LeO.ite ?_ ?_)
   | (with_reducible refine LeO.bind ?_ (fun _ => ?_))
   | exact ih0 _ _ _ _ _ _ _
   | exact LeO.none _
   | refine LeO.ite ?_ ?_
   | refine LeO.bind ?_ (fun _ => ?_)
def spec_l26For.T5 : Bool × List (List Nat × List Nat) := (true, [([], []), ([0], [0]), ([], []), ([], []), ([3], [3]), ([4], [4]), ([2, 5, 4], [2, 5]), ([6], [6]), ([1, 7, 6], [1, 7]), ([0, 1, 2, 3, 4, 5, 6, 7, 8], []), ([9, 8, 8, 0, 1, 2, 3, 4, 5, 6, 7, 8], [8, 9])])
def spec_l26For.B5 : List Nat := [0, 1, 0, 0, 8, 24, 60, 124, 255, 511, 1023]
theorem spec_l26For.tab5 : rtab .any (opsOf Try.f81 5) = spec_l26For.T5 := by kernel_rfl
theorem spec_l26For.bits5 : waitsOk spec_l26For.T5.2 spec_l26For.B5 = true := by kernel_rfl
set_option maxHeartbeats 8000000 in
set_option maxRecDepth 100000 in
theorem spec_l26For.calls (k : Nat) (g : Nat) (s0_0 : List Int) (s0_1 : Int) (s0_2 : Int) (A1 : Option Addr) (c1 : Nat) (l1 : List (S65)) (r1 : Int) (r2 : List Int) (r3 : Int) (r4 : Int) (w0 w : World) (hI : IsS92 w0 w g s0_0 s0_1 s0_2) (hB : Below w0.heap.size w0 w) (hr1 : ∀ W_, KeepBut w W_ g none → Kd.C k65 W_ A1 l1.length l1) (hc1 : l1.length ≤ c1) (h : spec_l26For.f k s0_0 s0_1 s0_2 l1 = some (r1, r2, r3, r4)) :
  Calls Try.prog 81 #[.pointer (some ⟨g, 0, none⟩), .slice A1 l1.length c1] w fun e w' => ∃ v1_ : Value, e = .returned (.agg #[.int .i64 r1, v1_]) ∧ Kd.R (Kd.int .i64) 2 w' w.heap.size (fun _ => True) v1_ r2 ∧ IsS92 w0 w' g s0_0 r3 r4 ∧ Below w0.heap.size w0 w' ∧ KeepBut w w' g none := by
 have hu28 := Try.underlying28
 have HR1 := jA hr1
 have HC1 := jA hc1
 clear hr1 hc1
 have HI0 := jA hI
 have HK := jA (KeepBut.refl w g none)
 have HL := jA hB.size
 clear hI
 have HW0 := jA hB.size
 have HB := jA hB
 clear hB
 have H := h
 unfold spec_l26For.f at H
 clear h
 replace H := jB.mp H
 obtain ⟨⟨t220, t221, t222⟩, A30, H⟩ := H
 try dsimp only at H
 have A3 := jA A30
 clear A30
 obtain ⟨y223, hy223⟩ : ∃ y_ : List Int, y_ = (([] : List Int)) := ⟨_, rfl⟩
 replace H : (spec_l26For.l0 k l1 0 s0_0 t221 t222 (wrap64 (1000 + t220)) y223) = some (r1, r2, r3, r4) := by first | (rw [hy223]; with_reducible exact H) | (have H2_ := (Option.bind_some _ _).symm.trans H; rw [hy223]; with_reducible exact H2_) | (have H2_ := (Option.bind_some _ _).symm.trans H; with_reducible exact H2_) | with_reducible exact H | (rw [hy223]; exact H) | exact H
 have Ny223 := jA hy223
 clear hy223
 have H' := jA H
 clear H
 go_enter Try.func81, Try.ntmps81
 go_wp2_with (first | ((with_reducible refine jL (N := 4) rfl ?_); refine zE 4 #[.int .i64 0, .slice none 0 0] 28 ?_; intro gb219 hg w4 hbox hb; replace HB := jA (jV (zr3 HB HI0) hb); have BK219 := jA (hbox); have GW219 := jA ((by rw [hg]; exact (keep_size (w := w) (g := g) (row := none) (zh0 HK)) : w.heap.size ≤ gb219)); have GE219 := jA ((Nat.le_trans HW0.out (by rw [hg]; exact (keep_size (w := w) (g := g) (row := none) (zh0 HK)) : w.heap.size ≤ gb219) : w0.heap.size ≤ gb219)); replace HK := jA (KeepBut.trans (zh0 HK) (KeepBut.of_below hb g none) (.inl rfl)); have NB0_219 := jA ((by rw [hg]; exact Nat.ne_of_lt (IsS92.lt (show IsS92 w0 _ g s0_0 s0_1 s0_2 from zr2 HI0)) : g ≠ gb219)); have NB219_0 := jA ((by rw [hg]; exact Nat.ne_of_gt (IsS92.lt (show IsS92 w0 _ g s0_0 s0_1 s0_2 from zr2 HI0)) : gb219 ≠ g)); replace HI0 := jA (IsS92.below (zr2 HI0) hb); clear hb hbox hg) | ((with_reducible refine jD (f := 79) rfl ?_); refine zL (some 8) Try.func79 #[.pointer (some ⟨g, 0, none⟩), .int .i64 30000] ?_; (with_reducible refine (spec_l01Next.calls g s0_0 s0_1 s0_2 30000 t220 t221 t222 w0 _ ?side1 ?side2 A3.out).mono ?_); (case side1 => exact zr4 HI0 NB0_219); (case side2 => exact zr5 HB HI0 GE219); rintro e w5 ⟨rfl, hi, hb, hk⟩; refine ⟨_, rfl, ?_⟩; replace BK219 := zK hk BK219 NB219_0; replace HK := jA (KeepBut.trans (zh1 HK GW219) hk (.inl rfl)); replace HB := jA (hb); replace HI0 := jA (hi); (try clear hb); (try clear hb2); (try clear hk); (try clear hi)) | ((with_reducible refine jL (N := 10) rfl ?_); refine Kd.R_lit (Kd.int .i64) _ 2 ?hg (N := 10) ?hd (xs := ([] : List Int)) (inner := []) (ok := fun _ => True) (okp := fun _ => True) ?hr ?hp (fun _ hk => hk) trivial (Below.refl _ _) (Nat.le_refl _) (by simp) ?_; (case hd => rfl); (case hg => rfl); (case hr => first | (go_simp; done) | (go_simp; rfl)); (case hp => exact (Reps.none _ _)); intro v224 w6 ho7 hb hg_ hnew_; clear hg_ hnew_; (first | rw [← Ny223.out] at ho7 | (simp only [Int.reduceToNat] at ho7; rw [← Ny223.out] at ho7)); have HO225 := jA (jU ho7 (keep_size (w := w) (g := g) (row := none) (zh1 HK GW219))); replace BK219 := zB BK219 hb; replace HK := jA (KeepBut.trans (zh1 HK GW219) (KeepBut.of_below hb g none) (.inl rfl)); replace HB := jA (jV (zr5 HB HI0 GE219) hb); replace HI0 := jA (IsS92.below (zr4 HI0 NB0_219) hb); clear hb ho7; obtain ⟨Ao8, co8, eo8⟩ := Kd.R_slice HO225.out; subst eo8) | ((with_reducible refine jL (N := 5) rfl ?_); refine zE 5 #[.int .i64 0, .slice none 0 0] 28 ?_; intro gb226 hg w9 hbox hb; replace HO225 := jA (jF (zo HO225) hb); replace HB := jA (jV (zr5 HB HI0 GE219) hb); have BK226 := jA (hbox); have GW226 := jA ((by rw [hg]; exact (keep_size (w := w) (g := g) (row := none) (zh1 HK GW219)) : w.heap.size ≤ gb226)); have GE226 := jA ((Nat.le_trans HW0.out (by rw [hg]; exact (keep_size (w := w) (g := g) (row := none) (zh1 HK GW219)) : w.heap.size ≤ gb226) : w0.heap.size ≤ gb226)); replace HK := jA (KeepBut.trans (zh1 HK GW219) (KeepBut.of_below hb g none) (.inl rfl)); have NB219_226 := zn hg BK219; replace BK219 := zB BK219 hb; have NB226_219 := jA NB219_226.out.symm; have NB0_226 := jA ((by rw [hg]; exact Nat.ne_of_lt (IsS92.lt (show IsS92 w0 _ g s0_0 t221 t222 from zr4 HI0 NB0_219)) : g ≠ gb226)); have NB226_0 := jA ((by rw [hg]; exact Nat.ne_of_gt (IsS92.lt (show IsS92 w0 _ g s0_0 t221 t222 from zr4 HI0 NB0_219)) : gb226 ≠ g)); replace HI0 := jA (IsS92.below (zr4 HI0 NB0_219) hb); clear hb hbox hg; have hnb10 := NB226_219.out; have hnc10 := NB219_226.out; have hnb11 := NB226_0.out; have hnc11 := NB0_226.out; have hcz12 := zc2 BK226))
 go_loopg [6] k (fun kq v6 w' => ∃ (x6_1 : Int) (x1001_1 : Int) (x1002_1 : Int) (x227001_1 : List Int) (u227001 : Value), v6 = .int .i64 x6_1 ∧ Aside0 (spec_l26For.l0 kq l1 x6_1 s0_0 x1001_1 x1002_1 (wrap64 (1000 + t220)) x227001_1 = some (r1, r2, r3, r4)) ∧ Aside0 (kq ≤ k) ∧ Aside0 (Kd.R (Kd.int .i64) 2 w' w.heap.size (fun _ => True) u227001 x227001_1) ∧ Aside0 (w'.heap[gb219]? = some (.cells #[.int .i64 0, (.slice none 0 0)] 28 (0, 0))) ∧ Aside0 (w'.heap[gb226]? = some (.cells #[.int .i64 (wrap64 (1000 + t220)), u227001] 28 (0, 0))) ∧ Aside0 (IsS92 w0 w' g s0_0 x1001_1 x1002_1) ∧ Aside0 (KeepBut w w' g none) ∧ Aside0 (Below w0.heap.size w0 w'))
 case atStart => exact ⟨(0), (t221), (t222), (y223), (.slice Ao8 y223.length co8), zz, H', ⟨Nat.le_refl _⟩, ⟨zT HO225 BK226⟩, ⟨zQ1 BK219 NB219_226⟩, ⟨zP0 BK226⟩, ⟨zr6 HI0 NB0_219 NB0_226⟩, ⟨zh2 HK GW219 GW226⟩, ⟨zr7 HB HI0 GE219 GE226⟩⟩
 case round =>
  clear H'
  try clear c1
  try clear p2
  try clear p6
  try clear c7
  try clear c8
  try clear c10
  try clear c11
  try clear hcz12
  obtain ⟨x6_1, x1001_1, x1002_1, x227001_1, u227001, rfl, HA, HK1, HO_227001, BK219, BK226, HI0, HK, HB⟩ := hrel
  cases gk with
  | zero => exact absurd HA.out (by simp [spec_l26For.l0])
  | succ k1 =>
   have H := HA.out
   clear HA
   simp only [spec_l26For.l0] at H
   by_cases c13 : x6_1 < (l1.length : Int)
   ·rw [if_pos c13] at H
    have c13b0 : decide (x6_1 < (l1.length : Int)) = true := jJ c13
    clear c13
    replace H := jB.mp H
    obtain ⟨⟨t227, t228, t229⟩, A140, H⟩ := H
    replace H : ((spec_l01Pick.f s0_0 t228 t229 (([0, 0, t227] : List Int))).bind fun bt233 => (if x227001_1.length < 17592186044416 then (spec_l26For.l0 k1 l1 (wrap64 (x6_1 + 1)) s0_0 bt233.2.1 bt233.2.2 (wrap64 (1000 + t220)) (x227001_1 ++ [bt233.1])) else (none))) = some (r1, r2, r3, r4) := H
    have A14 := jA A140
    clear A140
    obtain ⟨y230, hy230⟩ : ∃ y_ : List Int, y_ = (([0, 0, t227] : List Int)) := ⟨_, rfl⟩
    replace H : ((spec_l01Pick.f s0_0 t228 t229 y230).bind fun bt233 => (if x227001_1.length < 17592186044416 then (spec_l26For.l0 k1 l1 (wrap64 (x6_1 + 1)) s0_0 bt233.2.1 bt233.2.2 (wrap64 (1000 + t220)) (x227001_1 ++ [bt233.1])) else (none))) = some (r1, r2, r3, r4) := by first | (rw [hy230]; with_reducible exact H) | (have H2_ := (Option.bind_some _ _).symm.trans H; rw [hy230]; with_reducible exact H2_) | (have H2_ := (Option.bind_some _ _).symm.trans H; with_reducible exact H2_) | with_reducible exact H | (rw [hy230]; exact H) | exact H
    have Ny230 := jA hy230
    clear hy230
    replace H := jB.mp H
    obtain ⟨⟨t233, t234, t235⟩, A150, H⟩ := H
    replace H : (if x227001_1.length < 17592186044416 then (spec_l26For.l0 k1 l1 (wrap64 (x6_1 + 1)) s0_0 t234 t235 (wrap64 (1000 + t220)) (x227001_1 ++ [t233])) else (none)) = some (r1, r2, r3, r4) := H
    have A15 := jA A150
    clear A150
    by_cases c16 : x227001_1.length < 17592186044416
    ·rw [if_pos c16] at H
     have LMc16 := jA c16
     clear c16
     obtain ⟨y236, hy236⟩ : ∃ y_ : List Int, y_ = (x227001_1 ++ [t233]) := ⟨_, rfl⟩
     replace H : (spec_l26For.l0 k1 l1 (wrap64 (x6_1 + 1)) s0_0 t234 t235 (wrap64 (1000 + t220)) y236) = some (r1, r2, r3, r4) := by first | (rw [hy236]; with_reducible exact H) | (have H2_ := (Option.bind_some _ _).symm.trans H; rw [hy236]; with_reducible exact H2_) | (have H2_ := (Option.bind_some _ _).symm.trans H; with_reducible exact H2_) | with_reducible exact H | (rw [hy236]; exact H) | exact H
     have Ny236 := jA hy236
     clear hy236
     have H' := jA H
     clear H
     try go_wp2
     replace HO_227001 := jA (jR HO_227001.out)
     replace BK219 := jA (blk_drew BK219.out)
     replace BK226 := jA (blk_drew BK226.out)
     replace HI0 := jA (IsS92.drew HI0.out)
     replace HK := jA (keep_drew HK.out)
     replace HB := jA (below_drew1 HB.out)
     refine start_ (n := 11) (S := fun w' => w'.cell? ⟨gb226, 0, none⟩ = some (.int .i64 (wrap64 (1000 + t220))) ∧ w'.cell? ⟨gb226, 1, none⟩ = some (u227001)) (ds := [10]) #[false, false, false, false, false, false, false, false, false, false, false] zr rfl rfl ⟨(jG BK226.out 0).trans rfl, (jG BK226.out 1).trans rfl⟩ (fun hHeld => ?_); refine with_tabW spec_l26For.tab5 spec_l26For.bits5 (fun HT_ HW_ => ?_)
     generalize wr.drew = w17 at HO_227001 BK219 BK226 HI0 HK HB hHeld ⊢
     refine zp HT_ 0 18 #[true, false, false, false, false, false, false, false, false, false, false] ?_
     refine zp HT_ 2 20 #[true, false, true, false, false, false, false, false, false, false, false] ?_
     refine zp HT_ 3 21 #[true, false, true, true, false, false, false, false, false, false, false] ?_
     refine zt2 HT_ HW_ hHeld 1 19 #[true, true, true, true, false, false, false, false, false, false, false] ?_
     refine one_ (i := 4) (N := some 22) #[true, true, true, true, true, false, false, false, false, false, false] rfl rfl (one_of HT_.out zr) (by decide) (fun K hK => ?_)
     refine goes_ Try.func79 zr rfl #[.pointer (some ⟨g, 0, none⟩), .int .i64 6] (by rfl) rfl rfl zm ?_
     with_reducible refine (spec_l01Next.calls g s0_0 x1001_1 x1002_1 6 t227 t228 t229 w0 _ ?side1 ?side2 A14.out).mono ?_
     (case side1 => exact zr6 HI0 NB0_219 NB0_226)
     (case side2 => exact zr7 HB HI0 GE219 GE226)
     rintro e w18 ⟨rfl, hi, hb, hk⟩
     refine ⟨_, rfl, ?_⟩
     replace HO_227001 := jA (Kd.R_mono (Kd.R_keep (IsS92.apart (show IsS92 w0 _ g s0_0 x1001_1 x1002_1 from zr6 HI0 NB0_219 NB0_226) (zo HO_227001) (by decide)) hk (fun _ h => h.2)) (fun _ h => h.1))
     replace BK219 := zK hk BK219 NB219_0
     replace BK226 := zK hk BK226 NB226_0
     replace HK := jA (KeepBut.trans (zh2 HK GW219 GW226) hk (.inl rfl))
     replace HB := jA (hb)
     replace HI0 := jA (hi)
     (try clear hb)
     (try clear hb2)
     (try clear hk)
     (try clear hi)
     refine hK.out _ _ ⟨(jG BK226.out 0).trans rfl, (jG BK226.out 1).trans rfl⟩ (fun hHeld => ?_)
     clear hK K
     refine norm_ (a' := ?_) ?_ ?_
     rotate_left
     ·show Act.put _ (some 22) _ = _
      simp only [Act.put, jE, jH, jI, i64_w, i32_w]
      rfl
     refine one_ (i := 5) (N := some 23) #[true, true, true, true, true, true, false, false, false, false, false] rfl rfl (one_of HT_.out zr) (by decide) (fun K hK => ?_)
     refine Kd.R_lit_step (Kd.int .i64) _ 2 ?hg (N := 23) ?hd (xs := ([0, 0, t227] : List Int)) (inner := [.int .i64 0, .int .i64 0, .int .i64 t227]) (ok := fun _ => True) (okp := fun _ => True) ?hr ?hp (fun _ hk => hk) trivial (Below.refl _ _) (Nat.le_refl _) (by simp) ?_; (case hd => rfl); (case hg => rfl); (case hr => first | (go_simp; done) | (go_simp; rfl)); (case hp => exact (Reps.one (show Kd.M (Kd.int .i64) _ _ _ 0 [.int .i64 0] from rfl) (Reps.one (show Kd.M (Kd.int .i64) _ _ _ 0 [.int .i64 0] from rfl) (Reps.one (show Kd.M (Kd.int .i64) _ _ _ t227 [.int .i64 t227] from rfl) (Reps.none _ _)))))
     intro v231 w19 ho20 hb hg_ hnew_
     clear hg_ hnew_
     (first | rw [← Ny230.out] at ho20 | (simp only [Int.reduceToNat] at ho20; rw [← Ny230.out] at ho20))
     have HO232 := jA (jU (Kd.R_new' ho20 (Kd.R_lt (zo HO_227001))) (keep_size (w := w) (g := g) (row := none) (zh2 HK GW219 GW226)))
     replace HO_227001 := jA (Kd.R_elder' (zo HO_227001) (Kd.R_base ho20) hb)
     replace BK219 := zB BK219 hb
     replace BK226 := zB BK226 hb
     replace HK := jA (KeepBut.trans (zh2 HK GW219 GW226) (KeepBut.of_below hb g none) (.inl rfl))
     replace HB := jA (jV (zr7 HB HI0 GE219 GE226) hb)
     replace HI0 := jA (IsS92.below (zr6 HI0 NB0_219 NB0_226) hb)
     clear hb ho20
     obtain ⟨Ao21, co21, eo21⟩ := Kd.R_slice HO232.out
     (first | subst eo21 | (injection eo21 with f1_ f2_ f3_; have f4_ := f1_.symm; have f5_ := f3_.symm; clear f1_ f2_ f3_; subst f4_; subst f5_))
     refine hK.out _ _ ⟨(jG BK226.out 0).trans rfl, (jG BK226.out 1).trans rfl⟩ (fun hHeld => ?_)
     clear hK K
     refine norm_ (a' := ?_) ?_ ?_
     rotate_left
     ·show Act.put _ (some 23) _ = _
      simp only [Act.put, jE, jH, jI, i64_w, i32_w]
      rfl
     refine one_ (i := 6) (N := some 24) #[true, true, true, true, true, true, true, false, false, false, false] rfl rfl (one_of HT_.out zr) (by decide) (fun K hK => ?_)
     refine goes_ Try.func78 zr rfl #[.pointer (some ⟨g, 0, none⟩), .slice Ao21 y230.length co21] (by rfl) rfl rfl zm ?_
     with_reducible refine (spec_l01Pick.calls g s0_0 t228 t229 _ _ y230 t233 t234 t235 w0 _ ?side1 ?side2 ?side3 ?side4 ?side5 A15.out).mono ?_
     (case side1 => exact zr6 HI0 NB0_219 NB0_226)
     (case side2 => exact zr7 HB HI0 GE219 GE226)
     (case side3 => exact zv HO232)
     (case side4 => exact (jM HO232.out).2.1)
     (case side5 => exact far_slice (IsS92.own_ne HI0.out HO232.out (by decide)))
     rintro e w22 ⟨rfl, hi, hb, hk⟩
     refine ⟨_, rfl, ?_⟩
     replace HO_227001 := jA (Kd.R_mono (Kd.R_keep (IsS92.apart (show IsS92 w0 _ g s0_0 t228 t229 from zr6 HI0 NB0_219 NB0_226) (zo HO_227001) (by decide)) hk (fun _ h => h.2)) (fun _ h => h.1))
     replace BK219 := zK hk BK219 NB219_0
     replace BK226 := zK hk BK226 NB226_0
     replace HO232 := jA (Kd.R_mono (Kd.R_keep (IsS92.apart (show IsS92 w0 _ g s0_0 t228 t229 from zr6 HI0 NB0_219 NB0_226) (zo HO232) (by decide)) hk (fun _ h => h.2)) (fun _ h => h.1))
     replace HK := jA (KeepBut.trans (zh2 HK GW219 GW226) hk (.inl rfl))
     replace HB := jA (hb)
     replace HI0 := jA (hi)
     (try clear hb)
     (try clear hb2)
     (try clear hk)
     (try clear hi)
     refine hK.out _ _ ⟨(jG BK226.out 0).trans rfl, (jG BK226.out 1).trans rfl⟩ (fun hHeld => ?_)
     clear hK K
     refine norm_ (a' := ?_) ?_ ?_
     rotate_left
     ·show Act.put _ (some 24) _ = _
      simp only [Act.put, jE, jH, jI, i64_w, i32_w]
      rfl
     refine one_ (i := 7) (N := some 25) #[true, true, true, true, true, true, true, true, false, false, false] rfl rfl (one_of HT_.out zr) (by decide) (fun K hK => ?_)
     refine value_ (w1 := ?_) (v := ?_) (by rfl) rfl ?_ ?_
     rotate_left 2
     ·go_simp
      constructor
      ·rfl
      ·rfl
     refine hK.out _ _ ⟨(jG (blk_alloc BK226.out _) 0).trans rfl, (jG (blk_alloc BK226.out _) 1).trans rfl⟩ (fun hHeld => ?_)
     clear hK K
     refine norm_ (a' := ?_) ?_ ?_
     rotate_left
     ·show Act.put _ (some 25) _ = _
      simp only [Act.put, jE, jH, jI, i64_w, i32_w]
      rfl
     refine one_ (i := 8) (N := some 26) #[true, true, true, true, true, true, true, true, true, false, false] rfl rfl (one_of HT_.out zr) (by decide) (fun K hK => ?_)
     refine Kd.R_append_step (Kd.int .i64) w.heap.size (by rfl) (.tmp 19) (.tmp 25) 23 2 (.int .i64 0) 8 rfl Try.underlying23 info2 rfl (by decide) (by omega) u227001 x227001_1 t233 [.int .i64 t233] (fun k_ => some k_ ≠ (.slice Ao21 y230.length co21 : Value).ownBlock) (fun _ => False) rfl rfl ?aP (fun _ hk => hk.elim) ?aF ?aO (Below.refl _ _) ?aS ?aL ?_
     (case aP => exact rfl)
     (case aF => exact (fun k_ hk => Kd.fresh' (Kd.R_lt (zo HO232)) k_ hk))
     (case aO => exact (by (with_reducible repeat (first | apply jT | apply jS | apply jR)); exact Kd.R_mono HO_227001.out (fun _ hk => hk.2)))
     (case aS => exact (keep_size (w := w) (g := g) (row := none) (zh2 HK GW219 GW226)))
     (case aL => have := LMc16.out; omega)
     intro v237 w23 ho hb hg hat
     rw [← Ny236.out] at ho
     replace BK219 := jA (blk_grown (g := gb219) (o := .cells #[.int .i64 0, .slice none 0 0] 28 (0, 0)) (zk BK219) hg (Kd.R_ne HO_227001.out BK219.out (by decide)))
     replace BK226 := jA (blk_grown (g := gb226) (o := .cells #[.int .i64 (wrap64 (1000 + t220)), u227001] 28 (0, 0)) (zk BK226) hg (Kd.R_ne HO_227001.out BK226.out (by decide)))
     replace HO232 := jA (Kd.R_after (ok := (fun _ => True)) (zo HO232) hg hat)
     replace HB := jA (below_weaken (zr7 HB HI0 GE219 GE226) HL.out hb)
     replace HI0 := jA (IsS92.grown (zr6 HI0 NB0_219 NB0_226) hg (IsS92.own_ne HI0.out HO_227001.out (by decide)))
     replace HK := jA (KeepBut.trans (zh2 HK GW219 GW226) (KeepBut.of_grown hg g) (Kd.R_base2 HO_227001.out))
     have HO238 := jA (ho)
     clear HO_227001
     clear ho hb hg hat
     obtain ⟨Ao24, co24, eo24⟩ := Kd.R_slice HO238.out
     (first | subst eo24 | (injection eo24 with f1_ f2_ f3_; have f4_ := f1_.symm; have f5_ := f3_.symm; clear f1_ f2_ f3_; subst f4_; subst f5_))
     refine hK.out _ _ ⟨(jG BK226.out 0).trans rfl, (jG BK226.out 1).trans rfl⟩ (fun hHeld => ?_)
     clear hK K
     refine norm_ (a' := ?_) ?_ ?_
     rotate_left
     ·show Act.put _ (some 26) _ = _
      simp only [Act.put, jE, jH, jI, i64_w, i32_w]
      rfl
     refine zp HT_ 9 27 #[true, true, true, true, true, true, true, true, true, true, false] ?_
     refine last_ (i := 10) (N := none) #[true, true, true, true, true, true, true, true, true, true, true] rfl rfl (one_of HT_.out zr) (by decide) (fun K hK => ?_)
     have hs25 : w23.cell? ⟨gb226, 1, none⟩ = some (u227001) := (jG BK226.out 1).trans rfl
     have hfs25 := blk_frozen BK226.out 1
     have hns25_0 := NB219_226.out
     have hms25_0 := NB226_219.out
     refine skip_ (w1 := ?_) (by rfl) rfl ?_ ?_
     rotate_left
     ·go_simp
      rfl
     refine hK.out _ _ ?_
     clear hK K
     refine done_ (done_of HT_.out zr) ?_
     try go_wp2
     go_roundg k1
     case measure => have := HK1.out; omega
     case rel => exact ⟨(wrap64 (x6_1 + 1)), (t234), (t235), (y236), (.slice Ao24 y236.length co24), zz, H', ⟨by have := HK1.out; omega⟩, ⟨zT HO238 BK226⟩, ⟨zQ1 BK219 NB219_226⟩, ⟨zP0 BK226⟩, ⟨zr6 HI0 NB0_219 NB0_226⟩, ⟨zh2 HK GW219 GW226⟩, ⟨zr7 HB HI0 GE219 GE226⟩⟩
    ·rw [if_neg c16] at H
     exact absurd H (by simp)
   ·rw [if_neg c13] at H
    have c13b0 : decide (x6_1 < (l1.length : Int)) = false := jQ c13
    clear c13
    replace H := jB.mp H
    obtain ⟨⟨t239, t240, t241⟩, A260, H⟩ := H
    replace H : (if t239 = 0 then ((spec_l01Pick.f s0_0 t240 t241 (([(-1), 0, 1000000000, 1000000001] : List Int))).bind fun bt245 => (some (bt245.1, x227001_1, bt245.2.1, bt245.2.2))) else (if t239 = 1 then (if x227001_1.length < 17592186044416 then (some ((wrap64 (1000 + t220)), (x227001_1 ++ [1]), t240, t241)) else (none)) else (if t239 = 2 then (if (x227001_1.length : Int) > 0 then ((spec_l01Pick.f s0_0 t240 t241 (([1000, 1001, (-1)] : List Int))).bind fun bt254 => (if 0 < (x227001_1.length : Int) then (some ((wrap64 (1000 + t220)), (x227001_1.set (0 : Int).toNat bt254.1), bt254.2.1, bt254.2.2)) else (none))) else (some ((wrap64 (1000 + t220)), x227001_1, t240, t241))) else (some ((wrap64 (1000 + t220)), x227001_1, t240, t241))))) = some (r1, r2, r3, r4) := H
    have A26 := jA A260
    clear A260
    by_cases c27 : t239 = 0
    ·rw [if_pos c27] at H
     have c27b0 : (t239 == 0) = true := beq_iff_eq.mpr c27
     have c27b1 : (t239 != 0) = false := bne_eq_false_iff_eq.mpr c27
     clear c27
     obtain ⟨y242, hy242⟩ : ∃ y_ : List Int, y_ = (([(-1), 0, 1000000000, 1000000001] : List Int)) := ⟨_, rfl⟩
     replace H : ((spec_l01Pick.f s0_0 t240 t241 y242).bind fun bt245 => (some (bt245.1, x227001_1, bt245.2.1, bt245.2.2))) = some (r1, r2, r3, r4) := by first | (rw [hy242]; with_reducible exact H) | (have H2_ := (Option.bind_some _ _).symm.trans H; rw [hy242]; with_reducible exact H2_) | (have H2_ := (Option.bind_some _ _).symm.trans H; with_reducible exact H2_) | with_reducible exact H | (rw [hy242]; exact H) | exact H
     have Ny242 := jA hy242
     clear hy242
     replace H := jB.mp H
     obtain ⟨⟨t245, t246, t247⟩, A280, H⟩ := H
     try dsimp only at H
     have A28 := jA A280
     clear A280
     simp only [jN, jO] at H
     obtain ⟨rfl, rfl, rfl, rfl⟩ := H
     go_wp2_with (first | ((with_reducible refine jD (f := 79) rfl ?_); refine zL (some 29) Try.func79 #[.pointer (some ⟨g, 0, none⟩), .int .i64 30] ?_; (with_reducible refine (spec_l01Next.calls g s0_0 x1001_1 x1002_1 30 t239 t240 t241 w0 _ ?side1 ?side2 A26.out).mono ?_); (case side1 => exact zr6 HI0 NB0_219 NB0_226); (case side2 => exact zr7 HB HI0 GE219 GE226); rintro e w29 ⟨rfl, hi, hb, hk⟩; refine ⟨_, rfl, ?_⟩; replace HO_227001 := jA (Kd.R_mono (Kd.R_keep (IsS92.apart (show IsS92 w0 _ g s0_0 x1001_1 x1002_1 from zr6 HI0 NB0_219 NB0_226) (zo HO_227001) (by decide)) hk (fun _ h => h.2)) (fun _ h => h.1)); replace BK219 := zK hk BK219 NB219_0; replace BK226 := zK hk BK226 NB226_0; replace HK := jA (KeepBut.trans (zh2 HK GW219 GW226) hk (.inl rfl)); replace HB := jA (hb); replace HI0 := jA (hi); (try clear hb); (try clear hb2); (try clear hk); (try clear hi)) | ((with_reducible refine jL (N := 33) rfl ?_); refine Kd.R_lit (Kd.int .i64) _ 2 ?hg (N := 33) ?hd (xs := ([(-1), 0, 1000000000, 1000000001] : List Int)) (inner := [.int .i64 (-1), .int .i64 0, .int .i64 1000000000, .int .i64 1000000001]) (ok := fun _ => True) (okp := fun _ => True) ?hr ?hp (fun _ hk => hk) trivial (Below.refl _ _) (Nat.le_refl _) (by simp) ?_; (case hd => rfl); (case hg => rfl); (case hr => first | (go_simp; done) | (go_simp; rfl)); (case hp => exact (Reps.one (show Kd.M (Kd.int .i64) _ _ _ (-1) [.int .i64 (-1)] from rfl) (Reps.one (show Kd.M (Kd.int .i64) _ _ _ 0 [.int .i64 0] from rfl) (Reps.one (show Kd.M (Kd.int .i64) _ _ _ 1000000000 [.int .i64 1000000000] from rfl) (Reps.one (show Kd.M (Kd.int .i64) _ _ _ 1000000001 [.int .i64 1000000001] from rfl) (Reps.none _ _)))))); intro v243 w30 ho31 hb hg_ hnew_; clear hg_ hnew_; (first | rw [← Ny242.out] at ho31 | (simp only [Int.reduceToNat] at ho31; rw [← Ny242.out] at ho31)); have HO244 := jA (jU (Kd.R_new' ho31 (Kd.R_lt (zo HO_227001))) (keep_size (w := w) (g := g) (row := none) (zh2 HK GW219 GW226))); replace HO_227001 := jA (Kd.R_elder' (zo HO_227001) (Kd.R_base ho31) hb); replace BK219 := zB BK219 hb; replace BK226 := zB BK226 hb; replace HK := jA (KeepBut.trans (zh2 HK GW219 GW226) (KeepBut.of_below hb g none) (.inl rfl)); replace HB := jA (jV (zr7 HB HI0 GE219 GE226) hb); replace HI0 := jA (IsS92.below (zr6 HI0 NB0_219 NB0_226) hb); clear hb ho31; obtain ⟨Ao32, co32, eo32⟩ := Kd.R_slice HO244.out; subst eo32) | ((with_reducible refine jD (f := 78) rfl ?_); refine zL (some 34) Try.func78 #[.pointer (some ⟨g, 0, none⟩), .slice Ao32 y242.length co32] ?_; (with_reducible refine (spec_l01Pick.calls g s0_0 t240 t241 _ _ y242 t245 t246 t247 w0 _ ?side1 ?side2 ?side3 ?side4 ?side5 A28.out).mono ?_); (case side1 => exact zr6 HI0 NB0_219 NB0_226); (case side2 => exact zr7 HB HI0 GE219 GE226); (case side3 => exact zv HO244); (case side4 => exact (jM HO244.out).2.1); (case side5 => exact far_slice (IsS92.own_ne HI0.out HO244.out (by decide))); rintro e w33 ⟨rfl, hi, hb, hk⟩; refine ⟨_, rfl, ?_⟩; replace HO_227001 := jA (Kd.R_mono (Kd.R_keep (IsS92.apart (show IsS92 w0 _ g s0_0 t240 t241 from zr6 HI0 NB0_219 NB0_226) (zo HO_227001) (by decide)) hk (fun _ h => h.2)) (fun _ h => h.1)); replace BK219 := zK hk BK219 NB219_0; replace BK226 := zK hk BK226 NB226_0; replace HO244 := jA (Kd.R_mono (Kd.R_keep (IsS92.apart (show IsS92 w0 _ g s0_0 t240 t241 from zr6 HI0 NB0_219 NB0_226) (zo HO244) (by decide)) hk (fun _ h => h.2)) (fun _ h => h.1)); replace HK := jA (KeepBut.trans (zh2 HK GW219 GW226) hk (.inl rfl)); replace HB := jA (hb); replace HI0 := jA (hi); (try clear hb); (try clear hb2); (try clear hk); (try clear hi); have hnb34 := NB226_219.out; have hnc34 := NB219_226.out; have hnb35 := NB226_0.out; have hnc35 := NB0_226.out; have hcz36 := zc2 BK226; have hnb37 := NB219_0.out; have hnc37 := NB0_219.out; have hcz38 := zc2 BK219; obtain ⟨Ao39, co39, eo39⟩ := Kd.R_slice HO_227001.out; subst eo39))
     refine jX (results_cell_row rfl _ _ gb219 28 #[.int .i64 t245, .slice Ao39 x227001_1.length co39] (0, 0) _ rfl (zP1 BK219 NB219_226) Try.underlying28 rfl zr) rfl ?_
     exact ⟨_, ze, by (with_reducible repeat (first | apply jT | apply jS | apply jR)); exact Kd.R_mono (Kd.R_far (p := ⟨gb219, 1, none⟩) (Kd.R_far (p := ⟨gb219, 0, none⟩) (Kd.R_far (p := ⟨gb226, 0, none⟩) (Kd.R_types (Kd.R_types HO_227001.out BK226.out (by decide)) BK219.out (by decide)) (fun _ hk => hk.1.2) (.int .i64 t245)) (fun _ hk => hk.2) (.int .i64 t245)) (fun _ hk => hk.2) (.slice Ao39 x227001_1.length co39)) (fun _ hk => trivial), zr6 HI0 NB0_219 NB0_226, zr7 HB HI0 GE219 GE226, zh2 HK GW219 GW226⟩
    ·rw [if_neg c27] at H
     have c27b0 : (t239 == 0) = false := beq_eq_false_iff_ne.mpr c27
     have c27b1 : (t239 != 0) = true := bne_iff_ne.mpr c27
     by_cases c40 : t239 = 1
     ·rw [if_pos c40] at H
      have c40b0 : (t239 == 1) = true := beq_iff_eq.mpr c40
      have c40b1 : (t239 != 1) = false := bne_eq_false_iff_eq.mpr c40
      clear c40
      by_cases c41 : x227001_1.length < 17592186044416
      ·rw [if_pos c41] at H
       have LMc41 := jA c41
       clear c41
       obtain ⟨y248, hy248⟩ : ∃ y_ : List Int, y_ = (x227001_1 ++ [1]) := ⟨_, rfl⟩
       replace H : (some ((wrap64 (1000 + t220)), y248, t240, t241)) = some (r1, r2, r3, r4) := by first | (rw [hy248]; with_reducible exact H) | (have H2_ := (Option.bind_some _ _).symm.trans H; rw [hy248]; with_reducible exact H2_) | (have H2_ := (Option.bind_some _ _).symm.trans H; with_reducible exact H2_) | with_reducible exact H | (rw [hy248]; exact H) | exact H
       have Ny248 := jA hy248
       clear hy248
       simp only [jN, jO] at H
       obtain ⟨rfl, rfl, rfl, rfl⟩ := H
       go_wp2_with (first | ((with_reducible refine jD (f := 79) rfl ?_); refine zL (some 29) Try.func79 #[.pointer (some ⟨g, 0, none⟩), .int .i64 30] ?_; (with_reducible refine (spec_l01Next.calls g s0_0 x1001_1 x1002_1 30 t239 t240 t241 w0 _ ?side1 ?side2 A26.out).mono ?_); (case side1 => exact zr6 HI0 NB0_219 NB0_226); (case side2 => exact zr7 HB HI0 GE219 GE226); rintro e w42 ⟨rfl, hi, hb, hk⟩; refine ⟨_, rfl, ?_⟩; replace HO_227001 := jA (Kd.R_mono (Kd.R_keep (IsS92.apart (show IsS92 w0 _ g s0_0 x1001_1 x1002_1 from zr6 HI0 NB0_219 NB0_226) (zo HO_227001) (by decide)) hk (fun _ h => h.2)) (fun _ h => h.1)); replace BK219 := zK hk BK219 NB219_0; replace BK226 := zK hk BK226 NB226_0; replace HK := jA (KeepBut.trans (zh2 HK GW219 GW226) hk (.inl rfl)); replace HB := jA (hb); replace HI0 := jA (hi); (try clear hb); (try clear hb2); (try clear hk); (try clear hi); have hnb43 := NB226_219.out; have hnc43 := NB219_226.out; have hnb44 := NB226_0.out; have hnc44 := NB0_226.out; have hcz45 := zc2 BK226) | ((with_reducible refine gate_builtin (b := .append) (xs := #[.tmp 39, .tmp 40]) rfl ?_); at_builtin; refine Kd.R_append (Kd.int .i64) w.heap.size rfl (.tmp 39) (.tmp 40) 23 2 (.int .i64 0) 8 rfl Try.underlying23 info2 rfl (by decide) (by omega) u227001 x227001_1 1 [.int .i64 1] (fun _ => True) (fun _ => False) rfl rfl ?aP (fun _ hk => hk.elim) ?aF ?aO (Below.refl _ _) ?aS ?aL ?_; (case aP => exact rfl); (case aF => exact (fun _ _ => trivial)); (case aO => exact (zo HO_227001)); (case aS => exact (keep_size (w := w) (g := g) (row := none) (zh2 HK GW219 GW226))); (case aL => have := LMc41.out; omega); intro v249 w46 ho hb hg hat; rw [← Ny248.out] at ho; replace BK219 := jA (blk_grown (g := gb219) (o := .cells #[.int .i64 0, .slice none 0 0] 28 (0, 0)) (zk BK219) hg (Kd.R_ne HO_227001.out BK219.out (by decide))); replace BK226 := jA (blk_grown (g := gb226) (o := .cells #[.int .i64 (wrap64 (1000 + t220)), u227001] 28 (0, 0)) (zk BK226) hg (Kd.R_ne HO_227001.out BK226.out (by decide))); replace HB := jA (below_weaken (zr7 HB HI0 GE219 GE226) HL.out hb); replace HI0 := jA (IsS92.grown (zr6 HI0 NB0_219 NB0_226) hg (IsS92.own_ne HI0.out HO_227001.out (by decide))); replace HK := jA (KeepBut.trans (zh2 HK GW219 GW226) (KeepBut.of_grown hg g) (Kd.R_base2 HO_227001.out)); have HO250 := jA (ho); clear HO_227001; clear ho hb hg hat; obtain ⟨Ao47, co47, eo47⟩ := Kd.R_slice HO250.out; subst eo47; have hcz48 := zc2 BK226; have hnb49 := NB219_0.out; have hnc49 := NB0_219.out; have hcz50 := zc2 BK219))
       refine jX (results_cell_row rfl _ _ gb219 28 #[.int .i64 (wrap64 (1000 + t220)), .slice Ao47 y248.length co47] (0, 0) _ rfl (zP1 BK219 NB219_226) Try.underlying28 rfl zr) rfl ?_
       exact ⟨_, ze, by (with_reducible repeat (first | apply jT | apply jS | apply jR)); exact Kd.R_mono (Kd.R_far (p := ⟨gb219, 1, none⟩) (Kd.R_far (p := ⟨gb219, 0, none⟩) (Kd.R_far (p := ⟨gb226, 1, none⟩) (Kd.R_types (Kd.R_types HO250.out BK226.out (by decide)) BK219.out (by decide)) (fun _ hk => hk.1.2) (.slice Ao47 y248.length co47)) (fun _ hk => hk.2) (.int .i64 (wrap64 (1000 + t220)))) (fun _ hk => hk.2) (.slice Ao47 y248.length co47)) (fun _ hk => trivial), zr6 HI0 NB0_219 NB0_226, zr7 HB HI0 GE219 GE226, zh2 HK GW219 GW226⟩
      ·rw [if_neg c41] at H
       exact absurd H (by simp)
     ·rw [if_neg c40] at H
      have c40b0 : (t239 == 1) = false := beq_eq_false_iff_ne.mpr c40
      have c40b1 : (t239 != 1) = true := bne_iff_ne.mpr c40
      by_cases c51 : t239 = 2
      ·rw [if_pos c51] at H
       have c51b0 : (t239 == 2) = true := beq_iff_eq.mpr c51
       have c51b1 : (t239 != 2) = false := bne_eq_false_iff_eq.mpr c51
       clear c51
       by_cases c52 : (x227001_1.length : Int) > 0
       ·rw [if_pos c52] at H
        have c52b0 : decide (0 < (x227001_1.length : Int)) = true := jJ c52
        have c52b1 : decide (0 < x227001_1.length) = true := jJ (by omega)
        clear c52
        obtain ⟨y251, hy251⟩ : ∃ y_ : List Int, y_ = (([1000, 1001, (-1)] : List Int)) := ⟨_, rfl⟩
        replace H : ((spec_l01Pick.f s0_0 t240 t241 y251).bind fun bt254 => (if 0 < (x227001_1.length : Int) then (some ((wrap64 (1000 + t220)), (x227001_1.set (0 : Int).toNat bt254.1), bt254.2.1, bt254.2.2)) else (none))) = some (r1, r2, r3, r4) := by first | (rw [hy251]; with_reducible exact H) | (have H2_ := (Option.bind_some _ _).symm.trans H; rw [hy251]; with_reducible exact H2_) | (have H2_ := (Option.bind_some _ _).symm.trans H; with_reducible exact H2_) | with_reducible exact H | (rw [hy251]; exact H) | exact H
        have Ny251 := jA hy251
        clear hy251
        replace H := jB.mp H
        obtain ⟨⟨t254, t255, t256⟩, A530, H⟩ := H
        replace H : (if 0 < (x227001_1.length : Int) then (some ((wrap64 (1000 + t220)), (x227001_1.set (0 : Int).toNat t254), t255, t256)) else (none)) = some (r1, r2, r3, r4) := H
        have A53 := jA A530
        clear A530
        by_cases c54 : 0 < (x227001_1.length : Int)
        ·rw [if_pos c54] at H
         have c54b0 : decide (0 < (x227001_1.length : Int)) = true := jJ c54
         have c54b1 : decide (0 < x227001_1.length) = true := jJ (by omega)
         clear c54
         obtain ⟨y257, hy257⟩ : ∃ y_ : List Int, y_ = (x227001_1.set (0 : Int).toNat t254) := ⟨_, rfl⟩
         replace H : (some ((wrap64 (1000 + t220)), y257, t255, t256)) = some (r1, r2, r3, r4) := by first | (rw [hy257]; with_reducible exact H) | (have H2_ := (Option.bind_some _ _).symm.trans H; rw [hy257]; with_reducible exact H2_) | (have H2_ := (Option.bind_some _ _).symm.trans H; with_reducible exact H2_) | with_reducible exact H | (rw [hy257]; exact H) | exact H
         have Ny257 := jA hy257
         clear hy257
         simp only [jN, jO] at H
         obtain ⟨rfl, rfl, rfl, rfl⟩ := H
         try go_wp2_with (first | ((with_reducible refine jD (f := 79) rfl ?_); refine zL (some 29) Try.func79 #[.pointer (some ⟨g, 0, none⟩), .int .i64 30] ?_; (with_reducible refine (spec_l01Next.calls g s0_0 x1001_1 x1002_1 30 t239 t240 t241 w0 _ ?side1 ?side2 A26.out).mono ?_); (case side1 => exact zr6 HI0 NB0_219 NB0_226); (case side2 => exact zr7 HB HI0 GE219 GE226); rintro e w56 ⟨rfl, hi, hb, hk⟩; refine ⟨_, rfl, ?_⟩; replace HO_227001 := jA (Kd.R_mono (Kd.R_keep (IsS92.apart (show IsS92 w0 _ g s0_0 x1001_1 x1002_1 from zr6 HI0 NB0_219 NB0_226) (zo HO_227001) (by decide)) hk (fun _ h => h.2)) (fun _ h => h.1)); replace BK219 := zK hk BK219 NB219_0; replace BK226 := zK hk BK226 NB226_0; replace HK := jA (KeepBut.trans (zh2 HK GW219 GW226) hk (.inl rfl)); replace HB := jA (hb); replace HI0 := jA (hi); (try clear hb); (try clear hb2); (try clear hk); (try clear hi); have hnb57 := NB226_219.out; have hnc57 := NB219_226.out; have hnb58 := NB226_0.out; have hnc58 := NB0_226.out; have hcz59 := zc2 BK226; obtain ⟨Ao60, co60, eo60⟩ := Kd.R_slice HO_227001.out; subst eo60))
         replace HO_227001 := jA (jR HO_227001.out)
         replace BK219 := jA (blk_drew BK219.out)
         replace BK226 := jA (blk_drew BK226.out)
         replace HI0 := jA (IsS92.drew HI0.out)
         replace HK := jA (keep_drew HK.out)
         replace HB := jA (below_drew1 HB.out)
         refine start_ (n := 7) (S := fun w' => w'.cell? ⟨gb226, 0, none⟩ = some (.int .i64 (wrap64 (1000 + t220))) ∧ w'.cell? ⟨gb226, 1, none⟩ = some (.slice Ao60 x227001_1.length co60)) (ds := [6]) #[false, false, false, false, false, false, false] zr rfl rfl ⟨(jG BK226.out 0).trans rfl, (jG BK226.out 1).trans rfl⟩ (fun hHeld => ?_)
         generalize w56.drew = w61 at HO_227001 BK219 BK226 HI0 HK HB hHeld ⊢
         refine pure_ (i := 0) (N := some 49) (v := ?_) (a' := ?_) #[true, false, false, false, false, false, false] rfl rfl zr (fun _ _ _ h => h) (Or.inl ⟨by rfl, ?_⟩) ?_ ?_
         rotate_left
         ·intro w'
          go_simp
          with_reducible rfl
         rotate_left
         ·simp only [Act.put, jE, jH, jI, i64_w, i32_w]
          rfl
         refine pure_ (i := 2) (N := some 51) (v := ?_) (a' := ?_) #[true, false, true, false, false, false, false] rfl rfl zr (fun _ _ _ h => h) (Or.inl ⟨by rfl, ?_⟩) ?_ ?_
         rotate_left
         ·intro w'
          go_simp
          with_reducible rfl
         rotate_left
         ·simp only [Act.put, jE, jH, jI, i64_w, i32_w]
          rfl
         refine take_ (i := 1) (N := some 50) (v := ?_) (a' := ?_) #[true, true, true, false, false, false, false] rfl rfl zr (fun _ _ _ h => h) (Or.inl ⟨by rfl, ?_⟩) hHeld ?_ ?_
         rotate_left
         ·rintro w' ⟨s0, s1⟩
          go_simp
          with_reducible rfl
         rotate_left
         ·simp only [Act.put, jE, jH, jI, i64_w, i32_w]
          rfl
         refine one_ (i := 3) (N := some 52) #[true, true, true, true, false, false, false] rfl rfl zr (by decide) (fun K hK => ?_)
         refine Kd.R_lit_step (Kd.int .i64) _ 2 ?hg (N := 52) ?hd (xs := ([1000, 1001, (-1)] : List Int)) (inner := [.int .i64 1000, .int .i64 1001, .int .i64 (-1)]) (ok := fun _ => True) (okp := fun _ => True) ?hr ?hp (fun _ hk => hk) trivial (Below.refl _ _) (Nat.le_refl _) (by simp) ?_; (case hd => rfl); (case hg => rfl); (case hr => first | (go_simp; done) | (go_simp; rfl)); (case hp => exact (Reps.one (show Kd.M (Kd.int .i64) _ _ _ 1000 [.int .i64 1000] from rfl) (Reps.one (show Kd.M (Kd.int .i64) _ _ _ 1001 [.int .i64 1001] from rfl) (Reps.one (show Kd.M (Kd.int .i64) _ _ _ (-1) [.int .i64 (-1)] from rfl) (Reps.none _ _)))))
         intro v252 w62 ho63 hb hg_ hnew_
         clear hg_ hnew_
         (first | rw [← Ny251.out] at ho63 | (simp only [Int.reduceToNat] at ho63; rw [← Ny251.out] at ho63))
         have HO253 := jA (jU (Kd.R_new' ho63 (Kd.R_lt (zo HO_227001))) (keep_size (w := w) (g := g) (row := none) (zh2 HK GW219 GW226)))
         replace HO_227001 := jA (Kd.R_elder' (zo HO_227001) (Kd.R_base ho63) hb)
         replace BK219 := zB BK219 hb
         replace BK226 := zB BK226 hb
         replace HK := jA (KeepBut.trans (zh2 HK GW219 GW226) (KeepBut.of_below hb g none) (.inl rfl))
         replace HB := jA (jV (zr7 HB HI0 GE219 GE226) hb)
         replace HI0 := jA (IsS92.below (zr6 HI0 NB0_219 NB0_226) hb)
         clear hb ho63
         obtain ⟨Ao64, co64, eo64⟩ := Kd.R_slice HO253.out
         (first | subst eo64 | (injection eo64 with f1_ f2_ f3_; have f4_ := f1_.symm; have f5_ := f3_.symm; clear f1_ f2_ f3_; subst f4_; subst f5_))
         refine hK.out _ _ ⟨(jG BK226.out 0).trans rfl, (jG BK226.out 1).trans rfl⟩ (fun hHeld => ?_)
         clear hK K
         refine norm_ (a' := ?_) ?_ ?_
         rotate_left
         ·show Act.put _ (some 52) _ = _
          simp only [Act.put, jE, jH, jI, i64_w, i32_w]
          rfl
         refine one_ (i := 4) (N := some 53) #[true, true, true, true, true, false, false] rfl rfl zr (by decide) (fun K hK => ?_)
         refine goes_ Try.func78 zr rfl #[.pointer (some ⟨g, 0, none⟩), .slice Ao64 y251.length co64] (by rfl) rfl rfl zm ?_
         with_reducible refine (spec_l01Pick.calls g s0_0 t240 t241 _ _ y251 t254 t255 t256 w0 _ ?side1 ?side2 ?side3 ?side4 ?side5 A53.out).mono ?_
         (case side1 => exact zr6 HI0 NB0_219 NB0_226)
         (case side2 => exact zr7 HB HI0 GE219 GE226)
         (case side3 => exact zv HO253)
         (case side4 => exact (jM HO253.out).2.1)
         (case side5 => exact far_slice (IsS92.own_ne HI0.out HO253.out (by decide)))
         rintro e w65 ⟨rfl, hi, hb, hk⟩
         refine ⟨_, rfl, ?_⟩
         replace HO_227001 := jA (Kd.R_mono (Kd.R_keep (IsS92.apart (show IsS92 w0 _ g s0_0 t240 t241 from zr6 HI0 NB0_219 NB0_226) (zo HO_227001) (by decide)) hk (fun _ h => h.2)) (fun _ h => h.1))
         replace BK219 := zK hk BK219 NB219_0
         replace BK226 := zK hk BK226 NB226_0
         replace HO253 := jA (Kd.R_mono (Kd.R_keep (IsS92.apart (show IsS92 w0 _ g s0_0 t240 t241 from zr6 HI0 NB0_219 NB0_226) (zo HO253) (by decide)) hk (fun _ h => h.2)) (fun _ h => h.1))
         replace HK := jA (KeepBut.trans (zh2 HK GW219 GW226) hk (.inl rfl))
         replace HB := jA (hb)
         replace HI0 := jA (hi)
         (try clear hb)
         (try clear hb2)
         (try clear hk)
         (try clear hi)
         have p55 : 0 ≤ (0 : Int) := (by omega)
         have q55 : (0 : Int) < ((x227001_1.length : Int) : Int) := jC za
         have qi55 : (0 < x227001_1.length) = True := eq_true (by omega)
         obtain ⟨go55, co55, eo55, gb55, gl55, cl55, HG55⟩ := Kd.R_form HO_227001.out (by omega)
         (first | cases eo55 | (injection eo55 with ea_ en_ ec_; (first | subst ea_ | (injection ea_ with ea_; subst ea_)); subst ec_; clear en_))
         have GB55 := jA gb55
         have GG55 := jA HG55
         clear gb55 gl55 HG55
         obtain ⟨hx55_0, hf55_0⟩ := Kd.R_celln 0 HO_227001.out (0 : Int) p55 q55
         (try rw [show ((0 : Int)).toNat = 0 from rfl] at hx55_0)
         (try simp only [Nat.reduceMul, Nat.zero_mul, Nat.zero_add, Nat.reduceAdd] at hx55_0)
         (try rw [show ((0 : Int)).toNat = 0 from rfl] at hf55_0)
         (try simp only [Nat.reduceMul, Nat.zero_mul, Nat.zero_add, Nat.reduceAdd] at hf55_0)
         replace p55 := eq_true p55
         replace q55 := eq_true q55
         have HN0_go55 := jA (show g ≠ go55 from by have h_ := IsS92.own_ne HI0.out HO_227001.out (by decide); intro e_; exact h_ (by rw [e_]; rfl))
         have HP66 := Kd.R_putn HO_227001.out (0 : Int) t254
         rw [← Ny257.out] at HP66
         have HQ66 := jA HP66
         clear HP66
         refine hK.out _ _ ⟨(jG BK226.out 0).trans rfl, (jG BK226.out 1).trans rfl⟩ (fun hHeld => ?_)
         clear hK K
         refine norm_ (a' := ?_) ?_ ?_
         rotate_left
         ·show Act.put _ (some 53) _ = _
          simp only [Act.put, jE, jH, jI, i64_w, i32_w]
          rfl
         refine pure_ (i := 5) (N := some 54) (v := ?_) (a' := ?_) #[true, true, true, true, true, true, false] rfl rfl zr (fun _ _ _ h => h) (Or.inl ⟨by rfl, ?_⟩) ?_ ?_
         rotate_left
         ·intro w'
          go_simp
          with_reducible rfl
         rotate_left
         ·simp only [Act.put, jE, jH, jI, i64_w, i32_w]
          rfl
         refine last_ (i := 6) (N := none) #[true, true, true, true, true, true, true] rfl rfl zr (by decide) (fun K hK => ?_)
         refine skip_ (w1 := ?_) (by rfl) rfl ?_ ?_
         rotate_left
         ·go_simp
          rfl
         refine hK.out _ _ ?_
         clear hK K
         refine done_ zr ?_
         have n0_ : Aside0 (Kd.R (Kd.int .i64) 2 (w65.setCell ⟨go55, 0, none⟩ (.int .i64 t254)) w.heap.size (fun k_ => some k_ ≠ (.slice Ao64 y251.length co64 : Value).ownBlock) (.slice (some ⟨go55, 0, none⟩) x227001_1.length co60) y257) := ⟨by (with_reducible repeat (first | apply jT | apply jS | apply jR)); exact Kd.R_mono HQ66.out (fun _ hk => hk.2)⟩
         have n1_ : Aside0 (Kd.R (Kd.int .i64) 2 (w65.setCell ⟨go55, 0, none⟩ (.int .i64 t254)) w.heap.size (fun k_ => some k_ ≠ (.slice (some ⟨go55, 0, none⟩) x227001_1.length co60 : Value).ownBlock) (.slice Ao64 y251.length co64) y251) := ⟨by (with_reducible repeat (first | apply jT | apply jS | apply jR)); exact Kd.R_mono (Kd.R_far (p := ⟨go55, 0, none⟩) (Kd.R_mono HO253.out (fun k_ hk => (⟨hk, fun e_ => hk.2 (by rw [e_]; rfl)⟩ : _ ∧ k_ ≠ go55))) (fun _ hk => hk.2) (.int .i64 t254)) (fun _ hk => hk.1.2)⟩
         have n2_ : Aside0 ((w65.setCell ⟨go55, 0, none⟩ (.int .i64 t254)).heap[gb219]? = some (.cells #[.int .i64 0, .slice none 0 0] 28 (0, 0))) := ⟨by (with_reducible repeat (first | refine blk_drewN ?_ _ | refine blk_drew ?_ | refine blk_alloc ?_ _)); refine blk_far ?_ (by have h_ := Kd.R_ne HO_227001.out BK219.out (by decide); intro e_; exact h_ (by rw [e_]; rfl)) _; (with_reducible repeat (first | refine blk_drewN ?_ _ | refine blk_drew ?_ | refine blk_alloc ?_ _)); exact BK219.out⟩
         have n3_ : Aside0 ((w65.setCell ⟨go55, 0, none⟩ (.int .i64 t254)).heap[gb226]? = some (.cells #[.int .i64 (wrap64 (1000 + t220)), .slice (some ⟨go55, 0, none⟩) x227001_1.length co60] 28 (0, 0))) := ⟨by (with_reducible repeat (first | refine blk_drewN ?_ _ | refine blk_drew ?_ | refine blk_alloc ?_ _)); refine blk_far ?_ (by have h_ := Kd.R_ne HO_227001.out BK226.out (by decide); intro e_; exact h_ (by rw [e_]; rfl)) _; (with_reducible repeat (first | refine blk_drewN ?_ _ | refine blk_drew ?_ | refine blk_alloc ?_ _)); exact BK226.out⟩
         have n4_ : Aside0 (IsS92 w0 (w65.setCell ⟨go55, 0, none⟩ (.int .i64 t254)) g s0_0 t255 t256) := ⟨zr8 HI0 HN0_go55 NB0_219 NB0_226⟩
         have n5_ : Aside0 (KeepBut w (w65.setCell ⟨go55, 0, none⟩ (.int .i64 t254)) g none) := ⟨zr9 HK GB55 GW219 GW226⟩
         have n6_ : Aside0 (Below w0.heap.size w0 (w65.setCell ⟨go55, 0, none⟩ (.int .i64 t254))) := ⟨zr10 HB HL GB55 HI0 GE219 GE226⟩
         (try clear HO_227001)
         (try clear HO253)
         (try clear BK219)
         (try clear BK226)
         (try clear HI0)
         (try clear HK)
         (try clear HB)
         generalize (w65.setCell ⟨go55, 0, none⟩ (.int .i64 t254)) = w67 at n0_ n1_ n2_ n3_ n4_ n5_ n6_ ⊢
         have HO_227001 := n0_
         have HO253 := n1_
         have BK219 := n2_
         have BK226 := n3_
         have HI0 := n4_
         have HK := n5_
         have HB := n6_
         clear n0_ n1_ n2_ n3_ n4_ n5_ n6_
         have hcz68 := zc2 BK226
         have hnb69 := NB219_0.out
         have hnc69 := NB0_219.out
         have hcz70 := zc2 BK219
         try go_wp2
         refine jX (results_cell_row rfl _ _ gb219 28 #[.int .i64 (wrap64 (1000 + t220)), .slice (some ⟨go55, 0, none⟩) x227001_1.length co60] (0, 0) _ rfl (zP0 BK219) Try.underlying28 rfl zr) rfl ?_
         exact ⟨_, ze, zT HO_227001 BK219, zr6 HI0 NB0_219 NB0_226, zr7 HB HI0 GE219 GE226, zh2 HK GW219 GW226⟩
        ·rw [if_neg c54] at H
         exact absurd H (by simp)
       ·rw [if_neg c52] at H
        have c52b0 : decide (0 < (x227001_1.length : Int)) = false := jQ c52
        have c52b1 : decide (0 < x227001_1.length) = false := jQ (by omega)
        clear c52
        simp only [jN, jO] at H
        obtain ⟨rfl, rfl, rfl, rfl⟩ := H
        go_wp2_with (first | ((with_reducible refine jD (f := 79) rfl ?_); refine zL (some 29) Try.func79 #[.pointer (some ⟨g, 0, none⟩), .int .i64 30] ?_; (with_reducible refine (spec_l01Next.calls g s0_0 x1001_1 x1002_1 30 t239 t240 t241 w0 _ ?side1 ?side2 A26.out).mono ?_); (case side1 => exact zr6 HI0 NB0_219 NB0_226); (case side2 => exact zr7 HB HI0 GE219 GE226); rintro e w71 ⟨rfl, hi, hb, hk⟩; refine ⟨_, rfl, ?_⟩; replace HO_227001 := jA (Kd.R_mono (Kd.R_keep (IsS92.apart (show IsS92 w0 _ g s0_0 x1001_1 x1002_1 from zr6 HI0 NB0_219 NB0_226) (zo HO_227001) (by decide)) hk (fun _ h => h.2)) (fun _ h => h.1)); replace BK219 := zK hk BK219 NB219_0; replace BK226 := zK hk BK226 NB226_0; replace HK := jA (KeepBut.trans (zh2 HK GW219 GW226) hk (.inl rfl)); replace HB := jA (hb); replace HI0 := jA (hi); (try clear hb); (try clear hb2); (try clear hk); (try clear hi); have hnb72 := NB226_219.out; have hnc72 := NB219_226.out; have hnb73 := NB226_0.out; have hnc73 := NB0_226.out; have hcz74 := zc2 BK226; obtain ⟨Ao75, co75, eo75⟩ := Kd.R_slice HO_227001.out; subst eo75; have hnb76 := NB219_0.out; have hnc76 := NB0_219.out; have hcz77 := zc2 BK219))
        refine jX (results_cell_row rfl _ _ gb219 28 #[.int .i64 (wrap64 (1000 + t220)), .slice Ao75 x227001_1.length co75] (0, 0) _ rfl (zP0 BK219) Try.underlying28 rfl zr) rfl ?_
        exact ⟨_, ze, zT HO_227001 BK219, zr6 HI0 NB0_219 NB0_226, zr7 HB HI0 GE219 GE226, zh2 HK GW219 GW226⟩
      ·rw [if_neg c51] at H
       have c51b0 : (t239 == 2) = false := beq_eq_false_iff_ne.mpr c51
       have c51b1 : (t239 != 2) = true := bne_iff_ne.mpr c51
       simp only [jN, jO] at H
       obtain ⟨rfl, rfl, rfl, rfl⟩ := H
       go_wp2_with (first | ((with_reducible refine jD (f := 79) rfl ?_); refine zL (some 29) Try.func79 #[.pointer (some ⟨g, 0, none⟩), .int .i64 30] ?_; (with_reducible refine (spec_l01Next.calls g s0_0 x1001_1 x1002_1 30 t239 t240 t241 w0 _ ?side1 ?side2 A26.out).mono ?_); (case side1 => exact zr6 HI0 NB0_219 NB0_226); (case side2 => exact zr7 HB HI0 GE219 GE226); rintro e w78 ⟨rfl, hi, hb, hk⟩; refine ⟨_, rfl, ?_⟩; replace HO_227001 := jA (Kd.R_mono (Kd.R_keep (IsS92.apart (show IsS92 w0 _ g s0_0 x1001_1 x1002_1 from zr6 HI0 NB0_219 NB0_226) (zo HO_227001) (by decide)) hk (fun _ h => h.2)) (fun _ h => h.1)); replace BK219 := zK hk BK219 NB219_0; replace BK226 := zK hk BK226 NB226_0; replace HK := jA (KeepBut.trans (zh2 HK GW219 GW226) hk (.inl rfl)); replace HB := jA (hb); replace HI0 := jA (hi); (try clear hb); (try clear hb2); (try clear hk); (try clear hi); have hnb79 := NB226_219.out; have hnc79 := NB219_226.out; have hnb80 := NB226_0.out; have hnc80 := NB0_226.out; have hcz81 := zc2 BK226; have hnb82 := NB219_0.out; have hnc82 := NB0_219.out; have hcz83 := zc2 BK219; obtain ⟨Ao84, co84, eo84⟩ := Kd.R_slice HO_227001.out; subst eo84))
       refine jX (results_cell_row rfl _ _ gb219 28 #[.int .i64 (wrap64 (1000 + t220)), .slice Ao84 x227001_1.length co84] (0, 0) _ rfl (zP0 BK219) Try.underlying28 rfl zr) rfl ?_
       exact ⟨_, ze, zT HO_227001 BK219, zr6 HI0 NB0_219 NB0_226, zr7 HB HI0 GE219 GE226, zh2 HK GW219 GW226⟩

end Go.Proofs.Ytdgglhfnlljmeaa.PFnMagazines
