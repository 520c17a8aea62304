/- Functions and contracts that FnStops reaches (9 of 14). -/
import Derived.Test.YtddejaomlnldiaaQFnStopsx7
namespace Go.Proofs.Ytddejaomlnldiaa.PFnStops
open Go.RowKit Go.Proofs.YtddejaomlnldiaaW.PrintWords Go.Proofs.YtddejaomlnldiaaW.PrintLast Go.Proofs.YtddejaomlnldiaaW.PrintMore
attribute [local go_sem] max2_int min2_int max_two min_two max_three min_three max_four min_four   -- for this text's walks alone
set_option linter.unusedVariables false
set_option linter.unusedSimpArgs false

/-! ### spec_l12Draw: function 64 -/
def spec_l12Draw.l0 : Nat → List (S63) → List Int → Int → Int → Option ((List (S63)) × Int × Int)
 | 0, _, _, _, _ => none
 | k + 1, x3, x1000, x1001, x1002 => (spec_l01Next.f x1000 x1001 x1002 2).bind fun bt282 => (if (x3.length : Int) < (wrap64 (12 + bt282.1)) then (if x3.length < 8796093022208 then (spec_l12Draw.l0 k (x3 ++ [(⟨0, 1⟩ : S63)]) x1000 bt282.2.1 bt282.2.2) else (none)) else (some (x3, bt282.2.1, bt282.2.2)))
def spec_l12Draw.f (k : Nat) (s0_0 : List Int) (s0_1 : Int) (s0_2 : Int) : Option ((List (S63)) × Int × Int) := (spec_l12Good.f k s0_0 s0_1 s0_2).bind fun bt257 => ((spec_l01Next.f s0_0 bt257.2.1 bt257.2.2 (bt257.1.length : Int)).bind fun bt262 => ((spec_l01Next.f s0_0 bt262.2.1 bt262.2.2 40).bind fun bt265 => (if bt265.1 = 0 then ((spec_l01Pick.f s0_0 bt265.2.1 bt265.2.2 (([bt262.1, wrap64 (bt262.1 - 1), (-1), (-2)] : List Int))).bind fun bt271 => (if 0 ≤ bt262.1 then (if bt262.1 < (bt257.1.length : Int) then (some ((bt257.1.set (bt262.1 : Int).toNat (⟨bt271.1, (rd_T63 bt257.1 bt262.1).f1⟩ : S63)), bt271.2.1, bt271.2.2)) else (none)) else (none))) else (if bt265.1 = 1 then ((spec_l01Pick.f s0_0 bt265.2.1 bt265.2.2 (([(-1), 32, 33] : List Int))).bind fun bt278 => (if 0 ≤ bt262.1 then (if bt262.1 < (bt257.1.length : Int) then (some ((bt257.1.set (bt262.1 : Int).toNat (⟨(rd_T63 bt257.1 bt262.1).f0, bt278.1⟩ : S63)), bt278.2.1, bt278.2.2)) else (none)) else (none))) else (if bt265.1 = 2 then (spec_l12Draw.l0 k bt257.1 s0_0 bt265.2.1 bt265.2.2) else (if bt265.1 = 3 then (if 0 ≤ (bt257.1.length : Int) then (some ((bt257.1.take (0 : Int).toNat), bt265.2.1, bt265.2.2)) else (none)) else (some (bt257.1, bt265.2.1, bt265.2.2))))))))
theorem spec_l12Draw.mono_l : ∀ k, (∀ y0 y1 y2 y3, LeO (spec_l12Draw.l0 k y0 y1 y2 y3) (spec_l12Draw.l0 (k + 1) y0 y1 y2 y3))
 | 0 => fun _ _ _ _ r h => by simp [spec_l12Draw.l0] at h
 | k + 1 => by
  have ih0 := spec_l12Draw.mono_l k
  ·intro y0 y1 y2 y3
   unfold spec_l12Draw.l0
   repeat' first
   | (with_reducible exact ih0 _ _ _ _)
   | (with_reducible exact spec_l12Good.mono _ _ _ _)
   | (with_reducible exact LeO.refl _)
   | (with_reducible exact LeO.none _)
   | (with_reducible refine LeO.ite ?_ ?_)
   | (with_reducible refine LeO.bind ?_ (fun _ => ?_))
   | exact ih0 _ _ _ _
   | exact spec_l12Good.mono _ _ _ _
   | exact LeO.none _
   | refine LeO.ite ?_ ?_
   | refine LeO.bind ?_ (fun _ => ?_)
theorem spec_l12Draw.mono : ∀ a0 a1 a2 k, LeO (spec_l12Draw.f k a0 a1 a2) (spec_l12Draw.f (k + 1) a0 a1 a2) := by
 intro a0 a1 a2 k
 have ih0 := spec_l12Draw.mono_l k
 unfold spec_l12Draw.f
 repeat' first
   | (with_reducible exact ih0 _ _ _ _)
   | (with_reducible exact spec_l12Good.mono _ _ _ _)
   | (with_reducible exact LeO.refl _)
   | (with_reducible exact LeO.none _)
   | (with_reducible refine LeO.ite ?_ ?_)
   | (with_reducible refine LeO.bind ?_ (fun _ => ?_))
   | exact ih0 _ _ _ _
   | exact spec_l12Good.mono _ _ _ _
   | exact LeO.none _
   | refine LeO.ite ?_ ?_
   | refine LeO.bind ?_ (fun _ => ?_)
set_option maxHeartbeats 8000000 in
set_option maxRecDepth 100000 in
theorem spec_l12Draw.calls (k : Nat) (g : Nat) (s0_0 : List Int) (s0_1 : Int) (s0_2 : Int) (r1 : List (S63)) (r2 : Int) (r3 : Int) (w0 w : World) (hI : IsS91 w0 w g s0_0 s0_1 s0_2) (hB : Below w0.heap.size w0 w) (h : spec_l12Draw.f k s0_0 s0_1 s0_2 = some (r1, r2, r3)) :
  Calls Try.prog 64 #[.pointer (some ⟨g, 0, none⟩)] w fun e w' => ∃ v0_ : Value, e = .returned (v0_) ∧ Kd.R k63 63 w' w.heap.size (fun _ => True) v0_ r1 ∧ IsS91 w0 w' g s0_0 r2 r3 ∧ Below w0.heap.size w0 w' ∧ KeepBut w w' g none := by
 have hu63 := Try.underlying63
 have HI0 := jA hI
 have HK := jA (KeepBut.refl w g none)
 have HL := jA hB.size
 clear hI
 have HW0 := jA hB.size
 have HB := jA hB
 clear hB
 have H : ((spec_l12Good.f k s0_0 s0_1 s0_2).bind fun bt257 => ((spec_l01Next.f s0_0 bt257.2.1 bt257.2.2 (bt257.1.length : Int)).bind fun bt262 => ((spec_l01Next.f s0_0 bt262.2.1 bt262.2.2 40).bind fun bt265 => (if bt265.1 = 0 then ((spec_l01Pick.f s0_0 bt265.2.1 bt265.2.2 (([bt262.1, wrap64 (bt262.1 - 1), (-1), (-2)] : List Int))).bind fun bt271 => (if 0 ≤ bt262.1 then (if bt262.1 < (bt257.1.length : Int) then (some ((bt257.1.set (bt262.1 : Int).toNat (⟨bt271.1, (rd_T63 bt257.1 bt262.1).f1⟩ : S63)), bt271.2.1, bt271.2.2)) else (none)) else (none))) else (if bt265.1 = 1 then ((spec_l01Pick.f s0_0 bt265.2.1 bt265.2.2 (([(-1), 32, 33] : List Int))).bind fun bt278 => (if 0 ≤ bt262.1 then (if bt262.1 < (bt257.1.length : Int) then (some ((bt257.1.set (bt262.1 : Int).toNat (⟨(rd_T63 bt257.1 bt262.1).f0, bt278.1⟩ : S63)), bt278.2.1, bt278.2.2)) else (none)) else (none))) else (if bt265.1 = 2 then (spec_l12Draw.l0 k bt257.1 s0_0 bt265.2.1 bt265.2.2) else (if bt265.1 = 3 then (if 0 ≤ (bt257.1.length : Int) then (some ((bt257.1.take (0 : Int).toNat), bt265.2.1, bt265.2.2)) else (none)) else (some (bt257.1, bt265.2.1, bt265.2.2))))))))) = some (r1, r2, r3) := h
 clear h
 replace H := jD.mp H
 obtain ⟨⟨t257, t260, t261⟩, A20, H⟩ := H
 replace H : ((spec_l01Next.f s0_0 t260 t261 (t257.length : Int)).bind fun bt262 => ((spec_l01Next.f s0_0 bt262.2.1 bt262.2.2 40).bind fun bt265 => (if bt265.1 = 0 then ((spec_l01Pick.f s0_0 bt265.2.1 bt265.2.2 (([bt262.1, wrap64 (bt262.1 - 1), (-1), (-2)] : List Int))).bind fun bt271 => (if 0 ≤ bt262.1 then (if bt262.1 < (t257.length : Int) then (some ((t257.set (bt262.1 : Int).toNat (⟨bt271.1, (rd_T63 t257 bt262.1).f1⟩ : S63)), bt271.2.1, bt271.2.2)) else (none)) else (none))) else (if bt265.1 = 1 then ((spec_l01Pick.f s0_0 bt265.2.1 bt265.2.2 (([(-1), 32, 33] : List Int))).bind fun bt278 => (if 0 ≤ bt262.1 then (if bt262.1 < (t257.length : Int) then (some ((t257.set (bt262.1 : Int).toNat (⟨(rd_T63 t257 bt262.1).f0, bt278.1⟩ : S63)), bt278.2.1, bt278.2.2)) else (none)) else (none))) else (if bt265.1 = 2 then (spec_l12Draw.l0 k t257 s0_0 bt265.2.1 bt265.2.2) else (if bt265.1 = 3 then (if 0 ≤ (t257.length : Int) then (some ((t257.take (0 : Int).toNat), bt265.2.1, bt265.2.2)) else (none)) else (some (t257, bt265.2.1, bt265.2.2)))))))) = some (r1, r2, r3) := H
 have A2 := jA A20
 clear A20
 replace H := jD.mp H
 obtain ⟨⟨t262, t263, t264⟩, A30, H⟩ := H
 replace H : ((spec_l01Next.f s0_0 t263 t264 40).bind fun bt265 => (if bt265.1 = 0 then ((spec_l01Pick.f s0_0 bt265.2.1 bt265.2.2 (([t262, wrap64 (t262 - 1), (-1), (-2)] : List Int))).bind fun bt271 => (if 0 ≤ t262 then (if t262 < (t257.length : Int) then (some ((t257.set (t262 : Int).toNat (⟨bt271.1, (rd_T63 t257 t262).f1⟩ : S63)), bt271.2.1, bt271.2.2)) else (none)) else (none))) else (if bt265.1 = 1 then ((spec_l01Pick.f s0_0 bt265.2.1 bt265.2.2 (([(-1), 32, 33] : List Int))).bind fun bt278 => (if 0 ≤ t262 then (if t262 < (t257.length : Int) then (some ((t257.set (t262 : Int).toNat (⟨(rd_T63 t257 t262).f0, bt278.1⟩ : S63)), bt278.2.1, bt278.2.2)) else (none)) else (none))) else (if bt265.1 = 2 then (spec_l12Draw.l0 k t257 s0_0 bt265.2.1 bt265.2.2) else (if bt265.1 = 3 then (if 0 ≤ (t257.length : Int) then (some ((t257.take (0 : Int).toNat), bt265.2.1, bt265.2.2)) else (none)) else (some (t257, bt265.2.1, bt265.2.2))))))) = some (r1, r2, r3) := H
 have A3 := jA A30
 clear A30
 replace H := jD.mp H
 obtain ⟨⟨t265, t266, t267⟩, A40, H⟩ := H
 replace H : (if t265 = 0 then ((spec_l01Pick.f s0_0 t266 t267 (([t262, wrap64 (t262 - 1), (-1), (-2)] : List Int))).bind fun bt271 => (if 0 ≤ t262 then (if t262 < (t257.length : Int) then (some ((t257.set (t262 : Int).toNat (⟨bt271.1, (rd_T63 t257 t262).f1⟩ : S63)), bt271.2.1, bt271.2.2)) else (none)) else (none))) else (if t265 = 1 then ((spec_l01Pick.f s0_0 t266 t267 (([(-1), 32, 33] : List Int))).bind fun bt278 => (if 0 ≤ t262 then (if t262 < (t257.length : Int) then (some ((t257.set (t262 : Int).toNat (⟨(rd_T63 t257 t262).f0, bt278.1⟩ : S63)), bt278.2.1, bt278.2.2)) else (none)) else (none))) else (if t265 = 2 then (spec_l12Draw.l0 k t257 s0_0 t266 t267) else (if t265 = 3 then (if 0 ≤ (t257.length : Int) then (some ((t257.take (0 : Int).toNat), t266, t267)) else (none)) else (some (t257, t266, t267)))))) = some (r1, r2, r3) := H
 have A4 := jA A40
 clear A40
 by_cases c5 : t265 = 0
 ·rw [if_pos c5] at H
  have c5b0 : (t265 == 0) = true := beq_iff_eq.mpr c5
  have c5b1 : (t265 != 0) = false := bne_eq_false_iff_eq.mpr c5
  clear c5
  obtain ⟨y268, hy268⟩ : ∃ y_ : List Int, y_ = (([t262, wrap64 (t262 - 1), (-1), (-2)] : List Int)) := ⟨_, rfl⟩
  replace H : ((spec_l01Pick.f s0_0 t266 t267 y268).bind fun bt271 => (if 0 ≤ t262 then (if t262 < (t257.length : Int) then (some ((t257.set (t262 : Int).toNat (⟨bt271.1, (rd_T63 t257 t262).f1⟩ : S63)), bt271.2.1, bt271.2.2)) else (none)) else (none))) = some (r1, r2, r3) := by first | (rw [hy268]; with_reducible exact H) | (have H2_ := (Option.bind_some _ _).symm.trans H; rw [hy268]; with_reducible exact H2_) | (have H2_ := (Option.bind_some _ _).symm.trans H; with_reducible exact H2_) | with_reducible exact H | (rw [hy268]; exact H) | exact H
  have Ny268 := jA hy268
  clear hy268
  replace H := jD.mp H
  obtain ⟨⟨t271, t272, t273⟩, A60, H⟩ := H
  replace H : (if 0 ≤ t262 then (if t262 < (t257.length : Int) then (some ((t257.set (t262 : Int).toNat (⟨t271, (rd_T63 t257 t262).f1⟩ : S63)), t272, t273)) else (none)) else (none)) = some (r1, r2, r3) := H
  have A6 := jA A60
  clear A60
  by_cases c7 : 0 ≤ t262
  ·rw [if_pos c7] at H
   have c7b0 : decide (0 ≤ t262) = true := jP c7
   clear c7
   by_cases c8 : t262 < (t257.length : Int)
   ·rw [if_pos c8] at H
    have c8b0 : decide (t262 < (t257.length : Int)) = true := jP c8
    clear c8
    obtain ⟨y274, hy274⟩ : ∃ y_ : List (S63), y_ = (t257.set (t262 : Int).toNat (⟨t271, (rd_T63 t257 t262).f1⟩ : S63)) := ⟨_, rfl⟩
    replace H : (some (y274, t272, t273)) = some (r1, r2, r3) := by first | (rw [hy274]; with_reducible exact H) | (have H2_ := (Option.bind_some _ _).symm.trans H; rw [hy274]; with_reducible exact H2_) | (have H2_ := (Option.bind_some _ _).symm.trans H; with_reducible exact H2_) | with_reducible exact H | (rw [hy274]; exact H) | exact H
    have Ny274 := jA hy274
    clear hy274
    simp only [je, jg] at H
    obtain ⟨rfl, rfl, rfl⟩ := H
    go_enter Try.func64, Try.ntmps64
    go_wp2_with (first | ((with_reducible refine jN (f := 84) rfl ?_); refine goesL_ (some 6) rfl rfl Try.func84 zr rfl #[.pointer (some ⟨g, 0, none⟩)] rfl zm ?_; (with_reducible refine (spec_l12Good.calls k g s0_0 s0_1 s0_2 t257 t260 t261 w0 _ ?side1 ?side2 A2.out).mono ?_); (case side1 => repeat (first | (with_reducible first | exact HI0.out | apply IsS91.alloc | apply IsS91.drewN | apply IsS91.drew | apply IsS91.set_1 | apply IsS91.set_2) | exact HI0.out)); (case side2 => repeat (first | (with_reducible first | exact HB.out | apply jM | apply jE | apply jI | refine jL ?_ (IsS91.ge HI0.out)) | exact HB.out)); rintro e w10 ⟨v258, rfl, ho0, hi, hb, hk⟩; refine ⟨_, rfl, ?_⟩; have n0_ := jA (jf ho0 (keep_size (w := w) (g := g) (row := none) (zh0 HK))); have n1_ := jA (KeepBut.trans (zh0 HK) hk (.inl rfl)); have n2_ := jA (hb); have n3_ := jA (hi); clear HK; clear HB; clear HI0; have HO259 := n0_; have HK := n1_; have HB := n2_; have HI0 := n3_; clear n0_ n1_ n2_ n3_; (try clear hb); (try clear hb2); (try clear hk); (try clear hi); (try clear ho0); obtain ⟨Ao11, co11, eo11⟩ := Kd.R_slice HO259.out; subst eo11) | ((with_reducible refine jN (f := 66) rfl ?_); refine goesL_ (some 10) rfl rfl Try.func66 zr rfl #[.pointer (some ⟨g, 0, none⟩), .int .i64 (t257.length : Int)] rfl zm ?_; (with_reducible refine (spec_l01Next.calls g s0_0 t260 t261 (t257.length : Int) t262 t263 t264 w0 _ ?side1 ?side2 A3.out).mono ?_); (case side1 => repeat (first | (with_reducible first | exact HI0.out | apply IsS91.alloc | apply IsS91.drewN | apply IsS91.drew | apply IsS91.set_1 | apply IsS91.set_2) | exact HI0.out)); (case side2 => repeat (first | (with_reducible first | exact HB.out | apply jM | apply jE | apply jI | refine jL ?_ (IsS91.ge HI0.out)) | exact HB.out)); rintro e w12 ⟨rfl, hi, hb, hk⟩; refine ⟨_, rfl, ?_⟩; have n0_ := jA (Kd.R_mono (Kd.R_keep (IsS91.apart (show IsS91 w0 _ g s0_0 t260 t261 from by repeat (first | (with_reducible first | exact HI0.out | apply IsS91.alloc | apply IsS91.drewN | apply IsS91.drew | apply IsS91.set_1 | apply IsS91.set_2) | exact HI0.out)) (zo HO259) (by decide)) hk (fun _ h => h.2)) (fun _ h => h.1)); have n1_ := jA (KeepBut.trans (zh0 HK) hk (.inl rfl)); have n2_ := jA (hb); have n3_ := jA (hi); clear HO259; clear HK; clear HB; clear HI0; have HO259 := n0_; have HK := n1_; have HB := n2_; have HI0 := n3_; clear n0_ n1_ n2_ n3_; (try clear hb); (try clear hb2); (try clear hk); (try clear hi)) | ((with_reducible refine jN (f := 66) rfl ?_); refine goesL_ (some 12) rfl rfl Try.func66 zr rfl #[.pointer (some ⟨g, 0, none⟩), .int .i64 40] rfl zm ?_; (with_reducible refine (spec_l01Next.calls g s0_0 t263 t264 40 t265 t266 t267 w0 _ ?side1 ?side2 A4.out).mono ?_); (case side1 => repeat (first | (with_reducible first | exact HI0.out | apply IsS91.alloc | apply IsS91.drewN | apply IsS91.drew | apply IsS91.set_1 | apply IsS91.set_2) | exact HI0.out)); (case side2 => repeat (first | (with_reducible first | exact HB.out | apply jM | apply jE | apply jI | refine jL ?_ (IsS91.ge HI0.out)) | exact HB.out)); rintro e w13 ⟨rfl, hi, hb, hk⟩; refine ⟨_, rfl, ?_⟩; have n0_ := jA (Kd.R_mono (Kd.R_keep (IsS91.apart (show IsS91 w0 _ g s0_0 t263 t264 from by repeat (first | (with_reducible first | exact HI0.out | apply IsS91.alloc | apply IsS91.drewN | apply IsS91.drew | apply IsS91.set_1 | apply IsS91.set_2) | exact HI0.out)) (zo HO259) (by decide)) hk (fun _ h => h.2)) (fun _ h => h.1)); have n1_ := jA (KeepBut.trans (zh0 HK) hk (.inl rfl)); have n2_ := jA (hb); have n3_ := jA (hi); clear HO259; clear HK; clear HB; clear HI0; have HO259 := n0_; have HK := n1_; have HB := n2_; have HI0 := n3_; clear n0_ n1_ n2_ n3_; (try clear hb); (try clear hb2); (try clear hk); (try clear hi)) | ((with_reducible refine gate_dst (N := 21) rfl ?_); refine Kd.R_lit (Kd.int .i64) _ 2 ?hg (N := 21) ?hd (xs := ([t262, wrap64 (t262 - 1), (-1), (-2)] : List Int)) (inner := [.int .i64 t262, .int .i64 (wrap64 (t262 - 1)), .int .i64 (-1), .int .i64 (-2)]) (ok := fun _ => True) (okp := fun _ => True) ?hr ?hp (fun _ hk => hk) trivial (Below.refl _ _) (Nat.le_refl _) (by simp) ?_; (case hd => rfl); (case hg => rfl); (case hr => first | (go_simp; done) | (go_simp; rfl)); (case hp => exact (Reps.one (show Kd.M (Kd.int .i64) _ _ _ t262 [.int .i64 t262] from rfl) (Reps.one (show Kd.M (Kd.int .i64) _ _ _ (wrap64 (t262 - 1)) [.int .i64 (wrap64 (t262 - 1))] from rfl) (Reps.one (show Kd.M (Kd.int .i64) _ _ _ (-1) [.int .i64 (-1)] from rfl) (Reps.one (show Kd.M (Kd.int .i64) _ _ _ (-2) [.int .i64 (-2)] from rfl) (Reps.none _ _)))))); intro v269 w14 ho15 hb hg_ hnew_; clear hg_ hnew_; (first | rw [← Ny268.out] at ho15 | (simp only [Int.reduceToNat] at ho15; rw [← Ny268.out] at ho15)); have n0_ := jA (jZ (zo HO259) hb); have n1_ := jA (jf ho15 (keep_size (w := w) (g := g) (row := none) (zh0 HK))); have n2_ := jA (IsS91.below (by repeat (first | (with_reducible first | exact HI0.out | apply IsS91.alloc | apply IsS91.drewN | apply IsS91.drew | apply IsS91.set_1 | apply IsS91.set_2) | exact HI0.out)) hb); have n3_ := jA (KeepBut.trans (zh0 HK) (KeepBut.of_below hb g none) (.inl rfl)); have n4_ := jA (jV (by repeat (first | (with_reducible first | exact HB.out | apply jM | apply jE | apply jI | refine jL ?_ (IsS91.ge HI0.out)) | exact HB.out)) hb); clear HO259; clear HI0; clear HK; clear HB; have HO259 := n0_; have HO270 := n1_; have HI0 := n2_; have HK := n3_; have HB := n4_; clear n0_ n1_ n2_ n3_ n4_; clear hb ho15; obtain ⟨Ao16, co16, eo16⟩ := Kd.R_slice HO270.out; subst eo16) | ((with_reducible refine jN (f := 65) rfl ?_); refine goesL_ (some 22) rfl rfl Try.func65 zr rfl #[.pointer (some ⟨g, 0, none⟩), .slice Ao16 y268.length co16] rfl zm ?_; (with_reducible refine (spec_l01Pick.calls g s0_0 t266 t267 _ _ y268 t271 t272 t273 w0 _ ?side1 ?side2 ?side3 ?side4 ?side5 A6.out).mono ?_); (case side1 => repeat (first | (with_reducible first | exact HI0.out | apply IsS91.alloc | apply IsS91.drewN | apply IsS91.drew | apply IsS91.set_1 | apply IsS91.set_2) | exact HI0.out)); (case side2 => repeat (first | (with_reducible first | exact HB.out | apply jM | apply jE | apply jI | refine jL ?_ (IsS91.ge HI0.out)) | exact HB.out)); (case side3 => repeat (first | exact (jJ HO270.out).2.2 | (with_reducible refine jR ?_ _) | (with_reducible refine jQ ?_ _) | (with_reducible refine jS ?_))); (case side4 => exact (jJ HO270.out).2.1); (case side5 => exact far_slice (IsS91.own_ne HI0.out HO270.out (by decide))); rintro e w17 ⟨rfl, hi, hb, hk⟩; refine ⟨_, rfl, ?_⟩; have n0_ := jA (Kd.R_mono (Kd.R_keep (IsS91.apart (show IsS91 w0 _ g s0_0 t266 t267 from by repeat (first | (with_reducible first | exact HI0.out | apply IsS91.alloc | apply IsS91.drewN | apply IsS91.drew | apply IsS91.set_1 | apply IsS91.set_2) | exact HI0.out)) (zo HO259) (by decide)) hk (fun _ h => h.2)) (fun _ h => h.1)); have n1_ := jA (Kd.R_mono (Kd.R_keep (IsS91.apart (show IsS91 w0 _ g s0_0 t266 t267 from by repeat (first | (with_reducible first | exact HI0.out | apply IsS91.alloc | apply IsS91.drewN | apply IsS91.drew | apply IsS91.set_1 | apply IsS91.set_2) | exact HI0.out)) (zo HO270) (by decide)) hk (fun _ h => h.2)) (fun _ h => h.1)); have n2_ := jA (KeepBut.trans (zh0 HK) hk (.inl rfl)); have n3_ := jA (hb); have n4_ := jA (hi); clear HO259; clear HO270; clear HK; clear HB; clear HI0; have HO259 := n0_; have HO270 := n1_; have HK := n2_; have HB := n3_; have HI0 := n4_; clear n0_ n1_ n2_ n3_ n4_; (try clear hb); (try clear hb2); (try clear hk); (try clear hi); have p9 : 0 ≤ (t262 : Int) := jB za; have q9 : (t262 : Int) < ((t257.length : Int) : Int) := jB za; obtain ⟨go9, co9, eo9, gb9, gl9, cl9, HG9⟩ := Kd.R_form HO259.out (by omega); (first | cases eo9 | (injection eo9 with ea_ en_ ec_; (first | subst ea_ | (injection ea_ with ea_; subst ea_)); subst ec_; clear en_)); have GB9 := jA gb9; have GG9 := jA HG9; clear gb9 gl9 HG9; obtain ⟨ce9, hcl9, hM9, hcc9, hfr9⟩ := Kd.R_elem HO259.out z63 (t262 : Int) p9 q9; obtain rfl := k63_openM hM9; have hx9_0 : w17.cell? ⟨go9, (t262 : Int).toNat * 2, none⟩ = some (.int .i64 ((rd_T63 t257 t262).f0)) := hcc9 0 _ rfl; have hx9_1 : w17.cell? ⟨go9, (t262 : Int).toNat * 2 + 1, none⟩ = some (.int .i64 ((rd_T63 t257 t262).f1)) := hcc9 1 _ rfl; have hf9_0 : w17.frozen? ⟨go9, (t262 : Int).toNat * 2, none⟩ = false := hfr9 0; have hf9_1 : w17.frozen? ⟨go9, (t262 : Int).toNat * 2 + 1, none⟩ = false := hfr9 1; clear hcl9 hcc9 hfr9 hM9; replace p9 := eq_true p9; replace q9 := eq_true q9; have HX18 := jA (show Kd.R k63 63 w17 w.heap.size (fun _ => True) (.slice (some ⟨go9, 0, none⟩) t257.length co11) t257 from (zo HO259)); obtain ⟨ce18, hcl18, hM18, hcc18, hfr18⟩ := Kd.R_elem HX18.out z63 (t262 : Int) (jB za) (by have h_ : (t262 : Int) < ((t257.length : Int) : Int) := jB za; first | exact h_ | (have e_ := (jJ HO259.out).1; omega) | simpa using h_); obtain rfl := k63_openM hM18; have HP18 := Kd.R_seg HX18.out (t262 : Int) (jB za) (by have h_ : (t262 : Int) < ((t257.length : Int) : Int) := jB za; first | exact h_ | (have e_ := (jJ HO259.out).1; omega) | simpa using h_) (seg := [.int .i64 t271]) (j := 0) hcl18 hcc18 (show 1 ≤ 2 from by decide) (x' := (⟨t271, (rd_T63 t257 t262).f1⟩ : S63)) (k63_mkM _ _ _ (⟨t271, (rd_T63 t257 t262).f1⟩ : S63) ) (fun _ hk => hk); have hx18_0 := hcc18 0 _ rfl; (try simp only [show (k63).sz = 2 from rfl, Nat.mul_one, Nat.add_zero] at hx18_0); have hf18_0 := hfr18 0; (try simp only [show (k63).sz = 2 from rfl, Nat.mul_one, Nat.add_zero] at hf18_0); clear hcl18 hcc18 hfr18 hM18) | ((with_reducible refine gate_store (t := 2) (p := 24) rfl ?_); refine store_event (t := 2) (p := 24) (v := ?vo_w19) (w1 := (w17.setCell ⟨go9, (t262 : Int).toNat * 2, none⟩ (.int .i64 t271))) ?hg ?ho ?hn ?hr ?_; (case ho => rfl); (case hg => rfl); (case hn => rfl); (case hr => first | (go_simp; done) | (go_simp; rfl)); intro w19 hw; have hg : w17.grownBy w19 (some go9) := (by rw [hw]; exact HP18.2); have hp_ : Kd.R k63 63 w19 w.heap.size (fun _ => True) (.slice (some ⟨go9, 0, none⟩) t257.length co11) y274 := (by rw [hw, Ny274.out]; exact HP18.1); clear HP18; have n0_ := jA (IsS91.grown (by repeat (first | (with_reducible first | exact HI0.out | apply IsS91.alloc | apply IsS91.drewN | apply IsS91.drew | apply IsS91.set_1 | apply IsS91.set_2) | exact HI0.out)) hg (IsS91.own_ne HI0.out HO259.out (by decide))); have n1_ := jA (hp_); have n2_ := jA (Kd.R_over' (v := (.slice (some ⟨go9, 0, none⟩) t257.length co11)) (zo HO270) (Kd.R_typed HO259.out) (by decide) hg); have n3_ := jA ((by rw [hw]; exact jL (HB.out) (Nat.le_trans HL.out GB9.out) : Below w0.heap.size w0 w19)); have n4_ := jA (KeepBut.trans (zh0 HK) (KeepBut.of_grown hg g) (Kd.R_base2 HO259.out)); clear HI0; clear HO259; clear HO270; clear HB; clear HK; have HI0 := n0_; have HO259 := n1_; have HO270 := n2_; have HB := n3_; have HK := n4_; clear n0_ n1_ n2_ n3_ n4_; clear hg hw hp_))
    go_ret
    exact ⟨_, by first | rfl | (simp [errW_none, errW_some] <;> rfl) | (simp [*, errW_none, errW_some] <;> rfl), by (with_reducible repeat (first | apply jH | apply jG | apply jK)); exact HO259.out, by repeat (first | (with_reducible first | exact HI0.out | apply IsS91.alloc | apply IsS91.drewN | apply IsS91.drew | apply IsS91.set_1 | apply IsS91.set_2) | exact HI0.out), by repeat (first | (with_reducible first | exact HB.out | apply jM | apply jE | apply jI | refine jL ?_ (IsS91.ge HI0.out)) | exact HB.out), zh0 HK⟩
   ·rw [if_neg c8] at H
    exact absurd H (by simp)
  ·rw [if_neg c7] at H
   exact absurd H (by simp)
 ·rw [if_neg c5] at H
  have c5b0 : (t265 == 0) = false := beq_eq_false_iff_ne.mpr c5
  have c5b1 : (t265 != 0) = true := bne_iff_ne.mpr c5
  by_cases c20 : t265 = 1
  ·rw [if_pos c20] at H
   have c20b0 : (t265 == 1) = true := beq_iff_eq.mpr c20
   have c20b1 : (t265 != 1) = false := bne_eq_false_iff_eq.mpr c20
   clear c20
   obtain ⟨y275, hy275⟩ : ∃ y_ : List Int, y_ = (([(-1), 32, 33] : List Int)) := ⟨_, rfl⟩
   replace H : ((spec_l01Pick.f s0_0 t266 t267 y275).bind fun bt278 => (if 0 ≤ t262 then (if t262 < (t257.length : Int) then (some ((t257.set (t262 : Int).toNat (⟨(rd_T63 t257 t262).f0, bt278.1⟩ : S63)), bt278.2.1, bt278.2.2)) else (none)) else (none))) = some (r1, r2, r3) := by first | (rw [hy275]; with_reducible exact H) | (have H2_ := (Option.bind_some _ _).symm.trans H; rw [hy275]; with_reducible exact H2_) | (have H2_ := (Option.bind_some _ _).symm.trans H; with_reducible exact H2_) | with_reducible exact H | (rw [hy275]; exact H) | exact H
   have Ny275 := jA hy275
   clear hy275
   replace H := jD.mp H
   obtain ⟨⟨t278, t279, t280⟩, A210, H⟩ := H
   replace H : (if 0 ≤ t262 then (if t262 < (t257.length : Int) then (some ((t257.set (t262 : Int).toNat (⟨(rd_T63 t257 t262).f0, t278⟩ : S63)), t279, t280)) else (none)) else (none)) = some (r1, r2, r3) := H
   have A21 := jA A210
   clear A210
   by_cases c22 : 0 ≤ t262
   ·rw [if_pos c22] at H
    have c22b0 : decide (0 ≤ t262) = true := jP c22
    clear c22
    by_cases c23 : t262 < (t257.length : Int)
    ·rw [if_pos c23] at H
     have c23b0 : decide (t262 < (t257.length : Int)) = true := jP c23
     clear c23
     obtain ⟨y281, hy281⟩ : ∃ y_ : List (S63), y_ = (t257.set (t262 : Int).toNat (⟨(rd_T63 t257 t262).f0, t278⟩ : S63)) := ⟨_, rfl⟩
     replace H : (some (y281, t279, t280)) = some (r1, r2, r3) := by first | (rw [hy281]; with_reducible exact H) | (have H2_ := (Option.bind_some _ _).symm.trans H; rw [hy281]; with_reducible exact H2_) | (have H2_ := (Option.bind_some _ _).symm.trans H; with_reducible exact H2_) | with_reducible exact H | (rw [hy281]; exact H) | exact H
     have Ny281 := jA hy281
     clear hy281
     simp only [je, jg] at H
     obtain ⟨rfl, rfl, rfl⟩ := H
     go_enter Try.func64, Try.ntmps64
     go_wp2_with (first | ((with_reducible refine jN (f := 84) rfl ?_); refine goesL_ (some 6) rfl rfl Try.func84 zr rfl #[.pointer (some ⟨g, 0, none⟩)] rfl zm ?_; (with_reducible refine (spec_l12Good.calls k g s0_0 s0_1 s0_2 t257 t260 t261 w0 _ ?side1 ?side2 A2.out).mono ?_); (case side1 => repeat (first | (with_reducible first | exact HI0.out | apply IsS91.alloc | apply IsS91.drewN | apply IsS91.drew | apply IsS91.set_1 | apply IsS91.set_2) | exact HI0.out)); (case side2 => repeat (first | (with_reducible first | exact HB.out | apply jM | apply jE | apply jI | refine jL ?_ (IsS91.ge HI0.out)) | exact HB.out)); rintro e w25 ⟨v258, rfl, ho0, hi, hb, hk⟩; refine ⟨_, rfl, ?_⟩; have n0_ := jA (jf ho0 (keep_size (w := w) (g := g) (row := none) (zh0 HK))); have n1_ := jA (KeepBut.trans (zh0 HK) hk (.inl rfl)); have n2_ := jA (hb); have n3_ := jA (hi); clear HK; clear HB; clear HI0; have HO259 := n0_; have HK := n1_; have HB := n2_; have HI0 := n3_; clear n0_ n1_ n2_ n3_; (try clear hb); (try clear hb2); (try clear hk); (try clear hi); (try clear ho0); obtain ⟨Ao26, co26, eo26⟩ := Kd.R_slice HO259.out; subst eo26) | ((with_reducible refine jN (f := 66) rfl ?_); refine goesL_ (some 10) rfl rfl Try.func66 zr rfl #[.pointer (some ⟨g, 0, none⟩), .int .i64 (t257.length : Int)] rfl zm ?_; (with_reducible refine (spec_l01Next.calls g s0_0 t260 t261 (t257.length : Int) t262 t263 t264 w0 _ ?side1 ?side2 A3.out).mono ?_); (case side1 => repeat (first | (with_reducible first | exact HI0.out | apply IsS91.alloc | apply IsS91.drewN | apply IsS91.drew | apply IsS91.set_1 | apply IsS91.set_2) | exact HI0.out)); (case side2 => repeat (first | (with_reducible first | exact HB.out | apply jM | apply jE | apply jI | refine jL ?_ (IsS91.ge HI0.out)) | exact HB.out)); rintro e w27 ⟨rfl, hi, hb, hk⟩; refine ⟨_, rfl, ?_⟩; have n0_ := jA (Kd.R_mono (Kd.R_keep (IsS91.apart (show IsS91 w0 _ g s0_0 t260 t261 from by repeat (first | (with_reducible first | exact HI0.out | apply IsS91.alloc | apply IsS91.drewN | apply IsS91.drew | apply IsS91.set_1 | apply IsS91.set_2) | exact HI0.out)) (zo HO259) (by decide)) hk (fun _ h => h.2)) (fun _ h => h.1)); have n1_ := jA (KeepBut.trans (zh0 HK) hk (.inl rfl)); have n2_ := jA (hb); have n3_ := jA (hi); clear HO259; clear HK; clear HB; clear HI0; have HO259 := n0_; have HK := n1_; have HB := n2_; have HI0 := n3_; clear n0_ n1_ n2_ n3_; (try clear hb); (try clear hb2); (try clear hk); (try clear hi)) | ((with_reducible refine jN (f := 66) rfl ?_); refine goesL_ (some 12) rfl rfl Try.func66 zr rfl #[.pointer (some ⟨g, 0, none⟩), .int .i64 40] rfl zm ?_; (with_reducible refine (spec_l01Next.calls g s0_0 t263 t264 40 t265 t266 t267 w0 _ ?side1 ?side2 A4.out).mono ?_); (case side1 => repeat (first | (with_reducible first | exact HI0.out | apply IsS91.alloc | apply IsS91.drewN | apply IsS91.drew | apply IsS91.set_1 | apply IsS91.set_2) | exact HI0.out)); (case side2 => repeat (first | (with_reducible first | exact HB.out | apply jM | apply jE | apply jI | refine jL ?_ (IsS91.ge HI0.out)) | exact HB.out)); rintro e w28 ⟨rfl, hi, hb, hk⟩; refine ⟨_, rfl, ?_⟩; have n0_ := jA (Kd.R_mono (Kd.R_keep (IsS91.apart (show IsS91 w0 _ g s0_0 t263 t264 from by repeat (first | (with_reducible first | exact HI0.out | apply IsS91.alloc | apply IsS91.drewN | apply IsS91.drew | apply IsS91.set_1 | apply IsS91.set_2) | exact HI0.out)) (zo HO259) (by decide)) hk (fun _ h => h.2)) (fun _ h => h.1)); have n1_ := jA (KeepBut.trans (zh0 HK) hk (.inl rfl)); have n2_ := jA (hb); have n3_ := jA (hi); clear HO259; clear HK; clear HB; clear HI0; have HO259 := n0_; have HK := n1_; have HB := n2_; have HI0 := n3_; clear n0_ n1_ n2_ n3_; (try clear hb); (try clear hb2); (try clear hk); (try clear hi)) | ((with_reducible refine gate_dst (N := 30) rfl ?_); refine Kd.R_lit (Kd.int .i64) _ 2 ?hg (N := 30) ?hd (xs := ([(-1), 32, 33] : List Int)) (inner := [.int .i64 (-1), .int .i64 32, .int .i64 33]) (ok := fun _ => True) (okp := fun _ => True) ?hr ?hp (fun _ hk => hk) trivial (Below.refl _ _) (Nat.le_refl _) (by simp) ?_; (case hd => rfl); (case hg => rfl); (case hr => first | (go_simp; done) | (go_simp; rfl)); (case hp => exact (Reps.one (show Kd.M (Kd.int .i64) _ _ _ (-1) [.int .i64 (-1)] from rfl) (Reps.one (show Kd.M (Kd.int .i64) _ _ _ 32 [.int .i64 32] from rfl) (Reps.one (show Kd.M (Kd.int .i64) _ _ _ 33 [.int .i64 33] from rfl) (Reps.none _ _))))); intro v276 w29 ho30 hb hg_ hnew_; clear hg_ hnew_; (first | rw [← Ny275.out] at ho30 | (simp only [Int.reduceToNat] at ho30; rw [← Ny275.out] at ho30)); have n0_ := jA (jZ (zo HO259) hb); have n1_ := jA (jf ho30 (keep_size (w := w) (g := g) (row := none) (zh0 HK))); have n2_ := jA (IsS91.below (by repeat (first | (with_reducible first | exact HI0.out | apply IsS91.alloc | apply IsS91.drewN | apply IsS91.drew | apply IsS91.set_1 | apply IsS91.set_2) | exact HI0.out)) hb); have n3_ := jA (KeepBut.trans (zh0 HK) (KeepBut.of_below hb g none) (.inl rfl)); have n4_ := jA (jV (by repeat (first | (with_reducible first | exact HB.out | apply jM | apply jE | apply jI | refine jL ?_ (IsS91.ge HI0.out)) | exact HB.out)) hb); clear HO259; clear HI0; clear HK; clear HB; have HO259 := n0_; have HO277 := n1_; have HI0 := n2_; have HK := n3_; have HB := n4_; clear n0_ n1_ n2_ n3_ n4_; clear hb ho30; obtain ⟨Ao31, co31, eo31⟩ := Kd.R_slice HO277.out; subst eo31) | ((with_reducible refine jN (f := 65) rfl ?_); refine goesL_ (some 31) rfl rfl Try.func65 zr rfl #[.pointer (some ⟨g, 0, none⟩), .slice Ao31 y275.length co31] rfl zm ?_; (with_reducible refine (spec_l01Pick.calls g s0_0 t266 t267 _ _ y275 t278 t279 t280 w0 _ ?side1 ?side2 ?side3 ?side4 ?side5 A21.out).mono ?_); (case side1 => repeat (first | (with_reducible first | exact HI0.out | apply IsS91.alloc | apply IsS91.drewN | apply IsS91.drew | apply IsS91.set_1 | apply IsS91.set_2) | exact HI0.out)); (case side2 => repeat (first | (with_reducible first | exact HB.out | apply jM | apply jE | apply jI | refine jL ?_ (IsS91.ge HI0.out)) | exact HB.out)); (case side3 => repeat (first | exact (jJ HO277.out).2.2 | (with_reducible refine jR ?_ _) | (with_reducible refine jQ ?_ _) | (with_reducible refine jS ?_))); (case side4 => exact (jJ HO277.out).2.1); (case side5 => exact far_slice (IsS91.own_ne HI0.out HO277.out (by decide))); rintro e w32 ⟨rfl, hi, hb, hk⟩; refine ⟨_, rfl, ?_⟩; have n0_ := jA (Kd.R_mono (Kd.R_keep (IsS91.apart (show IsS91 w0 _ g s0_0 t266 t267 from by repeat (first | (with_reducible first | exact HI0.out | apply IsS91.alloc | apply IsS91.drewN | apply IsS91.drew | apply IsS91.set_1 | apply IsS91.set_2) | exact HI0.out)) (zo HO259) (by decide)) hk (fun _ h => h.2)) (fun _ h => h.1)); have n1_ := jA (Kd.R_mono (Kd.R_keep (IsS91.apart (show IsS91 w0 _ g s0_0 t266 t267 from by repeat (first | (with_reducible first | exact HI0.out | apply IsS91.alloc | apply IsS91.drewN | apply IsS91.drew | apply IsS91.set_1 | apply IsS91.set_2) | exact HI0.out)) (zo HO277) (by decide)) hk (fun _ h => h.2)) (fun _ h => h.1)); have n2_ := jA (KeepBut.trans (zh0 HK) hk (.inl rfl)); have n3_ := jA (hb); have n4_ := jA (hi); clear HO259; clear HO277; clear HK; clear HB; clear HI0; have HO259 := n0_; have HO277 := n1_; have HK := n2_; have HB := n3_; have HI0 := n4_; clear n0_ n1_ n2_ n3_ n4_; (try clear hb); (try clear hb2); (try clear hk); (try clear hi); have p24 : 0 ≤ (t262 : Int) := jB za; have q24 : (t262 : Int) < ((t257.length : Int) : Int) := jB za; obtain ⟨go24, co24, eo24, gb24, gl24, cl24, HG24⟩ := Kd.R_form HO259.out (by omega); (first | cases eo24 | (injection eo24 with ea_ en_ ec_; (first | subst ea_ | (injection ea_ with ea_; subst ea_)); subst ec_; clear en_)); have GB24 := jA gb24; have GG24 := jA HG24; clear gb24 gl24 HG24; obtain ⟨ce24, hcl24, hM24, hcc24, hfr24⟩ := Kd.R_elem HO259.out z63 (t262 : Int) p24 q24; obtain rfl := k63_openM hM24; have hx24_0 : w32.cell? ⟨go24, (t262 : Int).toNat * 2, none⟩ = some (.int .i64 ((rd_T63 t257 t262).f0)) := hcc24 0 _ rfl; have hx24_1 : w32.cell? ⟨go24, (t262 : Int).toNat * 2 + 1, none⟩ = some (.int .i64 ((rd_T63 t257 t262).f1)) := hcc24 1 _ rfl; have hf24_0 : w32.frozen? ⟨go24, (t262 : Int).toNat * 2, none⟩ = false := hfr24 0; have hf24_1 : w32.frozen? ⟨go24, (t262 : Int).toNat * 2 + 1, none⟩ = false := hfr24 1; clear hcl24 hcc24 hfr24 hM24; replace p24 := eq_true p24; replace q24 := eq_true q24; have HX33 := jA (show Kd.R k63 63 w32 w.heap.size (fun _ => True) (.slice (some ⟨go24, 0, none⟩) t257.length co26) t257 from (zo HO259)); obtain ⟨ce33, hcl33, hM33, hcc33, hfr33⟩ := Kd.R_elem HX33.out z63 (t262 : Int) (jB za) (by have h_ : (t262 : Int) < ((t257.length : Int) : Int) := jB za; first | exact h_ | (have e_ := (jJ HO259.out).1; omega) | simpa using h_); obtain rfl := k63_openM hM33; have HP33 := Kd.R_seg HX33.out (t262 : Int) (jB za) (by have h_ : (t262 : Int) < ((t257.length : Int) : Int) := jB za; first | exact h_ | (have e_ := (jJ HO259.out).1; omega) | simpa using h_) (seg := [.int .i64 t278]) (j := 1) hcl33 hcc33 (show 2 ≤ 2 from by decide) (x' := (⟨(rd_T63 t257 t262).f0, t278⟩ : S63)) (k63_mkM _ _ _ (⟨(rd_T63 t257 t262).f0, t278⟩ : S63) ) (fun _ hk => hk); have hx33_1 := hcc33 1 _ rfl; (try simp only [show (k63).sz = 2 from rfl, Nat.mul_one, Nat.add_zero] at hx33_1); have hf33_1 := hfr33 1; (try simp only [show (k63).sz = 2 from rfl, Nat.mul_one, Nat.add_zero] at hf33_1); clear hcl33 hcc33 hfr33 hM33) | ((with_reducible refine gate_store (t := 2) (p := 33) rfl ?_); refine store_event (t := 2) (p := 33) (v := ?vo_w34) (w1 := (w32.setCell ⟨go24, (t262 : Int).toNat * 2 + 1, none⟩ (.int .i64 t278))) ?hg ?ho ?hn ?hr ?_; (case ho => rfl); (case hg => rfl); (case hn => rfl); (case hr => first | (go_simp; done) | (go_simp; rfl)); intro w34 hw; have hg : w32.grownBy w34 (some go24) := (by rw [hw]; exact HP33.2); have hp_ : Kd.R k63 63 w34 w.heap.size (fun _ => True) (.slice (some ⟨go24, 0, none⟩) t257.length co26) y281 := (by rw [hw, Ny281.out]; exact HP33.1); clear HP33; have n0_ := jA (IsS91.grown (by repeat (first | (with_reducible first | exact HI0.out | apply IsS91.alloc | apply IsS91.drewN | apply IsS91.drew | apply IsS91.set_1 | apply IsS91.set_2) | exact HI0.out)) hg (IsS91.own_ne HI0.out HO259.out (by decide))); have n1_ := jA (hp_); have n2_ := jA (Kd.R_over' (v := (.slice (some ⟨go24, 0, none⟩) t257.length co26)) (zo HO277) (Kd.R_typed HO259.out) (by decide) hg); have n3_ := jA ((by rw [hw]; exact jL (HB.out) (Nat.le_trans HL.out GB24.out) : Below w0.heap.size w0 w34)); have n4_ := jA (KeepBut.trans (zh0 HK) (KeepBut.of_grown hg g) (Kd.R_base2 HO259.out)); clear HI0; clear HO259; clear HO277; clear HB; clear HK; have HI0 := n0_; have HO259 := n1_; have HO277 := n2_; have HB := n3_; have HK := n4_; clear n0_ n1_ n2_ n3_ n4_; clear hg hw hp_))
     go_ret
     exact ⟨_, by first | rfl | (simp [errW_none, errW_some] <;> rfl) | (simp [*, errW_none, errW_some] <;> rfl), by (with_reducible repeat (first | apply jH | apply jG | apply jK)); exact HO259.out, by repeat (first | (with_reducible first | exact HI0.out | apply IsS91.alloc | apply IsS91.drewN | apply IsS91.drew | apply IsS91.set_1 | apply IsS91.set_2) | exact HI0.out), by repeat (first | (with_reducible first | exact HB.out | apply jM | apply jE | apply jI | refine jL ?_ (IsS91.ge HI0.out)) | exact HB.out), zh0 HK⟩
    ·rw [if_neg c23] at H
     exact absurd H (by simp)
   ·rw [if_neg c22] at H
    exact absurd H (by simp)
  ·rw [if_neg c20] at H
   have c20b0 : (t265 == 1) = false := beq_eq_false_iff_ne.mpr c20
   have c20b1 : (t265 != 1) = true := bne_iff_ne.mpr c20
   by_cases c35 : t265 = 2
   ·rw [if_pos c35] at H
    have c35b0 : (t265 == 2) = true := beq_iff_eq.mpr c35
    have c35b1 : (t265 != 2) = false := bne_eq_false_iff_eq.mpr c35
    clear c35
    have H' := jA H
    clear H
    go_enter Try.func64, Try.ntmps64
    go_wp2_with (first | ((with_reducible refine jN (f := 84) rfl ?_); refine goesL_ (some 6) rfl rfl Try.func84 zr rfl #[.pointer (some ⟨g, 0, none⟩)] rfl zm ?_; (with_reducible refine (spec_l12Good.calls k g s0_0 s0_1 s0_2 t257 t260 t261 w0 _ ?side1 ?side2 A2.out).mono ?_); (case side1 => repeat (first | (with_reducible first | exact HI0.out | apply IsS91.alloc | apply IsS91.drewN | apply IsS91.drew | apply IsS91.set_1 | apply IsS91.set_2) | exact HI0.out)); (case side2 => repeat (first | (with_reducible first | exact HB.out | apply jM | apply jE | apply jI | refine jL ?_ (IsS91.ge HI0.out)) | exact HB.out)); rintro e w36 ⟨v258, rfl, ho0, hi, hb, hk⟩; refine ⟨_, rfl, ?_⟩; have n0_ := jA (jf ho0 (keep_size (w := w) (g := g) (row := none) (zh0 HK))); have n1_ := jA (KeepBut.trans (zh0 HK) hk (.inl rfl)); have n2_ := jA (hb); have n3_ := jA (hi); clear HK; clear HB; clear HI0; have HO259 := n0_; have HK := n1_; have HB := n2_; have HI0 := n3_; clear n0_ n1_ n2_ n3_; (try clear hb); (try clear hb2); (try clear hk); (try clear hi); (try clear ho0); obtain ⟨Ao37, co37, eo37⟩ := Kd.R_slice HO259.out; subst eo37) | ((with_reducible refine jN (f := 66) rfl ?_); refine goesL_ (some 10) rfl rfl Try.func66 zr rfl #[.pointer (some ⟨g, 0, none⟩), .int .i64 (t257.length : Int)] rfl zm ?_; (with_reducible refine (spec_l01Next.calls g s0_0 t260 t261 (t257.length : Int) t262 t263 t264 w0 _ ?side1 ?side2 A3.out).mono ?_); (case side1 => repeat (first | (with_reducible first | exact HI0.out | apply IsS91.alloc | apply IsS91.drewN | apply IsS91.drew | apply IsS91.set_1 | apply IsS91.set_2) | exact HI0.out)); (case side2 => repeat (first | (with_reducible first | exact HB.out | apply jM | apply jE | apply jI | refine jL ?_ (IsS91.ge HI0.out)) | exact HB.out)); rintro e w38 ⟨rfl, hi, hb, hk⟩; refine ⟨_, rfl, ?_⟩; have n0_ := jA (Kd.R_mono (Kd.R_keep (IsS91.apart (show IsS91 w0 _ g s0_0 t260 t261 from by repeat (first | (with_reducible first | exact HI0.out | apply IsS91.alloc | apply IsS91.drewN | apply IsS91.drew | apply IsS91.set_1 | apply IsS91.set_2) | exact HI0.out)) (zo HO259) (by decide)) hk (fun _ h => h.2)) (fun _ h => h.1)); have n1_ := jA (KeepBut.trans (zh0 HK) hk (.inl rfl)); have n2_ := jA (hb); have n3_ := jA (hi); clear HO259; clear HK; clear HB; clear HI0; have HO259 := n0_; have HK := n1_; have HB := n2_; have HI0 := n3_; clear n0_ n1_ n2_ n3_; (try clear hb); (try clear hb2); (try clear hk); (try clear hi)) | ((with_reducible refine jN (f := 66) rfl ?_); refine goesL_ (some 12) rfl rfl Try.func66 zr rfl #[.pointer (some ⟨g, 0, none⟩), .int .i64 40] rfl zm ?_; (with_reducible refine (spec_l01Next.calls g s0_0 t263 t264 40 t265 t266 t267 w0 _ ?side1 ?side2 A4.out).mono ?_); (case side1 => repeat (first | (with_reducible first | exact HI0.out | apply IsS91.alloc | apply IsS91.drewN | apply IsS91.drew | apply IsS91.set_1 | apply IsS91.set_2) | exact HI0.out)); (case side2 => repeat (first | (with_reducible first | exact HB.out | apply jM | apply jE | apply jI | refine jL ?_ (IsS91.ge HI0.out)) | exact HB.out)); rintro e w39 ⟨rfl, hi, hb, hk⟩; refine ⟨_, rfl, ?_⟩; have n0_ := jA (Kd.R_mono (Kd.R_keep (IsS91.apart (show IsS91 w0 _ g s0_0 t263 t264 from by repeat (first | (with_reducible first | exact HI0.out | apply IsS91.alloc | apply IsS91.drewN | apply IsS91.drew | apply IsS91.set_1 | apply IsS91.set_2) | exact HI0.out)) (zo HO259) (by decide)) hk (fun _ h => h.2)) (fun _ h => h.1)); have n1_ := jA (KeepBut.trans (zh0 HK) hk (.inl rfl)); have n2_ := jA (hb); have n3_ := jA (hi); clear HO259; clear HK; clear HB; clear HI0; have HO259 := n0_; have HK := n1_; have HB := n2_; have HI0 := n3_; clear n0_ n1_ n2_ n3_; (try clear hb); (try clear hb2); (try clear hk); (try clear hi)))
    go_loopg [3] k (fun kq v3 w' => ∃ (x3_1 : List (S63)) (x1001_1 : Int) (x1002_1 : Int), Aside0 (spec_l12Draw.l0 kq x3_1 s0_0 x1001_1 x1002_1 = some (r1, r2, r3)) ∧ Aside0 (kq ≤ k) ∧ Aside0 (Kd.R k63 63 w' w.heap.size (fun _ => True) v3 x3_1) ∧ Aside0 (IsS91 w0 w' g s0_0 x1001_1 x1002_1) ∧ Aside0 (KeepBut w w' g none) ∧ Aside0 (Below w0.heap.size w0 w'))
    case atStart => exact ⟨(t257), (t266), (t267), H', ⟨Nat.le_refl _⟩, ⟨by (with_reducible repeat (first | apply jH | apply jG | apply jK)); exact HO259.out⟩, ⟨by repeat (first | (with_reducible first | exact HI0.out | apply IsS91.alloc | apply IsS91.drewN | apply IsS91.drew | apply IsS91.set_1 | apply IsS91.set_2) | exact HI0.out)⟩, ⟨zh0 HK⟩, ⟨by repeat (first | (with_reducible first | exact HB.out | apply jM | apply jE | apply jI | refine jL ?_ (IsS91.ge HI0.out)) | exact HB.out)⟩⟩
    case round =>
     clear H'
     try clear c1
     try clear hx1
     try clear hf1
     try clear c2
     try clear p2
     try clear q2
     try clear hx2
     try clear hf2
     try clear c3
     try clear hx3
     try clear hf3
     try clear c5
     try clear c5b0
     try clear c5b1
     try clear c6
     try clear p6
     try clear c7
     try clear c7b0
     try clear c8
     try clear c8b0
     try clear c9
     try clear p9
     try clear q9
     try clear hx9
     try clear hf9
     try clear c18
     try clear hx18
     try clear hf18
     try clear c20
     try clear c20b0
     try clear c20b1
     try clear c22
     try clear c22b0
     try clear c23
     try clear c23b0
     try clear c24
     try clear p24
     try clear q24
     try clear hx24
     try clear hf24
     try clear c33
     try clear hx33
     try clear hf33
     try clear c35
     try clear c35b0
     try clear c35b1
     try clear hx18_0
     try clear hx24_0
     try clear hx24_1
     try clear hx33_1
     try clear hx9_0
     try clear hx9_1
     try clear p24
     try clear p9
     try clear q24
     try clear q9
     obtain ⟨x3_1, x1001_1, x1002_1, HA, HK1, HO_3, HI0, HK, HB⟩ := hrel
     cases gk with
     | zero => exact absurd HA.out (by simp [spec_l12Draw.l0])
     | succ k1 =>
      have H := HA.out
      clear HA
      simp only [spec_l12Draw.l0] at H
      replace H := jD.mp H
      obtain ⟨⟨t282, t283, t284⟩, A400, H⟩ := H
      replace H : (if (x3_1.length : Int) < (wrap64 (12 + t282)) then (if x3_1.length < 8796093022208 then (spec_l12Draw.l0 k1 (x3_1 ++ [(⟨0, 1⟩ : S63)]) s0_0 t283 t284) else (none)) else (some (x3_1, t283, t284))) = some (r1, r2, r3) := H
      have A40 := jA A400
      clear A400
      by_cases c41 : (x3_1.length : Int) < (wrap64 (12 + t282))
      ·rw [if_pos c41] at H
       have c41b0 : decide ((x3_1.length : Int) < (wrap64 (12 + t282))) = true := jP c41
       clear c41
       by_cases c42 : x3_1.length < 8796093022208
       ·rw [if_pos c42] at H
        have LMc42 := jA c42
        clear c42
        obtain ⟨y285, hy285⟩ : ∃ y_ : List (S63), y_ = (x3_1 ++ [(⟨0, 1⟩ : S63)]) := ⟨_, rfl⟩
        replace H : (spec_l12Draw.l0 k1 y285 s0_0 t283 t284) = some (r1, r2, r3) := by first | (rw [hy285]; with_reducible exact H) | (have H2_ := (Option.bind_some _ _).symm.trans H; rw [hy285]; with_reducible exact H2_) | (have H2_ := (Option.bind_some _ _).symm.trans H; with_reducible exact H2_) | with_reducible exact H | (rw [hy285]; exact H) | exact H
        have Ny285 := jA hy285
        clear hy285
        have H' := jA H
        clear H
        obtain ⟨Ao43, co43, eo43⟩ := Kd.R_slice HO_3.out
        subst eo43
        go_wp2_with (first | ((with_reducible refine jN (f := 66) rfl ?_); refine goesL_ (some 39) rfl rfl Try.func66 zr rfl #[.pointer (some ⟨g, 0, none⟩), .int .i64 2] rfl zm ?_; (with_reducible refine (spec_l01Next.calls g s0_0 x1001_1 x1002_1 2 t282 t283 t284 w0 _ ?side1 ?side2 A40.out).mono ?_); (case side1 => repeat (first | (with_reducible first | exact HI0.out | apply IsS91.alloc | apply IsS91.drewN | apply IsS91.drew | apply IsS91.set_1 | apply IsS91.set_2) | exact HI0.out)); (case side2 => repeat (first | (with_reducible first | exact HB.out | apply jM | apply jE | apply jI | refine jL ?_ (IsS91.ge HI0.out)) | exact HB.out)); rintro e w44 ⟨rfl, hi, hb, hk⟩; refine ⟨_, rfl, ?_⟩; have n0_ := jA (Kd.R_mono (Kd.R_keep (IsS91.apart (show IsS91 w0 _ g s0_0 x1001_1 x1002_1 from by repeat (first | (with_reducible first | exact HI0.out | apply IsS91.alloc | apply IsS91.drewN | apply IsS91.drew | apply IsS91.set_1 | apply IsS91.set_2) | exact HI0.out)) (zo HO_3) (by decide)) hk (fun _ h => h.2)) (fun _ h => h.1)); have n1_ := jA (KeepBut.trans (zh0 HK) hk (.inl rfl)); have n2_ := jA (hb); have n3_ := jA (hi); clear HO_3; clear HK; clear HB; clear HI0; have HO_3 := n0_; have HK := n1_; have HB := n2_; have HI0 := n3_; clear n0_ n1_ n2_ n3_; (try clear hb); (try clear hb2); (try clear hk); (try clear hi)) | ((with_reducible refine gate_builtin (b := .append) (xs := #[.tmp 42, .tmp 44]) rfl ?_); at_builtin; refine Kd.R_append k63 w.heap.size rfl (.tmp 42) (.tmp 44) 26 63 (.agg #[(.int .i64 0), (.int .i64 0)]) 16 rfl Try.underlying26 info63 rfl (by decide) (by omega) (.slice Ao43 x3_1.length co43) x3_1 (⟨0, 1⟩ : S63) [.int .i64 0, .int .i64 1] (fun _ => True) (fun _ => False) rfl rfl ?aP (fun _ hk => hk.elim) ?aF ?aO (Below.refl _ _) ?aS ?aL ?_; (case aP => exact k63_mkM _ _ _ (⟨0, 1⟩ : S63)); (case aF => exact (fun _ _ => trivial)); (case aO => exact (zo HO_3)); (case aS => exact (keep_size (w := w) (g := g) (row := none) (zh0 HK))); (case aL => have := LMc42.out; omega); intro v286 w45 ho hb hg hat; rw [← Ny285.out] at ho; have n0_ := jA (IsS91.grown (by repeat (first | (with_reducible first | exact HI0.out | apply IsS91.alloc | apply IsS91.drewN | apply IsS91.drew | apply IsS91.set_1 | apply IsS91.set_2) | exact HI0.out)) hg (IsS91.own_ne HI0.out HO_3.out (by decide))); have n1_ := jA (below_weaken (by repeat (first | (with_reducible first | exact HB.out | apply jM | apply jE | apply jI | refine jL ?_ (IsS91.ge HI0.out)) | exact HB.out)) HL.out hb); have n2_ := jA (KeepBut.trans (zh0 HK) (KeepBut.of_grown hg g) (Kd.R_base2 HO_3.out)); have n3_ := jA (ho); clear HI0; clear HB; clear HK; clear HO_3; have HI0 := n0_; have HB := n1_; have HK := n2_; have HO287 := n3_; clear n0_ n1_ n2_ n3_; clear ho hb hg hat))
        go_roundg k1
        case measure => have := HK1.out; omega
        case rel => exact ⟨(y285), (t283), (t284), H', ⟨by have := HK1.out; omega⟩, ⟨by (with_reducible repeat (first | apply jH | apply jG | apply jK)); exact HO287.out⟩, ⟨by repeat (first | (with_reducible first | exact HI0.out | apply IsS91.alloc | apply IsS91.drewN | apply IsS91.drew | apply IsS91.set_1 | apply IsS91.set_2) | exact HI0.out)⟩, ⟨zh0 HK⟩, ⟨by repeat (first | (with_reducible first | exact HB.out | apply jM | apply jE | apply jI | refine jL ?_ (IsS91.ge HI0.out)) | exact HB.out)⟩⟩
       ·rw [if_neg c42] at H
        exact absurd H (by simp)
      ·rw [if_neg c41] at H
       have c41b0 : decide ((x3_1.length : Int) < (wrap64 (12 + t282))) = false := ja c41
       clear c41
       simp only [je, jg] at H
       obtain ⟨rfl, rfl, rfl⟩ := H
       obtain ⟨Ao46, co46, eo46⟩ := Kd.R_slice HO_3.out
       subst eo46
       go_wp2_with (first | ((with_reducible refine jN (f := 66) rfl ?_); refine goesL_ (some 39) rfl rfl Try.func66 zr rfl #[.pointer (some ⟨g, 0, none⟩), .int .i64 2] rfl zm ?_; (with_reducible refine (spec_l01Next.calls g s0_0 x1001_1 x1002_1 2 t282 t283 t284 w0 _ ?side1 ?side2 A40.out).mono ?_); (case side1 => repeat (first | (with_reducible first | exact HI0.out | apply IsS91.alloc | apply IsS91.drewN | apply IsS91.drew | apply IsS91.set_1 | apply IsS91.set_2) | exact HI0.out)); (case side2 => repeat (first | (with_reducible first | exact HB.out | apply jM | apply jE | apply jI | refine jL ?_ (IsS91.ge HI0.out)) | exact HB.out)); rintro e w47 ⟨rfl, hi, hb, hk⟩; refine ⟨_, rfl, ?_⟩; have n0_ := jA (Kd.R_mono (Kd.R_keep (IsS91.apart (show IsS91 w0 _ g s0_0 x1001_1 x1002_1 from by repeat (first | (with_reducible first | exact HI0.out | apply IsS91.alloc | apply IsS91.drewN | apply IsS91.drew | apply IsS91.set_1 | apply IsS91.set_2) | exact HI0.out)) (zo HO_3) (by decide)) hk (fun _ h => h.2)) (fun _ h => h.1)); have n1_ := jA (KeepBut.trans (zh0 HK) hk (.inl rfl)); have n2_ := jA (hb); have n3_ := jA (hi); clear HO_3; clear HK; clear HB; clear HI0; have HO_3 := n0_; have HK := n1_; have HB := n2_; have HI0 := n3_; clear n0_ n1_ n2_ n3_; (try clear hb); (try clear hb2); (try clear hk); (try clear hi)))
       go_ret
       exact ⟨_, by first | rfl | (simp [errW_none, errW_some] <;> rfl) | (simp [*, errW_none, errW_some] <;> rfl), by (with_reducible repeat (first | apply jH | apply jG | apply jK)); exact HO_3.out, by repeat (first | (with_reducible first | exact HI0.out | apply IsS91.alloc | apply IsS91.drewN | apply IsS91.drew | apply IsS91.set_1 | apply IsS91.set_2) | exact HI0.out), by repeat (first | (with_reducible first | exact HB.out | apply jM | apply jE | apply jI | refine jL ?_ (IsS91.ge HI0.out)) | exact HB.out), zh0 HK⟩
   ·rw [if_neg c35] at H
    have c35b0 : (t265 == 2) = false := beq_eq_false_iff_ne.mpr c35
    have c35b1 : (t265 != 2) = true := bne_iff_ne.mpr c35
    by_cases c48 : t265 = 3
    ·rw [if_pos c48] at H
     have c48b0 : (t265 == 3) = true := beq_iff_eq.mpr c48
     have c48b1 : (t265 != 3) = false := bne_eq_false_iff_eq.mpr c48
     clear c48
     by_cases c49 : 0 ≤ (t257.length : Int)
     ·rw [if_pos c49] at H
      have c49b0 := eq_true c49
      have c49b1 : decide (0 ≤ (t257.length : Int)) = true := jP c49
      clear c49
      obtain ⟨y288, hy288⟩ : ∃ y_ : List (S63), y_ = (t257.take (0 : Int).toNat) := ⟨_, rfl⟩
      replace H : (some (y288, t266, t267)) = some (r1, r2, r3) := by first | (rw [hy288]; with_reducible exact H) | (have H2_ := (Option.bind_some _ _).symm.trans H; rw [hy288]; with_reducible exact H2_) | (have H2_ := (Option.bind_some _ _).symm.trans H; with_reducible exact H2_) | with_reducible exact H | (rw [hy288]; exact H) | exact H
      have Ny288 := jA hy288
      clear hy288
      simp only [je, jg] at H
      obtain ⟨rfl, rfl, rfl⟩ := H
      go_enter Try.func64, Try.ntmps64
      go_wp2_with (first | ((with_reducible refine jN (f := 84) rfl ?_); refine goesL_ (some 6) rfl rfl Try.func84 zr rfl #[.pointer (some ⟨g, 0, none⟩)] rfl zm ?_; (with_reducible refine (spec_l12Good.calls k g s0_0 s0_1 s0_2 t257 t260 t261 w0 _ ?side1 ?side2 A2.out).mono ?_); (case side1 => repeat (first | (with_reducible first | exact HI0.out | apply IsS91.alloc | apply IsS91.drewN | apply IsS91.drew | apply IsS91.set_1 | apply IsS91.set_2) | exact HI0.out)); (case side2 => repeat (first | (with_reducible first | exact HB.out | apply jM | apply jE | apply jI | refine jL ?_ (IsS91.ge HI0.out)) | exact HB.out)); rintro e w50 ⟨v258, rfl, ho0, hi, hb, hk⟩; refine ⟨_, rfl, ?_⟩; have n0_ := jA (jf ho0 (keep_size (w := w) (g := g) (row := none) (zh0 HK))); have n1_ := jA (KeepBut.trans (zh0 HK) hk (.inl rfl)); have n2_ := jA (hb); have n3_ := jA (hi); clear HK; clear HB; clear HI0; have HO259 := n0_; have HK := n1_; have HB := n2_; have HI0 := n3_; clear n0_ n1_ n2_ n3_; (try clear hb); (try clear hb2); (try clear hk); (try clear hi); (try clear ho0); obtain ⟨Ao51, co51, eo51⟩ := Kd.R_slice HO259.out; subst eo51) | ((with_reducible refine jN (f := 66) rfl ?_); refine goesL_ (some 10) rfl rfl Try.func66 zr rfl #[.pointer (some ⟨g, 0, none⟩), .int .i64 (t257.length : Int)] rfl zm ?_; (with_reducible refine (spec_l01Next.calls g s0_0 t260 t261 (t257.length : Int) t262 t263 t264 w0 _ ?side1 ?side2 A3.out).mono ?_); (case side1 => repeat (first | (with_reducible first | exact HI0.out | apply IsS91.alloc | apply IsS91.drewN | apply IsS91.drew | apply IsS91.set_1 | apply IsS91.set_2) | exact HI0.out)); (case side2 => repeat (first | (with_reducible first | exact HB.out | apply jM | apply jE | apply jI | refine jL ?_ (IsS91.ge HI0.out)) | exact HB.out)); rintro e w52 ⟨rfl, hi, hb, hk⟩; refine ⟨_, rfl, ?_⟩; have n0_ := jA (Kd.R_mono (Kd.R_keep (IsS91.apart (show IsS91 w0 _ g s0_0 t260 t261 from by repeat (first | (with_reducible first | exact HI0.out | apply IsS91.alloc | apply IsS91.drewN | apply IsS91.drew | apply IsS91.set_1 | apply IsS91.set_2) | exact HI0.out)) (zo HO259) (by decide)) hk (fun _ h => h.2)) (fun _ h => h.1)); have n1_ := jA (KeepBut.trans (zh0 HK) hk (.inl rfl)); have n2_ := jA (hb); have n3_ := jA (hi); clear HO259; clear HK; clear HB; clear HI0; have HO259 := n0_; have HK := n1_; have HB := n2_; have HI0 := n3_; clear n0_ n1_ n2_ n3_; (try clear hb); (try clear hb2); (try clear hk); (try clear hi)) | ((with_reducible refine jN (f := 66) rfl ?_); refine goesL_ (some 12) rfl rfl Try.func66 zr rfl #[.pointer (some ⟨g, 0, none⟩), .int .i64 40] rfl zm ?_; (with_reducible refine (spec_l01Next.calls g s0_0 t263 t264 40 t265 t266 t267 w0 _ ?side1 ?side2 A4.out).mono ?_); (case side1 => repeat (first | (with_reducible first | exact HI0.out | apply IsS91.alloc | apply IsS91.drewN | apply IsS91.drew | apply IsS91.set_1 | apply IsS91.set_2) | exact HI0.out)); (case side2 => repeat (first | (with_reducible first | exact HB.out | apply jM | apply jE | apply jI | refine jL ?_ (IsS91.ge HI0.out)) | exact HB.out)); rintro e w53 ⟨rfl, hi, hb, hk⟩; refine ⟨_, rfl, ?_⟩; have n0_ := jA (Kd.R_mono (Kd.R_keep (IsS91.apart (show IsS91 w0 _ g s0_0 t263 t264 from by repeat (first | (with_reducible first | exact HI0.out | apply IsS91.alloc | apply IsS91.drewN | apply IsS91.drew | apply IsS91.set_1 | apply IsS91.set_2) | exact HI0.out)) (zo HO259) (by decide)) hk (fun _ h => h.2)) (fun _ h => h.1)); have n1_ := jA (KeepBut.trans (zh0 HK) hk (.inl rfl)); have n2_ := jA (hb); have n3_ := jA (hi); clear HO259; clear HK; clear HB; clear HI0; have HO259 := n0_; have HK := n1_; have HB := n2_; have HI0 := n3_; clear n0_ n1_ n2_ n3_; (try clear hb); (try clear hb2); (try clear hk); (try clear hi); have q54 : (0 : Int) ≤ ((t257.length : Int) : Int) := jB za; obtain ⟨i054, hi054, _, hsz54, _⟩ := info_parts info63; have hcut54 := cut_to (P := Try.prog) 26 63 .i64 Try.underlying26 hi054 Ao51 t257.length co51 0 (by omega) q54 (jJ HO259.out).2.1; have hr54 := Kd.R_take (m := (0 : Int).toNat) HO259.out (by omega); have hy54 : y288.length = (0 : Int).toNat := (by rw [Ny288.out, List.length_take]; omega); rw [← Ny288.out] at hr54; rw [← hy54] at hr54 hcut54; clear hy54 hi054 hsz54 HO259; have HO290 := jA hr54; clear hr54; replace q54 := eq_true q54))
      go_ret
      exact ⟨_, by first | rfl | (simp [errW_none, errW_some] <;> rfl) | (simp [*, errW_none, errW_some] <;> rfl), by (with_reducible repeat (first | apply jH | apply jG | apply jK)); exact HO290.out, by repeat (first | (with_reducible first | exact HI0.out | apply IsS91.alloc | apply IsS91.drewN | apply IsS91.drew | apply IsS91.set_1 | apply IsS91.set_2) | exact HI0.out), by repeat (first | (with_reducible first | exact HB.out | apply jM | apply jE | apply jI | refine jL ?_ (IsS91.ge HI0.out)) | exact HB.out), zh0 HK⟩
     ·rw [if_neg c49] at H
      exact absurd H (by simp)
    ·rw [if_neg c48] at H
     have c48b0 : (t265 == 3) = false := beq_eq_false_iff_ne.mpr c48
     have c48b1 : (t265 != 3) = true := bne_iff_ne.mpr c48
     simp only [je, jg] at H
     obtain ⟨rfl, rfl, rfl⟩ := H
     go_enter Try.func64, Try.ntmps64
     go_wp2_with (first | ((with_reducible refine jN (f := 84) rfl ?_); refine goesL_ (some 6) rfl rfl Try.func84 zr rfl #[.pointer (some ⟨g, 0, none⟩)] rfl zm ?_; (with_reducible refine (spec_l12Good.calls k g s0_0 s0_1 s0_2 t257 t260 t261 w0 _ ?side1 ?side2 A2.out).mono ?_); (case side1 => repeat (first | (with_reducible first | exact HI0.out | apply IsS91.alloc | apply IsS91.drewN | apply IsS91.drew | apply IsS91.set_1 | apply IsS91.set_2) | exact HI0.out)); (case side2 => repeat (first | (with_reducible first | exact HB.out | apply jM | apply jE | apply jI | refine jL ?_ (IsS91.ge HI0.out)) | exact HB.out)); rintro e w55 ⟨v258, rfl, ho0, hi, hb, hk⟩; refine ⟨_, rfl, ?_⟩; have n0_ := jA (jf ho0 (keep_size (w := w) (g := g) (row := none) (zh0 HK))); have n1_ := jA (KeepBut.trans (zh0 HK) hk (.inl rfl)); have n2_ := jA (hb); have n3_ := jA (hi); clear HK; clear HB; clear HI0; have HO259 := n0_; have HK := n1_; have HB := n2_; have HI0 := n3_; clear n0_ n1_ n2_ n3_; (try clear hb); (try clear hb2); (try clear hk); (try clear hi); (try clear ho0); obtain ⟨Ao56, co56, eo56⟩ := Kd.R_slice HO259.out; subst eo56) | ((with_reducible refine jN (f := 66) rfl ?_); refine goesL_ (some 10) rfl rfl Try.func66 zr rfl #[.pointer (some ⟨g, 0, none⟩), .int .i64 (t257.length : Int)] rfl zm ?_; (with_reducible refine (spec_l01Next.calls g s0_0 t260 t261 (t257.length : Int) t262 t263 t264 w0 _ ?side1 ?side2 A3.out).mono ?_); (case side1 => repeat (first | (with_reducible first | exact HI0.out | apply IsS91.alloc | apply IsS91.drewN | apply IsS91.drew | apply IsS91.set_1 | apply IsS91.set_2) | exact HI0.out)); (case side2 => repeat (first | (with_reducible first | exact HB.out | apply jM | apply jE | apply jI | refine jL ?_ (IsS91.ge HI0.out)) | exact HB.out)); rintro e w57 ⟨rfl, hi, hb, hk⟩; refine ⟨_, rfl, ?_⟩; have n0_ := jA (Kd.R_mono (Kd.R_keep (IsS91.apart (show IsS91 w0 _ g s0_0 t260 t261 from by repeat (first | (with_reducible first | exact HI0.out | apply IsS91.alloc | apply IsS91.drewN | apply IsS91.drew | apply IsS91.set_1 | apply IsS91.set_2) | exact HI0.out)) (zo HO259) (by decide)) hk (fun _ h => h.2)) (fun _ h => h.1)); have n1_ := jA (KeepBut.trans (zh0 HK) hk (.inl rfl)); have n2_ := jA (hb); have n3_ := jA (hi); clear HO259; clear HK; clear HB; clear HI0; have HO259 := n0_; have HK := n1_; have HB := n2_; have HI0 := n3_; clear n0_ n1_ n2_ n3_; (try clear hb); (try clear hb2); (try clear hk); (try clear hi)) | ((with_reducible refine jN (f := 66) rfl ?_); refine goesL_ (some 12) rfl rfl Try.func66 zr rfl #[.pointer (some ⟨g, 0, none⟩), .int .i64 40] rfl zm ?_; (with_reducible refine (spec_l01Next.calls g s0_0 t263 t264 40 t265 t266 t267 w0 _ ?side1 ?side2 A4.out).mono ?_); (case side1 => repeat (first | (with_reducible first | exact HI0.out | apply IsS91.alloc | apply IsS91.drewN | apply IsS91.drew | apply IsS91.set_1 | apply IsS91.set_2) | exact HI0.out)); (case side2 => repeat (first | (with_reducible first | exact HB.out | apply jM | apply jE | apply jI | refine jL ?_ (IsS91.ge HI0.out)) | exact HB.out)); rintro e w58 ⟨rfl, hi, hb, hk⟩; refine ⟨_, rfl, ?_⟩; have n0_ := jA (Kd.R_mono (Kd.R_keep (IsS91.apart (show IsS91 w0 _ g s0_0 t263 t264 from by repeat (first | (with_reducible first | exact HI0.out | apply IsS91.alloc | apply IsS91.drewN | apply IsS91.drew | apply IsS91.set_1 | apply IsS91.set_2) | exact HI0.out)) (zo HO259) (by decide)) hk (fun _ h => h.2)) (fun _ h => h.1)); have n1_ := jA (KeepBut.trans (zh0 HK) hk (.inl rfl)); have n2_ := jA (hb); have n3_ := jA (hi); clear HO259; clear HK; clear HB; clear HI0; have HO259 := n0_; have HK := n1_; have HB := n2_; have HI0 := n3_; clear n0_ n1_ n2_ n3_; (try clear hb); (try clear hb2); (try clear hk); (try clear hi)))
     go_ret
     exact ⟨_, by first | rfl | (simp [errW_none, errW_some] <;> rfl) | (simp [*, errW_none, errW_some] <;> rfl), by (with_reducible repeat (first | apply jH | apply jG | apply jK)); exact HO259.out, by repeat (first | (with_reducible first | exact HI0.out | apply IsS91.alloc | apply IsS91.drewN | apply IsS91.drew | apply IsS91.set_1 | apply IsS91.set_2) | exact HI0.out), by repeat (first | (with_reducible first | exact HB.out | apply jM | apply jE | apply jI | refine jL ?_ (IsS91.ge HI0.out)) | exact HB.out), zh0 HK⟩

end Go.Proofs.Ytddejaomlnldiaa.PFnStops
