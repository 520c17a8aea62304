/- Functions and contracts that FnDepots reaches (9 of 11). -/
import Derived.Test.YtmhnkhealidjjaaQFnDepotsx7
namespace Go.Proofs.Ytmhnkhealidjjaa.PFnDepots
open Go.RowKit Go.Proofs.YtmhnkhealidjjaaW.PrintWords Go.Proofs.YtmhnkhealidjjaaW.PrintLast Go.Proofs.YtmhnkhealidjjaaW.PrintMore
attribute [local go_sem] max2_int min2_int max_two min_two max_three min_three max_four min_four   -- for this text's walks alone
set_option linter.unusedVariables false
set_option linter.unusedSimpArgs false

/-! ### spec_l27Draw: function 75 -/
mutual
def spec_l27Draw.l0 : Nat → List (S51) → Int → List Int → Int → Int → Option ((List (S51)) × Int × Int)
 | 0, _, _, _, _, _ => none
 | k + 1, x3, x4, x1000, x1001, x1002 => if x4 > 0 then ((spec_l27Good.f x1000 x1001 x1002).bind fun bt273 => (if x3.length < 5864062014805 then (spec_l27Draw.l0 k (x3 ++ [(⟨bt273.1, bt273.2.1, bt273.2.2.1⟩ : S51)]) (wrap64 (x4 - 1)) x1000 bt273.2.2.2.1 bt273.2.2.2.2) else (none))) else ((spec_l01Next.f x1000 x1001 x1002 30).bind fun bt281 => (if bt281.1 = 0 then ((spec_l01Pick.f x1000 bt281.2.1 bt281.2.2 (([(-1), 100000, 100001] : List Int))).bind fun bt287 => ((spec_l01Pick.f x1000 bt287.2.1 bt287.2.2 (([100000000, 100000001, (-1)] : List Int))).bind fun bt293 => (if x3.length < 5864062014805 then (some ((x3 ++ [(⟨bt287.1, 0, bt293.1⟩ : S51)]), bt293.2.1, bt293.2.2)) else (none)))) else (if bt281.1 = 1 then (spec_l27Draw.l1 k x3 x1000 bt281.2.1 bt281.2.2) else (some (x3, bt281.2.1, bt281.2.2)))))
def spec_l27Draw.l1 : Nat → List (S51) → List Int → Int → Int → Option ((List (S51)) × Int × Int)
 | 0, _, _, _, _ => none
 | k + 1, x3, x1000, x1001, x1002 => (spec_l01Next.f x1000 x1001 x1002 2).bind fun bt299 => (if (x3.length : Int) < (wrap64 (8 + bt299.1)) then ((spec_l27Good.f x1000 bt299.2.1 bt299.2.2).bind fun bt302 => (if x3.length < 5864062014805 then (spec_l27Draw.l1 k (x3 ++ [(⟨bt302.1, bt302.2.1, bt302.2.2.1⟩ : S51)]) x1000 bt302.2.2.2.1 bt302.2.2.2.2) else (none))) else (some (x3, bt299.2.1, bt299.2.2)))
end
def spec_l27Draw.f (k : Nat) (s0_0 : List Int) (s0_1 : Int) (s0_2 : Int) : Option ((List (S51)) × Int × Int) := (spec_l01Next.f s0_0 s0_1 s0_2 6).bind fun bt270 => (spec_l27Draw.l0 k (([] : List (S51))) bt270.1 s0_0 bt270.2.1 bt270.2.2)
theorem spec_l27Draw.mono_l : ∀ k, (∀ y0 y1 y2 y3 y4, LeO (spec_l27Draw.l0 k y0 y1 y2 y3 y4) (spec_l27Draw.l0 (k + 1) y0 y1 y2 y3 y4)) ∧ (∀ y0 y1 y2 y3, LeO (spec_l27Draw.l1 k y0 y1 y2 y3) (spec_l27Draw.l1 (k + 1) y0 y1 y2 y3))
 | 0 => ⟨fun _ _ _ _ _ r h => by simp [spec_l27Draw.l0] at h, fun _ _ _ _ r h => by simp [spec_l27Draw.l1] at h⟩
 | k + 1 => by
  obtain ⟨ih0, ih1⟩ := spec_l27Draw.mono_l k
  refine ⟨?_, ?_⟩
  ·intro y0 y1 y2 y3 y4
   unfold spec_l27Draw.l0
   repeat' first
   | (with_reducible exact ih0 _ _ _ _ _)
   | (with_reducible exact ih1 _ _ _ _)
   | (with_reducible exact LeO.refl _)
   | (with_reducible exact LeO.none _)
   | (with_reducible refine LeO.ite ?_ ?_)
   | (with_reducible refine LeO.bind ?_ (fun _ => ?_))
   | exact ih0 _ _ _ _ _
   | exact ih1 _ _ _ _
   | exact LeO.none _
   | refine LeO.ite ?_ ?_
   | refine LeO.bind ?_ (fun _ => ?_)
  ·intro y0 y1 y2 y3
   unfold spec_l27Draw.l1
   repeat' first
   | (with_reducible exact ih0 _ _ _ _ _)
   | (with_reducible exact ih1 _ _ _ _)
   | (with_reducible exact LeO.refl _)
   | (with_reducible exact LeO.none _)
   | (with_reducible refine LeO.ite ?_ ?_)
   | (with_reducible refine LeO.bind ?_ (fun _ => ?_))
   | exact ih0 _ _ _ _ _
   | exact ih1 _ _ _ _
   | exact LeO.none _
   | refine LeO.ite ?_ ?_
   | refine LeO.bind ?_ (fun _ => ?_)
theorem spec_l27Draw.mono : ∀ a0 a1 a2 k, LeO (spec_l27Draw.f k a0 a1 a2) (spec_l27Draw.f (k + 1) a0 a1 a2) := by
 intro a0 a1 a2 k
 obtain ⟨ih0, ih1⟩ := spec_l27Draw.mono_l k
 unfold spec_l27Draw.f
 repeat' first
   | (with_reducible exact ih0 _ _ _ _ _)
   | (with_reducible exact ih1 _ _ _ _)
   | (with_reducible exact LeO.refl _)
   | (with_reducible exact LeO.none _)
   | (with_reducible refine LeO.ite ?_ ?_)
   | (with_reducible refine LeO.bind ?_ (fun _ => ?_))
   | exact ih0 _ _ _ _ _
   | exact ih1 _ _ _ _
   | exact LeO.none _
   | refine LeO.ite ?_ ?_
   | refine LeO.bind ?_ (fun _ => ?_)
set_option maxHeartbeats 8000000 in
set_option maxRecDepth 100000 in
theorem spec_l27Draw.calls (k : Nat) (g : Nat) (s0_0 : List Int) (s0_1 : Int) (s0_2 : Int) (r1 : List (S51)) (r2 : Int) (r3 : Int) (w0 w : World) (hI : IsS86 w0 w g s0_0 s0_1 s0_2) (hB : Below w0.heap.size w0 w) (h : spec_l27Draw.f k s0_0 s0_1 s0_2 = some (r1, r2, r3)) :
  Calls Try.prog 75 #[.pointer (some ⟨g, 0, none⟩)] w fun e w' => ∃ v0_ : Value, e = .returned (v0_) ∧ Kd.R k51 51 w' w.heap.size (fun _ => True) v0_ r1 ∧ IsS86 w0 w' g s0_0 r2 r3 ∧ Below w0.heap.size w0 w' ∧ KeepBut w w' g none := by
 have hu51 := Try.underlying51
 have HI0 := jA hI
 have HK := jA (KeepBut.refl w g none)
 have HL := jA hB.size
 clear hI
 have HW0 := jA hB.size
 have HB := jA hB
 clear hB
 have H : ((spec_l01Next.f s0_0 s0_1 s0_2 6).bind fun bt270 => (spec_l27Draw.l0 k (([] : List (S51))) bt270.1 s0_0 bt270.2.1 bt270.2.2)) = some (r1, r2, r3) := h
 clear h
 obtain ⟨y267, hy267⟩ : ∃ y_ : List (S51), y_ = (([] : List (S51))) := ⟨_, rfl⟩
 replace H : ((spec_l01Next.f s0_0 s0_1 s0_2 6).bind fun bt270 => (spec_l27Draw.l0 k y267 bt270.1 s0_0 bt270.2.1 bt270.2.2)) = some (r1, r2, r3) := by first | (rw [hy267]; with_reducible exact H) | (have H2_ := (Option.bind_some _ _).symm.trans H; rw [hy267]; with_reducible exact H2_) | (have H2_ := (Option.bind_some _ _).symm.trans H; with_reducible exact H2_) | with_reducible exact H | (rw [hy267]; exact H) | exact H
 have Ny267 := jA hy267
 clear hy267
 replace H := jD.mp H
 obtain ⟨⟨t270, t271, t272⟩, A20, H⟩ := H
 replace H : (spec_l27Draw.l0 k y267 t270 s0_0 t271 t272) = some (r1, r2, r3) := H
 have A2 := jA A20
 clear A20
 have H' := jA H
 clear H
 go_enter Try.func75, Try.ntmps75
 go_wp2_with (first | ((with_reducible refine gate_dst (N := 5) rfl ?_); refine Kd.R_lit k51 _ 51 ?hg (N := 5) ?hd (xs := ([] : List (S51))) (inner := []) (ok := fun _ => True) (okp := fun _ => True) ?hr ?hp (fun _ hk => hk) trivial (Below.refl _ _) (Nat.le_refl _) (by simp) ?_; (case hd => rfl); (case hg => rfl); (case hr => first | (go_simp; done) | (go_simp; rfl)); (case hp => exact (Reps.none _ _)); intro v268 w3 ho4 hb hg_ hnew_; clear hg_ hnew_; (first | rw [← Ny267.out] at ho4 | (simp only [Int.reduceToNat] at ho4; rw [← Ny267.out] at ho4)); have n0_ := jA (Kd.R_lower ho4 (keep_size (w := w) (g := g) (row := none) (zh0 HK))); have n1_ := jA (IsS86.below (by repeat (first | (with_reducible first | exact HI0.out | apply IsS86.alloc | apply IsS86.drewN | apply IsS86.drew | apply IsS86.set_1 | apply IsS86.set_2) | exact HI0.out)) hb); have n2_ := jA (KeepBut.trans (zh0 HK) (KeepBut.of_below hb g none) (.inl rfl)); have n3_ := jA (jT (by repeat (first | (with_reducible first | exact HB.out | apply jP | apply jK | apply jL | refine jQ ?_ (IsS86.ge HI0.out)) | exact HB.out)) hb); clear HI0; clear HK; clear HB; have HO269 := n0_; have HI0 := n1_; have HK := n2_; have HB := n3_; clear n0_ n1_ n2_ n3_; clear hb ho4) | ((with_reducible refine jH (f := 69) rfl ?_); refine goesL_ (some 7) rfl rfl Try.func69 zr rfl #[.pointer (some ⟨g, 0, none⟩), .int .i64 6] rfl zm ?_; (with_reducible refine (spec_l01Next.calls g s0_0 s0_1 s0_2 6 t270 t271 t272 w0 _ ?side1 ?side2 A2.out).mono ?_); (case side1 => repeat (first | (with_reducible first | exact HI0.out | apply IsS86.alloc | apply IsS86.drewN | apply IsS86.drew | apply IsS86.set_1 | apply IsS86.set_2) | exact HI0.out)); (case side2 => repeat (first | (with_reducible first | exact HB.out | apply jP | apply jK | apply jL | refine jQ ?_ (IsS86.ge HI0.out)) | exact HB.out)); rintro e w5 ⟨rfl, hi, hb, hk⟩; refine ⟨_, rfl, ?_⟩; have n0_ := jA (Kd.R_mono (Kd.R_keep (IsS86.apart (show IsS86 w0 _ g s0_0 s0_1 s0_2 from by repeat (first | (with_reducible first | exact HI0.out | apply IsS86.alloc | apply IsS86.drewN | apply IsS86.drew | apply IsS86.set_1 | apply IsS86.set_2) | exact HI0.out)) (zo HO269) (by decide)) hk (fun _ h => h.2)) (fun _ h => h.1)); have n1_ := jA (KeepBut.trans (zh0 HK) hk (.inl rfl)); have n2_ := jA (hb); have n3_ := jA (hi); clear HO269; clear HK; clear HB; clear HI0; have HO269 := n0_; have HK := n1_; have HB := n2_; have HI0 := n3_; clear n0_ n1_ n2_ n3_; (try clear hb); (try clear hb2); (try clear hk); (try clear hi)))
 go_loopg [3, 4] k (fun kq v3 v4 w' => ∃ (x3_1 : List (S51)) (x4_1 : Int) (x1001_1 : Int) (x1002_1 : Int), v4 = .int .i64 x4_1 ∧ Aside0 (spec_l27Draw.l0 kq x3_1 x4_1 s0_0 x1001_1 x1002_1 = some (r1, r2, r3)) ∧ Aside0 (kq ≤ k) ∧ Aside0 (Kd.R k51 51 w' w.heap.size (fun _ => True) v3 x3_1) ∧ Aside0 (IsS86 w0 w' g s0_0 x1001_1 x1002_1) ∧ Aside0 (KeepBut w w' g none) ∧ Aside0 (Below w0.heap.size w0 w'))
 case atStart => exact ⟨(y267), (t270), (t271), (t272), zz, H', ⟨Nat.le_refl _⟩, ⟨by (with_reducible repeat (first | apply ja | apply jZ | apply jX)); exact HO269.out⟩, ⟨by repeat (first | (with_reducible first | exact HI0.out | apply IsS86.alloc | apply IsS86.drewN | apply IsS86.drew | apply IsS86.set_1 | apply IsS86.set_2) | exact HI0.out)⟩, ⟨zh0 HK⟩, ⟨by repeat (first | (with_reducible first | exact HB.out | apply jP | apply jK | apply jL | refine jQ ?_ (IsS86.ge HI0.out)) | exact HB.out)⟩⟩
 case round =>
  clear H'
  try clear p2
  obtain ⟨x3_1, x4_1, x1001_1, x1002_1, rfl, HA, HK1, HO_3, HI0, HK, HB⟩ := hrel
  cases gk with
  | zero => exact absurd HA.out (by simp [spec_l27Draw.l0])
  | succ k1 =>
   have H := HA.out
   clear HA
   simp only [spec_l27Draw.l0] at H
   by_cases c6 : x4_1 > 0
   ·rw [if_pos c6] at H
    have c6b0 : decide (0 < x4_1) = true := jG c6
    clear c6
    replace H := jD.mp H
    obtain ⟨⟨t273, t274, t275, t276, t277⟩, A70, H⟩ := H
    replace H : (if x3_1.length < 5864062014805 then (spec_l27Draw.l0 k1 (x3_1 ++ [(⟨t273, t274, t275⟩ : S51)]) (wrap64 (x4_1 - 1)) s0_0 t276 t277) else (none)) = some (r1, r2, r3) := H
    have A7 := jA A70
    clear A70
    by_cases c8 : x3_1.length < 5864062014805
    ·rw [if_pos c8] at H
     have LMc8 := jA c8
     clear c8
     obtain ⟨y278, hy278⟩ : ∃ y_ : List (S51), y_ = (x3_1 ++ [(⟨t273, t274, t275⟩ : S51)]) := ⟨_, rfl⟩
     replace H : (spec_l27Draw.l0 k1 y278 (wrap64 (x4_1 - 1)) s0_0 t276 t277) = some (r1, r2, r3) := by first | (rw [hy278]; with_reducible exact H) | (have H2_ := (Option.bind_some _ _).symm.trans H; rw [hy278]; with_reducible exact H2_) | (have H2_ := (Option.bind_some _ _).symm.trans H; with_reducible exact H2_) | with_reducible exact H | (rw [hy278]; exact H) | exact H
     have Ny278 := jA hy278
     clear hy278
     have H' := jA H
     clear H
     go_wp2_with (first | ((with_reducible refine jH (f := 87) rfl ?_); refine goesL_ (some 14) rfl rfl Try.func87 zr rfl #[.pointer (some ⟨g, 0, none⟩)] rfl zm ?_; (with_reducible refine (spec_l27Good.calls g s0_0 x1001_1 x1002_1 t273 t274 t275 t276 t277 w0 _ ?side1 ?side2 A7.out).mono ?_); (case side1 => repeat (first | (with_reducible first | exact HI0.out | apply IsS86.alloc | apply IsS86.drewN | apply IsS86.drew | apply IsS86.set_1 | apply IsS86.set_2) | exact HI0.out)); (case side2 => repeat (first | (with_reducible first | exact HB.out | apply jP | apply jK | apply jL | refine jQ ?_ (IsS86.ge HI0.out)) | exact HB.out)); rintro e w9 ⟨rfl, hi, hb, hk⟩; refine ⟨_, rfl, ?_⟩; have n0_ := jA (Kd.R_mono (Kd.R_keep (IsS86.apart (show IsS86 w0 _ g s0_0 x1001_1 x1002_1 from by repeat (first | (with_reducible first | exact HI0.out | apply IsS86.alloc | apply IsS86.drewN | apply IsS86.drew | apply IsS86.set_1 | apply IsS86.set_2) | exact HI0.out)) (zo HO_3) (by decide)) hk (fun _ h => h.2)) (fun _ h => h.1)); have n1_ := jA (KeepBut.trans (zh0 HK) hk (.inl rfl)); have n2_ := jA (hb); have n3_ := jA (hi); clear HO_3; clear HK; clear HB; clear HI0; have HO_3 := n0_; have HK := n1_; have HB := n2_; have HI0 := n3_; clear n0_ n1_ n2_ n3_; (try clear hb); (try clear hb2); (try clear hk); (try clear hi)) | ((with_reducible refine gate_builtin (b := .append) (xs := #[.tmp 12, .tmp 15]) rfl ?_); at_builtin; refine Kd.R_append k51 w.heap.size rfl (.tmp 12) (.tmp 15) 28 51 (.agg #[(.int .i64 0), (.int .i64 0), (.int .i64 0)]) 24 rfl Try.underlying28 info51 rfl (by decide) (by omega) u3 x3_1 (⟨t273, t274, t275⟩ : S51) [.int .i64 t273, .int .i64 t274, .int .i64 t275] (fun _ => True) (fun _ => False) rfl rfl ?aP (fun _ hk => hk.elim) ?aF ?aO (Below.refl _ _) ?aS ?aL ?_; (case aP => exact k51_mkM _ _ _ (⟨t273, t274, t275⟩ : S51)); (case aF => exact (fun _ _ => trivial)); (case aO => exact (zo HO_3)); (case aS => exact (keep_size (w := w) (g := g) (row := none) (zh0 HK))); (case aL => have := LMc8.out; omega); intro v279 w10 ho hb hg hat; rw [← Ny278.out] at ho; have n0_ := jA (IsS86.grown (by repeat (first | (with_reducible first | exact HI0.out | apply IsS86.alloc | apply IsS86.drewN | apply IsS86.drew | apply IsS86.set_1 | apply IsS86.set_2) | exact HI0.out)) hg (IsS86.own_ne HI0.out HO_3.out (by decide))); have n1_ := jA (below_weaken (by repeat (first | (with_reducible first | exact HB.out | apply jP | apply jK | apply jL | refine jQ ?_ (IsS86.ge HI0.out)) | exact HB.out)) HL.out hb); have n2_ := jA (KeepBut.trans (zh0 HK) (KeepBut.of_grown hg g) (Kd.R_base2 HO_3.out)); have n3_ := jA (ho); clear HI0; clear HB; clear HK; clear HO_3; have HI0 := n0_; have HB := n1_; have HK := n2_; have HO280 := n3_; clear n0_ n1_ n2_ n3_; clear ho hb hg hat))
     go_roundg k1
     case measure => have := HK1.out; omega
     case rel => exact ⟨(y278), (wrap64 (x4_1 - 1)), (t276), (t277), zz, H', ⟨by have := HK1.out; omega⟩, ⟨by (with_reducible repeat (first | apply ja | apply jZ | apply jX)); exact HO280.out⟩, ⟨by repeat (first | (with_reducible first | exact HI0.out | apply IsS86.alloc | apply IsS86.drewN | apply IsS86.drew | apply IsS86.set_1 | apply IsS86.set_2) | exact HI0.out)⟩, ⟨zh0 HK⟩, ⟨by repeat (first | (with_reducible first | exact HB.out | apply jP | apply jK | apply jL | refine jQ ?_ (IsS86.ge HI0.out)) | exact HB.out)⟩⟩
    ·rw [if_neg c8] at H
     exact absurd H (by simp)
   ·rw [if_neg c6] at H
    have c6b0 : decide (0 < x4_1) = false := jb c6
    clear c6
    replace H := jD.mp H
    obtain ⟨⟨t281, t282, t283⟩, A110, H⟩ := H
    replace H : (if t281 = 0 then ((spec_l01Pick.f s0_0 t282 t283 (([(-1), 100000, 100001] : List Int))).bind fun bt287 => ((spec_l01Pick.f s0_0 bt287.2.1 bt287.2.2 (([100000000, 100000001, (-1)] : List Int))).bind fun bt293 => (if x3_1.length < 5864062014805 then (some ((x3_1 ++ [(⟨bt287.1, 0, bt293.1⟩ : S51)]), bt293.2.1, bt293.2.2)) else (none)))) else (if t281 = 1 then (spec_l27Draw.l1 k1 x3_1 s0_0 t282 t283) else (some (x3_1, t282, t283)))) = some (r1, r2, r3) := H
    have A11 := jA A110
    clear A110
    by_cases c12 : t281 = 0
    ·rw [if_pos c12] at H
     have c12b0 : (t281 == 0) = true := beq_iff_eq.mpr c12
     have c12b1 : (t281 != 0) = false := bne_eq_false_iff_eq.mpr c12
     clear c12
     obtain ⟨y284, hy284⟩ : ∃ y_ : List Int, y_ = (([(-1), 100000, 100001] : List Int)) := ⟨_, rfl⟩
     replace H : ((spec_l01Pick.f s0_0 t282 t283 y284).bind fun bt287 => ((spec_l01Pick.f s0_0 bt287.2.1 bt287.2.2 (([100000000, 100000001, (-1)] : List Int))).bind fun bt293 => (if x3_1.length < 5864062014805 then (some ((x3_1 ++ [(⟨bt287.1, 0, bt293.1⟩ : S51)]), bt293.2.1, bt293.2.2)) else (none)))) = some (r1, r2, r3) := by first | (rw [hy284]; with_reducible exact H) | (have H2_ := (Option.bind_some _ _).symm.trans H; rw [hy284]; with_reducible exact H2_) | (have H2_ := (Option.bind_some _ _).symm.trans H; with_reducible exact H2_) | with_reducible exact H | (rw [hy284]; exact H) | exact H
     have Ny284 := jA hy284
     clear hy284
     replace H := jD.mp H
     obtain ⟨⟨t287, t288, t289⟩, A130, H⟩ := H
     replace H : ((spec_l01Pick.f s0_0 t288 t289 (([100000000, 100000001, (-1)] : List Int))).bind fun bt293 => (if x3_1.length < 5864062014805 then (some ((x3_1 ++ [(⟨t287, 0, bt293.1⟩ : S51)]), bt293.2.1, bt293.2.2)) else (none))) = some (r1, r2, r3) := H
     have A13 := jA A130
     clear A130
     obtain ⟨y290, hy290⟩ : ∃ y_ : List Int, y_ = (([100000000, 100000001, (-1)] : List Int)) := ⟨_, rfl⟩
     replace H : ((spec_l01Pick.f s0_0 t288 t289 y290).bind fun bt293 => (if x3_1.length < 5864062014805 then (some ((x3_1 ++ [(⟨t287, 0, bt293.1⟩ : S51)]), bt293.2.1, bt293.2.2)) else (none))) = some (r1, r2, r3) := by first | (rw [hy290]; with_reducible exact H) | (have H2_ := (Option.bind_some _ _).symm.trans H; rw [hy290]; with_reducible exact H2_) | (have H2_ := (Option.bind_some _ _).symm.trans H; with_reducible exact H2_) | with_reducible exact H | (rw [hy290]; exact H) | exact H
     have Ny290 := jA hy290
     clear hy290
     replace H := jD.mp H
     obtain ⟨⟨t293, t294, t295⟩, A140, H⟩ := H
     replace H : (if x3_1.length < 5864062014805 then (some ((x3_1 ++ [(⟨t287, 0, t293⟩ : S51)]), t294, t295)) else (none)) = some (r1, r2, r3) := H
     have A14 := jA A140
     clear A140
     by_cases c15 : x3_1.length < 5864062014805
     ·rw [if_pos c15] at H
      have LMc15 := jA c15
      clear c15
      obtain ⟨y296, hy296⟩ : ∃ y_ : List (S51), y_ = (x3_1 ++ [(⟨t287, 0, t293⟩ : S51)]) := ⟨_, rfl⟩
      replace H : (some (y296, t294, t295)) = some (r1, r2, r3) := by first | (rw [hy296]; with_reducible exact H) | (have H2_ := (Option.bind_some _ _).symm.trans H; rw [hy296]; with_reducible exact H2_) | (have H2_ := (Option.bind_some _ _).symm.trans H; with_reducible exact H2_) | with_reducible exact H | (rw [hy296]; exact H) | exact H
      have Ny296 := jA hy296
      clear hy296
      simp only [jU, jY] at H
      obtain ⟨rfl, rfl, rfl⟩ := H
      go_wp2_with (first | ((with_reducible refine jH (f := 69) rfl ?_); refine goesL_ (some 18) rfl rfl Try.func69 zr rfl #[.pointer (some ⟨g, 0, none⟩), .int .i64 30] rfl zm ?_; (with_reducible refine (spec_l01Next.calls g s0_0 x1001_1 x1002_1 30 t281 t282 t283 w0 _ ?side1 ?side2 A11.out).mono ?_); (case side1 => repeat (first | (with_reducible first | exact HI0.out | apply IsS86.alloc | apply IsS86.drewN | apply IsS86.drew | apply IsS86.set_1 | apply IsS86.set_2) | exact HI0.out)); (case side2 => repeat (first | (with_reducible first | exact HB.out | apply jP | apply jK | apply jL | refine jQ ?_ (IsS86.ge HI0.out)) | exact HB.out)); rintro e w16 ⟨rfl, hi, hb, hk⟩; refine ⟨_, rfl, ?_⟩; have n0_ := jA (Kd.R_mono (Kd.R_keep (IsS86.apart (show IsS86 w0 _ g s0_0 x1001_1 x1002_1 from by repeat (first | (with_reducible first | exact HI0.out | apply IsS86.alloc | apply IsS86.drewN | apply IsS86.drew | apply IsS86.set_1 | apply IsS86.set_2) | exact HI0.out)) (zo HO_3) (by decide)) hk (fun _ h => h.2)) (fun _ h => h.1)); have n1_ := jA (KeepBut.trans (zh0 HK) hk (.inl rfl)); have n2_ := jA (hb); have n3_ := jA (hi); clear HO_3; clear HK; clear HB; clear HI0; have HO_3 := n0_; have HK := n1_; have HB := n2_; have HI0 := n3_; clear n0_ n1_ n2_ n3_; (try clear hb); (try clear hb2); (try clear hk); (try clear hi)) | ((with_reducible refine gate_dst (N := 23) rfl ?_); refine Kd.R_lit (Kd.int .i64) _ 2 ?hg (N := 23) ?hd (xs := ([(-1), 100000, 100001] : List Int)) (inner := [.int .i64 (-1), .int .i64 100000, .int .i64 100001]) (ok := fun _ => True) (okp := fun _ => True) ?hr ?hp (fun _ hk => hk) trivial (Below.refl _ _) (Nat.le_refl _) (by simp) ?_; (case hd => rfl); (case hg => rfl); (case hr => first | (go_simp; done) | (go_simp; rfl)); (case hp => exact (Reps.one (show Kd.M (Kd.int .i64) _ _ _ (-1) [.int .i64 (-1)] from rfl) (Reps.one (show Kd.M (Kd.int .i64) _ _ _ 100000 [.int .i64 100000] from rfl) (Reps.one (show Kd.M (Kd.int .i64) _ _ _ 100001 [.int .i64 100001] from rfl) (Reps.none _ _))))); intro v285 w17 ho18 hb hg_ hnew_; clear hg_ hnew_; (first | rw [← Ny284.out] at ho18 | (simp only [Int.reduceToNat] at ho18; rw [← Ny284.out] at ho18)); have n0_ := jA (Kd.R_below (zo HO_3) hb); have n1_ := jA (Kd.R_lower ho18 (keep_size (w := w) (g := g) (row := none) (zh0 HK))); have n2_ := jA (IsS86.below (by repeat (first | (with_reducible first | exact HI0.out | apply IsS86.alloc | apply IsS86.drewN | apply IsS86.drew | apply IsS86.set_1 | apply IsS86.set_2) | exact HI0.out)) hb); have n3_ := jA (KeepBut.trans (zh0 HK) (KeepBut.of_below hb g none) (.inl rfl)); have n4_ := jA (jT (by repeat (first | (with_reducible first | exact HB.out | apply jP | apply jK | apply jL | refine jQ ?_ (IsS86.ge HI0.out)) | exact HB.out)) hb); clear HO_3; clear HI0; clear HK; clear HB; have HO_3 := n0_; have HO286 := n1_; have HI0 := n2_; have HK := n3_; have HB := n4_; clear n0_ n1_ n2_ n3_ n4_; clear hb ho18; obtain ⟨Ao19, co19, eo19⟩ := Kd.R_slice HO286.out; subst eo19) | ((with_reducible refine jH (f := 68) rfl ?_); refine goesL_ (some 24) rfl rfl Try.func68 zr rfl #[.pointer (some ⟨g, 0, none⟩), .slice Ao19 y284.length co19] rfl zm ?_; (with_reducible refine (spec_l01Pick.calls g s0_0 t282 t283 _ _ y284 t287 t288 t289 w0 _ ?side1 ?side2 ?side3 ?side4 ?side5 A13.out).mono ?_); (case side1 => repeat (first | (with_reducible first | exact HI0.out | apply IsS86.alloc | apply IsS86.drewN | apply IsS86.drew | apply IsS86.set_1 | apply IsS86.set_2) | exact HI0.out)); (case side2 => repeat (first | (with_reducible first | exact HB.out | apply jP | apply jK | apply jL | refine jQ ?_ (IsS86.ge HI0.out)) | exact HB.out)); (case side3 => repeat (first | exact (jF HO286.out).2.2 | (with_reducible refine jO ?_ _) | (with_reducible refine jN ?_ _) | (with_reducible refine jS ?_))); (case side4 => exact (jF HO286.out).2.1); (case side5 => exact far_slice (IsS86.own_ne HI0.out HO286.out (by decide))); rintro e w20 ⟨rfl, hi, hb, hk⟩; refine ⟨_, rfl, ?_⟩; have n0_ := jA (Kd.R_mono (Kd.R_keep (IsS86.apart (show IsS86 w0 _ g s0_0 t282 t283 from by repeat (first | (with_reducible first | exact HI0.out | apply IsS86.alloc | apply IsS86.drewN | apply IsS86.drew | apply IsS86.set_1 | apply IsS86.set_2) | exact HI0.out)) (zo HO_3) (by decide)) hk (fun _ h => h.2)) (fun _ h => h.1)); have n1_ := jA (Kd.R_mono (Kd.R_keep (IsS86.apart (show IsS86 w0 _ g s0_0 t282 t283 from by repeat (first | (with_reducible first | exact HI0.out | apply IsS86.alloc | apply IsS86.drewN | apply IsS86.drew | apply IsS86.set_1 | apply IsS86.set_2) | exact HI0.out)) (zo HO286) (by decide)) hk (fun _ h => h.2)) (fun _ h => h.1)); have n2_ := jA (KeepBut.trans (zh0 HK) hk (.inl rfl)); have n3_ := jA (hb); have n4_ := jA (hi); clear HO_3; clear HO286; clear HK; clear HB; clear HI0; have HO_3 := n0_; have HO286 := n1_; have HK := n2_; have HB := n3_; have HI0 := n4_; clear n0_ n1_ n2_ n3_ n4_; (try clear hb); (try clear hb2); (try clear hk); (try clear hi)) | ((with_reducible refine gate_dst (N := 26) rfl ?_); refine Kd.R_lit (Kd.int .i64) _ 2 ?hg (N := 26) ?hd (xs := ([100000000, 100000001, (-1)] : List Int)) (inner := [.int .i64 100000000, .int .i64 100000001, .int .i64 (-1)]) (ok := fun _ => True) (okp := fun _ => True) ?hr ?hp (fun _ hk => hk) trivial (Below.refl _ _) (Nat.le_refl _) (by simp) ?_; (case hd => rfl); (case hg => rfl); (case hr => first | (go_simp; done) | (go_simp; rfl)); (case hp => exact (Reps.one (show Kd.M (Kd.int .i64) _ _ _ 100000000 [.int .i64 100000000] from rfl) (Reps.one (show Kd.M (Kd.int .i64) _ _ _ 100000001 [.int .i64 100000001] from rfl) (Reps.one (show Kd.M (Kd.int .i64) _ _ _ (-1) [.int .i64 (-1)] from rfl) (Reps.none _ _))))); intro v291 w21 ho22 hb hg_ hnew_; clear hg_ hnew_; (first | rw [← Ny290.out] at ho22 | (simp only [Int.reduceToNat] at ho22; rw [← Ny290.out] at ho22)); have n0_ := jA (Kd.R_below (zo HO_3) hb); have n1_ := jA (Kd.R_elder' (zo HO286) (Kd.R_base ho22) hb); have n2_ := jA (Kd.R_lower (Kd.R_new' ho22 (Kd.R_lt (zo HO286))) (keep_size (w := w) (g := g) (row := none) (zh0 HK))); have n3_ := jA (IsS86.below (by repeat (first | (with_reducible first | exact HI0.out | apply IsS86.alloc | apply IsS86.drewN | apply IsS86.drew | apply IsS86.set_1 | apply IsS86.set_2) | exact HI0.out)) hb); have n4_ := jA (KeepBut.trans (zh0 HK) (KeepBut.of_below hb g none) (.inl rfl)); have n5_ := jA (jT (by repeat (first | (with_reducible first | exact HB.out | apply jP | apply jK | apply jL | refine jQ ?_ (IsS86.ge HI0.out)) | exact HB.out)) hb); clear HO_3; clear HO286; clear HI0; clear HK; clear HB; have HO_3 := n0_; have HO286 := n1_; have HO292 := n2_; have HI0 := n3_; have HK := n4_; have HB := n5_; clear n0_ n1_ n2_ n3_ n4_ n5_; clear hb ho22; obtain ⟨Ao23, co23, eo23⟩ := Kd.R_slice HO292.out; subst eo23) | ((with_reducible refine jH (f := 68) rfl ?_); refine goesL_ (some 27) rfl rfl Try.func68 zr rfl #[.pointer (some ⟨g, 0, none⟩), .slice Ao23 y290.length co23] rfl zm ?_; (with_reducible refine (spec_l01Pick.calls g s0_0 t288 t289 _ _ y290 t293 t294 t295 w0 _ ?side1 ?side2 ?side3 ?side4 ?side5 A14.out).mono ?_); (case side1 => repeat (first | (with_reducible first | exact HI0.out | apply IsS86.alloc | apply IsS86.drewN | apply IsS86.drew | apply IsS86.set_1 | apply IsS86.set_2) | exact HI0.out)); (case side2 => repeat (first | (with_reducible first | exact HB.out | apply jP | apply jK | apply jL | refine jQ ?_ (IsS86.ge HI0.out)) | exact HB.out)); (case side3 => repeat (first | exact (jF HO292.out).2.2 | (with_reducible refine jO ?_ _) | (with_reducible refine jN ?_ _) | (with_reducible refine jS ?_))); (case side4 => exact (jF HO292.out).2.1); (case side5 => exact far_slice (IsS86.own_ne HI0.out HO292.out (by decide))); rintro e w24 ⟨rfl, hi, hb, hk⟩; refine ⟨_, rfl, ?_⟩; have n0_ := jA (Kd.R_mono (Kd.R_keep (IsS86.apart (show IsS86 w0 _ g s0_0 t288 t289 from by repeat (first | (with_reducible first | exact HI0.out | apply IsS86.alloc | apply IsS86.drewN | apply IsS86.drew | apply IsS86.set_1 | apply IsS86.set_2) | exact HI0.out)) (zo HO_3) (by decide)) hk (fun _ h => h.2)) (fun _ h => h.1)); have n1_ := jA (Kd.R_mono (Kd.R_keep (IsS86.apart (show IsS86 w0 _ g s0_0 t288 t289 from by repeat (first | (with_reducible first | exact HI0.out | apply IsS86.alloc | apply IsS86.drewN | apply IsS86.drew | apply IsS86.set_1 | apply IsS86.set_2) | exact HI0.out)) (zo HO286) (by decide)) hk (fun _ h => h.2)) (fun _ h => h.1)); have n2_ := jA (Kd.R_mono (Kd.R_keep (IsS86.apart (show IsS86 w0 _ g s0_0 t288 t289 from by repeat (first | (with_reducible first | exact HI0.out | apply IsS86.alloc | apply IsS86.drewN | apply IsS86.drew | apply IsS86.set_1 | apply IsS86.set_2) | exact HI0.out)) (zo HO292) (by decide)) hk (fun _ h => h.2)) (fun _ h => h.1)); have n3_ := jA (KeepBut.trans (zh0 HK) hk (.inl rfl)); have n4_ := jA (hb); have n5_ := jA (hi); clear HO_3; clear HO286; clear HO292; clear HK; clear HB; clear HI0; have HO_3 := n0_; have HO286 := n1_; have HO292 := n2_; have HK := n3_; have HB := n4_; have HI0 := n5_; clear n0_ n1_ n2_ n3_ n4_ n5_; (try clear hb); (try clear hb2); (try clear hk); (try clear hi)) | ((with_reducible refine gate_builtin (b := .append) (xs := #[.tmp 21, .tmp 29]) rfl ?_); at_builtin; refine Kd.R_append k51 w.heap.size rfl (.tmp 21) (.tmp 29) 28 51 (.agg #[(.int .i64 0), (.int .i64 0), (.int .i64 0)]) 24 rfl Try.underlying28 info51 rfl (by decide) (by omega) u3 x3_1 (⟨t287, 0, t293⟩ : S51) [.int .i64 t287, .int .i64 0, .int .i64 t293] (fun _ => True) (fun _ => False) rfl rfl ?aP (fun _ hk => hk.elim) ?aF ?aO (Below.refl _ _) ?aS ?aL ?_; (case aP => exact k51_mkM _ _ _ (⟨t287, 0, t293⟩ : S51)); (case aF => exact (fun _ _ => trivial)); (case aO => exact (zo HO_3)); (case aS => exact (keep_size (w := w) (g := g) (row := none) (zh0 HK))); (case aL => have := LMc15.out; omega); intro v297 w25 ho hb hg hat; rw [← Ny296.out] at ho; have n0_ := jA (IsS86.grown (by repeat (first | (with_reducible first | exact HI0.out | apply IsS86.alloc | apply IsS86.drewN | apply IsS86.drew | apply IsS86.set_1 | apply IsS86.set_2) | exact HI0.out)) hg (IsS86.own_ne HI0.out HO_3.out (by decide))); have n1_ := jA (Kd.R_over' (zo HO286) (Kd.R_typed (zo HO_3)) (by decide) hg); have n2_ := jA (Kd.R_over' (zo HO292) (Kd.R_typed (zo HO_3)) (by decide) hg); have n3_ := jA (below_weaken (by repeat (first | (with_reducible first | exact HB.out | apply jP | apply jK | apply jL | refine jQ ?_ (IsS86.ge HI0.out)) | exact HB.out)) HL.out hb); have n4_ := jA (KeepBut.trans (zh0 HK) (KeepBut.of_grown hg g) (Kd.R_base2 HO_3.out)); have n5_ := jA (ho); clear HI0; clear HO286; clear HO292; clear HB; clear HK; clear HO_3; have HI0 := n0_; have HO286 := n1_; have HO292 := n2_; have HB := n3_; have HK := n4_; have HO298 := n5_; clear n0_ n1_ n2_ n3_ n4_ n5_; clear ho hb hg hat))
      go_ret
      exact ⟨_, by first | rfl | (simp [errW_none, errW_some] <;> rfl) | (simp [*, errW_none, errW_some] <;> rfl), by (with_reducible repeat (first | apply ja | apply jZ | apply jX)); exact HO298.out, by repeat (first | (with_reducible first | exact HI0.out | apply IsS86.alloc | apply IsS86.drewN | apply IsS86.drew | apply IsS86.set_1 | apply IsS86.set_2) | exact HI0.out), by repeat (first | (with_reducible first | exact HB.out | apply jP | apply jK | apply jL | refine jQ ?_ (IsS86.ge HI0.out)) | exact HB.out), zh0 HK⟩
     ·rw [if_neg c15] at H
      exact absurd H (by simp)
    ·rw [if_neg c12] at H
     have c12b0 : (t281 == 0) = false := beq_eq_false_iff_ne.mpr c12
     have c12b1 : (t281 != 0) = true := bne_iff_ne.mpr c12
     by_cases c26 : t281 = 1
     ·rw [if_pos c26] at H
      have c26b0 : (t281 == 1) = true := beq_iff_eq.mpr c26
      have c26b1 : (t281 != 1) = false := bne_eq_false_iff_eq.mpr c26
      clear c26
      have H' := jA H
      clear H
      go_wp2_with (first | ((with_reducible refine jH (f := 69) rfl ?_); refine goesL_ (some 18) rfl rfl Try.func69 zr rfl #[.pointer (some ⟨g, 0, none⟩), .int .i64 30] rfl zm ?_; (with_reducible refine (spec_l01Next.calls g s0_0 x1001_1 x1002_1 30 t281 t282 t283 w0 _ ?side1 ?side2 A11.out).mono ?_); (case side1 => repeat (first | (with_reducible first | exact HI0.out | apply IsS86.alloc | apply IsS86.drewN | apply IsS86.drew | apply IsS86.set_1 | apply IsS86.set_2) | exact HI0.out)); (case side2 => repeat (first | (with_reducible first | exact HB.out | apply jP | apply jK | apply jL | refine jQ ?_ (IsS86.ge HI0.out)) | exact HB.out)); rintro e w27 ⟨rfl, hi, hb, hk⟩; refine ⟨_, rfl, ?_⟩; have n0_ := jA (Kd.R_mono (Kd.R_keep (IsS86.apart (show IsS86 w0 _ g s0_0 x1001_1 x1002_1 from by repeat (first | (with_reducible first | exact HI0.out | apply IsS86.alloc | apply IsS86.drewN | apply IsS86.drew | apply IsS86.set_1 | apply IsS86.set_2) | exact HI0.out)) (zo HO_3) (by decide)) hk (fun _ h => h.2)) (fun _ h => h.1)); have n1_ := jA (KeepBut.trans (zh0 HK) hk (.inl rfl)); have n2_ := jA (hb); have n3_ := jA (hi); clear HO_3; clear HK; clear HB; clear HI0; have HO_3 := n0_; have HK := n1_; have HB := n2_; have HI0 := n3_; clear n0_ n1_ n2_ n3_; (try clear hb); (try clear hb2); (try clear hk); (try clear hi)))
      go_loopg [3] k1 (fun kq v3 w' => ∃ (x3_2 : List (S51)) (x1001_2 : Int) (x1002_2 : Int), Aside0 (spec_l27Draw.l1 kq x3_2 s0_0 x1001_2 x1002_2 = some (r1, r2, r3)) ∧ Aside0 (kq ≤ k1) ∧ Aside0 (Kd.R k51 51 w' w.heap.size (fun _ => True) v3 x3_2) ∧ Aside0 (IsS86 w0 w' g s0_0 x1001_2 x1002_2) ∧ Aside0 (KeepBut w w' g none) ∧ Aside0 (Below w0.heap.size w0 w'))
      case atStart => exact ⟨(x3_1), (t282), (t283), H', ⟨Nat.le_refl _⟩, ⟨by (with_reducible repeat (first | apply ja | apply jZ | apply jX)); exact HO_3.out⟩, ⟨by repeat (first | (with_reducible first | exact HI0.out | apply IsS86.alloc | apply IsS86.drewN | apply IsS86.drew | apply IsS86.set_1 | apply IsS86.set_2) | exact HI0.out)⟩, ⟨zh0 HK⟩, ⟨by repeat (first | (with_reducible first | exact HB.out | apply jP | apply jK | apply jL | refine jQ ?_ (IsS86.ge HI0.out)) | exact HB.out)⟩⟩
      case round =>
       clear H'
       try clear c1
       try clear c2
       try clear p2
       try clear c6
       try clear c6b0
       try clear p6
       try clear c7
       try clear c8
       try clear c12
       try clear c12b0
       try clear c12b1
       try clear c15
       try clear c26
       try clear c26b0
       try clear c26b1
       try clear p2
       obtain ⟨x3_2, x1001_2, x1002_2, HA, HK2, HO_3, HI0, HK, HB⟩ := hrel
       cases gk with
       | zero => exact absurd HA.out (by simp [spec_l27Draw.l1])
       | succ k2 =>
        have H := HA.out
        clear HA
        simp only [spec_l27Draw.l1] at H
        replace H := jD.mp H
        obtain ⟨⟨t299, t300, t301⟩, A280, H⟩ := H
        replace H : (if (x3_2.length : Int) < (wrap64 (8 + t299)) then ((spec_l27Good.f s0_0 t300 t301).bind fun bt302 => (if x3_2.length < 5864062014805 then (spec_l27Draw.l1 k2 (x3_2 ++ [(⟨bt302.1, bt302.2.1, bt302.2.2.1⟩ : S51)]) s0_0 bt302.2.2.2.1 bt302.2.2.2.2) else (none))) else (some (x3_2, t300, t301))) = some (r1, r2, r3) := H
        have A28 := jA A280
        clear A280
        by_cases c29 : (x3_2.length : Int) < (wrap64 (8 + t299))
        ·rw [if_pos c29] at H
         have c29b0 : decide ((x3_2.length : Int) < (wrap64 (8 + t299))) = true := jG c29
         clear c29
         replace H := jD.mp H
         obtain ⟨⟨t302, t303, t304, t305, t306⟩, A300, H⟩ := H
         replace H : (if x3_2.length < 5864062014805 then (spec_l27Draw.l1 k2 (x3_2 ++ [(⟨t302, t303, t304⟩ : S51)]) s0_0 t305 t306) else (none)) = some (r1, r2, r3) := H
         have A30 := jA A300
         clear A300
         by_cases c31 : x3_2.length < 5864062014805
         ·rw [if_pos c31] at H
          have LMc31 := jA c31
          clear c31
          obtain ⟨y307, hy307⟩ : ∃ y_ : List (S51), y_ = (x3_2 ++ [(⟨t302, t303, t304⟩ : S51)]) := ⟨_, rfl⟩
          replace H : (spec_l27Draw.l1 k2 y307 s0_0 t305 t306) = some (r1, r2, r3) := by first | (rw [hy307]; with_reducible exact H) | (have H2_ := (Option.bind_some _ _).symm.trans H; rw [hy307]; with_reducible exact H2_) | (have H2_ := (Option.bind_some _ _).symm.trans H; with_reducible exact H2_) | with_reducible exact H | (rw [hy307]; exact H) | exact H
          have Ny307 := jA hy307
          clear hy307
          have H' := jA H
          clear H
          obtain ⟨Ao32, co32, eo32⟩ := Kd.R_slice HO_3.out
          subst eo32
          go_wp2_with (first | ((with_reducible refine jH (f := 69) rfl ?_); refine goesL_ (some 36) rfl rfl Try.func69 zr rfl #[.pointer (some ⟨g, 0, none⟩), .int .i64 2] rfl zm ?_; (with_reducible refine (spec_l01Next.calls g s0_0 x1001_2 x1002_2 2 t299 t300 t301 w0 _ ?side1 ?side2 A28.out).mono ?_); (case side1 => repeat (first | (with_reducible first | exact HI0.out | apply IsS86.alloc | apply IsS86.drewN | apply IsS86.drew | apply IsS86.set_1 | apply IsS86.set_2) | exact HI0.out)); (case side2 => repeat (first | (with_reducible first | exact HB.out | apply jP | apply jK | apply jL | refine jQ ?_ (IsS86.ge HI0.out)) | exact HB.out)); rintro e w33 ⟨rfl, hi, hb, hk⟩; refine ⟨_, rfl, ?_⟩; have n0_ := jA (Kd.R_mono (Kd.R_keep (IsS86.apart (show IsS86 w0 _ g s0_0 x1001_2 x1002_2 from by repeat (first | (with_reducible first | exact HI0.out | apply IsS86.alloc | apply IsS86.drewN | apply IsS86.drew | apply IsS86.set_1 | apply IsS86.set_2) | exact HI0.out)) (zo HO_3) (by decide)) hk (fun _ h => h.2)) (fun _ h => h.1)); have n1_ := jA (KeepBut.trans (zh0 HK) hk (.inl rfl)); have n2_ := jA (hb); have n3_ := jA (hi); clear HO_3; clear HK; clear HB; clear HI0; have HO_3 := n0_; have HK := n1_; have HB := n2_; have HI0 := n3_; clear n0_ n1_ n2_ n3_; (try clear hb); (try clear hb2); (try clear hk); (try clear hi)) | ((with_reducible refine jH (f := 87) rfl ?_); refine goesL_ (some 41) rfl rfl Try.func87 zr rfl #[.pointer (some ⟨g, 0, none⟩)] rfl zm ?_; (with_reducible refine (spec_l27Good.calls g s0_0 t300 t301 t302 t303 t304 t305 t306 w0 _ ?side1 ?side2 A30.out).mono ?_); (case side1 => repeat (first | (with_reducible first | exact HI0.out | apply IsS86.alloc | apply IsS86.drewN | apply IsS86.drew | apply IsS86.set_1 | apply IsS86.set_2) | exact HI0.out)); (case side2 => repeat (first | (with_reducible first | exact HB.out | apply jP | apply jK | apply jL | refine jQ ?_ (IsS86.ge HI0.out)) | exact HB.out)); rintro e w34 ⟨rfl, hi, hb, hk⟩; refine ⟨_, rfl, ?_⟩; have n0_ := jA (Kd.R_mono (Kd.R_keep (IsS86.apart (show IsS86 w0 _ g s0_0 t300 t301 from by repeat (first | (with_reducible first | exact HI0.out | apply IsS86.alloc | apply IsS86.drewN | apply IsS86.drew | apply IsS86.set_1 | apply IsS86.set_2) | exact HI0.out)) (zo HO_3) (by decide)) hk (fun _ h => h.2)) (fun _ h => h.1)); have n1_ := jA (KeepBut.trans (zh0 HK) hk (.inl rfl)); have n2_ := jA (hb); have n3_ := jA (hi); clear HO_3; clear HK; clear HB; clear HI0; have HO_3 := n0_; have HK := n1_; have HB := n2_; have HI0 := n3_; clear n0_ n1_ n2_ n3_; (try clear hb); (try clear hb2); (try clear hk); (try clear hi)) | ((with_reducible refine gate_builtin (b := .append) (xs := #[.tmp 39, .tmp 42]) rfl ?_); at_builtin; refine Kd.R_append k51 w.heap.size rfl (.tmp 39) (.tmp 42) 28 51 (.agg #[(.int .i64 0), (.int .i64 0), (.int .i64 0)]) 24 rfl Try.underlying28 info51 rfl (by decide) (by omega) (.slice Ao32 x3_2.length co32) x3_2 (⟨t302, t303, t304⟩ : S51) [.int .i64 t302, .int .i64 t303, .int .i64 t304] (fun _ => True) (fun _ => False) rfl rfl ?aP (fun _ hk => hk.elim) ?aF ?aO (Below.refl _ _) ?aS ?aL ?_; (case aP => exact k51_mkM _ _ _ (⟨t302, t303, t304⟩ : S51)); (case aF => exact (fun _ _ => trivial)); (case aO => exact (zo HO_3)); (case aS => exact (keep_size (w := w) (g := g) (row := none) (zh0 HK))); (case aL => have := LMc31.out; omega); intro v308 w35 ho hb hg hat; rw [← Ny307.out] at ho; have n0_ := jA (IsS86.grown (by repeat (first | (with_reducible first | exact HI0.out | apply IsS86.alloc | apply IsS86.drewN | apply IsS86.drew | apply IsS86.set_1 | apply IsS86.set_2) | exact HI0.out)) hg (IsS86.own_ne HI0.out HO_3.out (by decide))); have n1_ := jA (below_weaken (by repeat (first | (with_reducible first | exact HB.out | apply jP | apply jK | apply jL | refine jQ ?_ (IsS86.ge HI0.out)) | exact HB.out)) HL.out hb); have n2_ := jA (KeepBut.trans (zh0 HK) (KeepBut.of_grown hg g) (Kd.R_base2 HO_3.out)); have n3_ := jA (ho); clear HI0; clear HB; clear HK; clear HO_3; have HI0 := n0_; have HB := n1_; have HK := n2_; have HO309 := n3_; clear n0_ n1_ n2_ n3_; clear ho hb hg hat))
          go_roundg k2
          case measure => have := HK1.out; have := HK2.out; omega
          case rel => exact ⟨(y307), (t305), (t306), H', ⟨by have := HK1.out; have := HK2.out; omega⟩, ⟨by (with_reducible repeat (first | apply ja | apply jZ | apply jX)); exact HO309.out⟩, ⟨by repeat (first | (with_reducible first | exact HI0.out | apply IsS86.alloc | apply IsS86.drewN | apply IsS86.drew | apply IsS86.set_1 | apply IsS86.set_2) | exact HI0.out)⟩, ⟨zh0 HK⟩, ⟨by repeat (first | (with_reducible first | exact HB.out | apply jP | apply jK | apply jL | refine jQ ?_ (IsS86.ge HI0.out)) | exact HB.out)⟩⟩
         ·rw [if_neg c31] at H
          exact absurd H (by simp)
        ·rw [if_neg c29] at H
         have c29b0 : decide ((x3_2.length : Int) < (wrap64 (8 + t299))) = false := jb c29
         clear c29
         simp only [jU, jY] at H
         obtain ⟨rfl, rfl, rfl⟩ := H
         obtain ⟨Ao36, co36, eo36⟩ := Kd.R_slice HO_3.out
         subst eo36
         go_wp2_with (first | ((with_reducible refine jH (f := 69) rfl ?_); refine goesL_ (some 36) rfl rfl Try.func69 zr rfl #[.pointer (some ⟨g, 0, none⟩), .int .i64 2] rfl zm ?_; (with_reducible refine (spec_l01Next.calls g s0_0 x1001_2 x1002_2 2 t299 t300 t301 w0 _ ?side1 ?side2 A28.out).mono ?_); (case side1 => repeat (first | (with_reducible first | exact HI0.out | apply IsS86.alloc | apply IsS86.drewN | apply IsS86.drew | apply IsS86.set_1 | apply IsS86.set_2) | exact HI0.out)); (case side2 => repeat (first | (with_reducible first | exact HB.out | apply jP | apply jK | apply jL | refine jQ ?_ (IsS86.ge HI0.out)) | exact HB.out)); rintro e w37 ⟨rfl, hi, hb, hk⟩; refine ⟨_, rfl, ?_⟩; have n0_ := jA (Kd.R_mono (Kd.R_keep (IsS86.apart (show IsS86 w0 _ g s0_0 x1001_2 x1002_2 from by repeat (first | (with_reducible first | exact HI0.out | apply IsS86.alloc | apply IsS86.drewN | apply IsS86.drew | apply IsS86.set_1 | apply IsS86.set_2) | exact HI0.out)) (zo HO_3) (by decide)) hk (fun _ h => h.2)) (fun _ h => h.1)); have n1_ := jA (KeepBut.trans (zh0 HK) hk (.inl rfl)); have n2_ := jA (hb); have n3_ := jA (hi); clear HO_3; clear HK; clear HB; clear HI0; have HO_3 := n0_; have HK := n1_; have HB := n2_; have HI0 := n3_; clear n0_ n1_ n2_ n3_; (try clear hb); (try clear hb2); (try clear hk); (try clear hi)))
         go_ret
         exact ⟨_, by first | rfl | (simp [errW_none, errW_some] <;> rfl) | (simp [*, errW_none, errW_some] <;> rfl), by (with_reducible repeat (first | apply ja | apply jZ | apply jX)); exact HO_3.out, by repeat (first | (with_reducible first | exact HI0.out | apply IsS86.alloc | apply IsS86.drewN | apply IsS86.drew | apply IsS86.set_1 | apply IsS86.set_2) | exact HI0.out), by repeat (first | (with_reducible first | exact HB.out | apply jP | apply jK | apply jL | refine jQ ?_ (IsS86.ge HI0.out)) | exact HB.out), zh0 HK⟩
     ·rw [if_neg c26] at H
      have c26b0 : (t281 == 1) = false := beq_eq_false_iff_ne.mpr c26
      have c26b1 : (t281 != 1) = true := bne_iff_ne.mpr c26
      simp only [jU, jY] at H
      obtain ⟨rfl, rfl, rfl⟩ := H
      go_wp2_with (first | ((with_reducible refine jH (f := 69) rfl ?_); refine goesL_ (some 18) rfl rfl Try.func69 zr rfl #[.pointer (some ⟨g, 0, none⟩), .int .i64 30] rfl zm ?_; (with_reducible refine (spec_l01Next.calls g s0_0 x1001_1 x1002_1 30 t281 t282 t283 w0 _ ?side1 ?side2 A11.out).mono ?_); (case side1 => repeat (first | (with_reducible first | exact HI0.out | apply IsS86.alloc | apply IsS86.drewN | apply IsS86.drew | apply IsS86.set_1 | apply IsS86.set_2) | exact HI0.out)); (case side2 => repeat (first | (with_reducible first | exact HB.out | apply jP | apply jK | apply jL | refine jQ ?_ (IsS86.ge HI0.out)) | exact HB.out)); rintro e w38 ⟨rfl, hi, hb, hk⟩; refine ⟨_, rfl, ?_⟩; have n0_ := jA (Kd.R_mono (Kd.R_keep (IsS86.apart (show IsS86 w0 _ g s0_0 x1001_1 x1002_1 from by repeat (first | (with_reducible first | exact HI0.out | apply IsS86.alloc | apply IsS86.drewN | apply IsS86.drew | apply IsS86.set_1 | apply IsS86.set_2) | exact HI0.out)) (zo HO_3) (by decide)) hk (fun _ h => h.2)) (fun _ h => h.1)); have n1_ := jA (KeepBut.trans (zh0 HK) hk (.inl rfl)); have n2_ := jA (hb); have n3_ := jA (hi); clear HO_3; clear HK; clear HB; clear HI0; have HO_3 := n0_; have HK := n1_; have HB := n2_; have HI0 := n3_; clear n0_ n1_ n2_ n3_; (try clear hb); (try clear hb2); (try clear hk); (try clear hi)))
      go_ret
      exact ⟨_, by first | rfl | (simp [errW_none, errW_some] <;> rfl) | (simp [*, errW_none, errW_some] <;> rfl), by (with_reducible repeat (first | apply ja | apply jZ | apply jX)); exact HO_3.out, by repeat (first | (with_reducible first | exact HI0.out | apply IsS86.alloc | apply IsS86.drewN | apply IsS86.drew | apply IsS86.set_1 | apply IsS86.set_2) | exact HI0.out), by repeat (first | (with_reducible first | exact HB.out | apply jP | apply jK | apply jL | refine jQ ?_ (IsS86.ge HI0.out)) | exact HB.out), zh0 HK⟩

/-! ### spec_DrawLimitOf: function 49 -/
def spec_DrawLimitOf.f (k : Nat) (l0 : List Int) : Option ((List (S51)) × Int × Int) := (spec_l01From.f k l0).bind fun bt310 => ((spec_l27Draw.f k bt310.1 bt310.2.1 bt310.2.2).bind fun bt314 => ((spec_l27Factor.f bt310.1 bt314.2.1 bt314.2.2).bind fun bt319 => ((spec_l01Next.f bt310.1 bt319.2.1 bt319.2.2 (wrap64 ((bt314.1.length : Int) + 1))).bind fun bt322 => ((spec_l01Next.f bt310.1 bt322.2.1 bt322.2.2 24).bind fun bt325 => (some (bt314.1, bt319.1, wrap64 (bt322.1 - (wrap64 (Int.tdiv bt325.1 23)))))))))
theorem spec_DrawLimitOf.mono : ∀ a0 k, LeO (spec_DrawLimitOf.f k a0) (spec_DrawLimitOf.f (k + 1) a0) := by
 intro a0 k
 unfold spec_DrawLimitOf.f
 repeat' first
   | (with_reducible exact spec_l01From.mono _ _)
   | (with_reducible exact spec_l27Draw.mono _ _ _ _)
   | (with_reducible exact LeO.refl _)
   | (with_reducible exact LeO.none _)
   | (with_reducible refine LeO.ite ?_ ?_)
   | (with_reducible refine LeO.bind ?_ (fun _ => ?_))
   | exact spec_l01From.mono _ _
   | exact spec_l27Draw.mono _ _ _ _
   | exact LeO.none _
   | refine LeO.ite ?_ ?_
   | refine LeO.bind ?_ (fun _ => ?_)
set_option maxHeartbeats 8000000 in
set_option maxRecDepth 100000 in
theorem spec_DrawLimitOf.calls (k : Nat) (A0 : Option Addr) (c0 : Nat) (l0 : List Int) (r1 : List (S51)) (r2 : Int) (r3 : Int) (w : World) (hr0 : Kd.C (Kd.int .u8) w A0 l0.length l0) (hc0 : l0.length ≤ c0) (h : spec_DrawLimitOf.f k l0 = some (r1, r2, r3)) :
  Calls Try.prog 49 #[.slice A0 l0.length c0] w fun e w' => ∃ v0_ : Value, e = .returned (.tuple #[v0_, .int .i64 r2, .int .i64 r3]) ∧ Kd.R k51 51 w' w.heap.size (fun _ => True) v0_ r1 ∧ Below w.heap.size w w' := by
 have HR0 := jA hr0
 have HC0 := jA hc0
 clear hr0 hc0
 have HB := jA (Below.refl w.heap.size w)
 have H : ((spec_l01From.f k l0).bind fun bt310 => ((spec_l27Draw.f k bt310.1 bt310.2.1 bt310.2.2).bind fun bt314 => ((spec_l27Factor.f bt310.1 bt314.2.1 bt314.2.2).bind fun bt319 => ((spec_l01Next.f bt310.1 bt319.2.1 bt319.2.2 (wrap64 ((bt314.1.length : Int) + 1))).bind fun bt322 => ((spec_l01Next.f bt310.1 bt322.2.1 bt322.2.2 24).bind fun bt325 => (some (bt314.1, bt319.1, wrap64 (bt322.1 - (wrap64 (Int.tdiv bt325.1 23)))))))))) = some (r1, r2, r3) := h
 clear h
 replace H := jD.mp H
 obtain ⟨⟨t310, t311, t312⟩, A20, H⟩ := H
 replace H : ((spec_l27Draw.f k t310 t311 t312).bind fun bt314 => ((spec_l27Factor.f t310 bt314.2.1 bt314.2.2).bind fun bt319 => ((spec_l01Next.f t310 bt319.2.1 bt319.2.2 (wrap64 ((bt314.1.length : Int) + 1))).bind fun bt322 => ((spec_l01Next.f t310 bt322.2.1 bt322.2.2 24).bind fun bt325 => (some (bt314.1, bt319.1, wrap64 (bt322.1 - (wrap64 (Int.tdiv bt325.1 23))))))))) = some (r1, r2, r3) := H
 have A2 := jA A20
 clear A20
 replace H := jD.mp H
 obtain ⟨⟨t314, t317, t318⟩, A30, H⟩ := H
 replace H : ((spec_l27Factor.f t310 t317 t318).bind fun bt319 => ((spec_l01Next.f t310 bt319.2.1 bt319.2.2 (wrap64 ((t314.length : Int) + 1))).bind fun bt322 => ((spec_l01Next.f t310 bt322.2.1 bt322.2.2 24).bind fun bt325 => (some (t314, bt319.1, wrap64 (bt322.1 - (wrap64 (Int.tdiv bt325.1 23)))))))) = some (r1, r2, r3) := H
 have A3 := jA A30
 clear A30
 replace H := jD.mp H
 obtain ⟨⟨t319, t320, t321⟩, A40, H⟩ := H
 replace H : ((spec_l01Next.f t310 t320 t321 (wrap64 ((t314.length : Int) + 1))).bind fun bt322 => ((spec_l01Next.f t310 bt322.2.1 bt322.2.2 24).bind fun bt325 => (some (t314, t319, wrap64 (bt322.1 - (wrap64 (Int.tdiv bt325.1 23))))))) = some (r1, r2, r3) := H
 have A4 := jA A40
 clear A40
 replace H := jD.mp H
 obtain ⟨⟨t322, t323, t324⟩, A50, H⟩ := H
 replace H : ((spec_l01Next.f t310 t323 t324 24).bind fun bt325 => (some (t314, t319, wrap64 (t322 - (wrap64 (Int.tdiv bt325.1 23)))))) = some (r1, r2, r3) := H
 have A5 := jA A50
 clear A50
 replace H := jD.mp H
 obtain ⟨⟨t325, t326, t327⟩, A60, H⟩ := H
 replace H : (some (t314, t319, wrap64 (t322 - (wrap64 (Int.tdiv t325 23))))) = some (r1, r2, r3) := H
 have A6 := jA A60
 clear A60
 simp only [jU, jY] at H
 obtain ⟨rfl, rfl, rfl⟩ := H
 go_enter Try.func49, Try.ntmps49
 go_wp2_with (first | ((with_reducible refine jH (f := 66) rfl ?_); refine goesL_ (some 9) rfl rfl Try.func66 zr rfl #[.slice A0 l0.length c0] rfl zm ?_; (with_reducible refine (spec_l01From.calls k _ _ l0 t310 t311 t312 w _ ?side1 ?side2 ?side3 A2.out).mono ?_); (case side1 => repeat (first | (with_reducible first | exact HB.out | apply jP | apply jK | apply jL) | exact HB.out)); (case side2 => exact HR0.out); (case side3 => exact HC0.out); rintro e w7 ⟨g313, rfl, hi, hb, hb2⟩; refine ⟨_, rfl, ?_⟩; have n0_ := jA (hb); have n1_ := jA (hi); clear HB; have HB := n0_; have HI313 := n1_; clear n0_ n1_; (try clear hb); (try clear hb2); (try clear hk); (try clear hi)) | ((with_reducible refine jH (f := 75) rfl ?_); refine goesL_ (some 11) rfl rfl Try.func75 zr rfl #[.pointer (some ⟨g313, 0, none⟩)] rfl zm ?_; (with_reducible refine (spec_l27Draw.calls k g313 t310 t311 t312 t314 t317 t318 w _ ?side1 ?side2 A3.out).mono ?_); (case side1 => repeat (first | (with_reducible first | exact HI313.out | apply IsS86.alloc | apply IsS86.drewN | apply IsS86.drew | apply IsS86.set_1 | apply IsS86.set_2) | exact HI313.out)); (case side2 => repeat (first | (with_reducible first | exact HB.out | apply jP | apply jK | apply jL | refine jQ ?_ (IsS86.ge HI313.out)) | exact HB.out)); rintro e w8 ⟨v315, rfl, ho0, hi, hb, hk⟩; refine ⟨_, rfl, ?_⟩; have n0_ := jA (Kd.R_lower ho0 (jW (by repeat (first | (with_reducible first | exact HB.out | apply jP | apply jK | apply jL | refine jQ ?_ (IsS86.ge HI313.out)) | exact HB.out)))); have n1_ := jA (hb); have n2_ := jA (hi); clear HB; clear HI313; have HO316 := n0_; have HB := n1_; have HI313 := n2_; clear n0_ n1_ n2_; (try clear hb); (try clear hb2); (try clear hk); (try clear hi); (try clear ho0)) | ((with_reducible refine jH (f := 67) rfl ?_); refine goesL_ (some 13) rfl rfl Try.func67 zr rfl #[.pointer (some ⟨g313, 0, none⟩)] rfl zm ?_; (with_reducible refine (spec_l27Factor.calls g313 t310 t317 t318 t319 t320 t321 w _ ?side1 ?side2 A4.out).mono ?_); (case side1 => repeat (first | (with_reducible first | exact HI313.out | apply IsS86.alloc | apply IsS86.drewN | apply IsS86.drew | apply IsS86.set_1 | apply IsS86.set_2) | exact HI313.out)); (case side2 => repeat (first | (with_reducible first | exact HB.out | apply jP | apply jK | apply jL | refine jQ ?_ (IsS86.ge HI313.out)) | exact HB.out)); rintro e w9 ⟨rfl, hi, hb, hk⟩; refine ⟨_, rfl, ?_⟩; have n0_ := jA (Kd.R_mono (Kd.R_keep (IsS86.apart (show IsS86 w _ g313 t310 t317 t318 from by repeat (first | (with_reducible first | exact HI313.out | apply IsS86.alloc | apply IsS86.drewN | apply IsS86.drew | apply IsS86.set_1 | apply IsS86.set_2) | exact HI313.out)) (zo HO316) (by decide)) hk (fun _ h => h.2)) (fun _ h => h.1)); have n1_ := jA (hb); have n2_ := jA (hi); clear HO316; clear HB; clear HI313; have HO316 := n0_; have HB := n1_; have HI313 := n2_; clear n0_ n1_ n2_; (try clear hb); (try clear hb2); (try clear hk); (try clear hi); obtain ⟨Ao10, co10, eo10⟩ := Kd.R_slice HO316.out; subst eo10) | ((with_reducible refine jH (f := 69) rfl ?_); refine goesL_ (some 20) rfl rfl Try.func69 zr rfl #[.pointer (some ⟨g313, 0, none⟩), .int .i64 (wrap64 ((t314.length : Int) + 1))] rfl zm ?_; (with_reducible refine (spec_l01Next.calls g313 t310 t320 t321 (wrap64 ((t314.length : Int) + 1)) t322 t323 t324 w _ ?side1 ?side2 A5.out).mono ?_); (case side1 => repeat (first | (with_reducible first | exact HI313.out | apply IsS86.alloc | apply IsS86.drewN | apply IsS86.drew | apply IsS86.set_1 | apply IsS86.set_2) | exact HI313.out)); (case side2 => repeat (first | (with_reducible first | exact HB.out | apply jP | apply jK | apply jL | refine jQ ?_ (IsS86.ge HI313.out)) | exact HB.out)); rintro e w11 ⟨rfl, hi, hb, hk⟩; refine ⟨_, rfl, ?_⟩; have n0_ := jA (Kd.R_mono (Kd.R_keep (IsS86.apart (show IsS86 w _ g313 t310 t320 t321 from by repeat (first | (with_reducible first | exact HI313.out | apply IsS86.alloc | apply IsS86.drewN | apply IsS86.drew | apply IsS86.set_1 | apply IsS86.set_2) | exact HI313.out)) (zo HO316) (by decide)) hk (fun _ h => h.2)) (fun _ h => h.1)); have n1_ := jA (hb); have n2_ := jA (hi); clear HO316; clear HB; clear HI313; have HO316 := n0_; have HB := n1_; have HI313 := n2_; clear n0_ n1_ n2_; (try clear hb); (try clear hb2); (try clear hk); (try clear hi)) | ((with_reducible refine jH (f := 69) rfl ?_); refine goesL_ (some 22) rfl rfl Try.func69 zr rfl #[.pointer (some ⟨g313, 0, none⟩), .int .i64 24] rfl zm ?_; (with_reducible refine (spec_l01Next.calls g313 t310 t323 t324 24 t325 t326 t327 w _ ?side1 ?side2 A6.out).mono ?_); (case side1 => repeat (first | (with_reducible first | exact HI313.out | apply IsS86.alloc | apply IsS86.drewN | apply IsS86.drew | apply IsS86.set_1 | apply IsS86.set_2) | exact HI313.out)); (case side2 => repeat (first | (with_reducible first | exact HB.out | apply jP | apply jK | apply jL | refine jQ ?_ (IsS86.ge HI313.out)) | exact HB.out)); rintro e w12 ⟨rfl, hi, hb, hk⟩; refine ⟨_, rfl, ?_⟩; have n0_ := jA (Kd.R_mono (Kd.R_keep (IsS86.apart (show IsS86 w _ g313 t310 t323 t324 from by repeat (first | (with_reducible first | exact HI313.out | apply IsS86.alloc | apply IsS86.drewN | apply IsS86.drew | apply IsS86.set_1 | apply IsS86.set_2) | exact HI313.out)) (zo HO316) (by decide)) hk (fun _ h => h.2)) (fun _ h => h.1)); have n1_ := jA (hb); have n2_ := jA (hi); clear HO316; clear HB; clear HI313; have HO316 := n0_; have HB := n1_; have HI313 := n2_; clear n0_ n1_ n2_; (try clear hb); (try clear hb2); (try clear hk); (try clear hi)))
 go_ret3
 exact ⟨_, by first | rfl | (simp [errW_none, errW_some] <;> rfl) | (simp [*, errW_none, errW_some] <;> rfl), by (with_reducible repeat (first | apply ja | apply jZ | apply jX)); exact HO316.out, by repeat (first | (with_reducible first | exact HB.out | apply jP | apply jK | apply jL | refine jQ ?_ (IsS86.ge HI313.out)) | exact HB.out)⟩

end Go.Proofs.Ytmhnkhealidjjaa.PFnDepots
