/- Functions and contracts that FnTries reaches (10 of 13). -/
import Derived.Test.YthnpffomoaeeoaaQFnTriesx8
namespace Go.Proofs.Ythnpffomoaeeoaa.PFnTries
open Go.RowKit Go.Proofs.YthnpffomoaeeoaaW.PrintWords Go.Proofs.YthnpffomoaeeoaaW.PrintLast Go.Proofs.YthnpffomoaeeoaaW.PrintMore
attribute [local go_sem] max2_int min2_int max_two min_two max_three min_three max_four min_four   -- for this text's walks alone
set_option linter.unusedVariables false
set_option linter.unusedSimpArgs false

/-! ### spec_l24Draw: function 63 -/
def spec_l24Draw.l0 : Nat → List (S36) → Int → List Int → Int → Int → Option ((List (S36)) × Int × Int)
 | 0, _, _, _, _, _ => none
 | k + 1, x3, x4, x1000, x1001, x1002 => (spec_l01Next.f x1000 x1001 x1002 2).bind fun bt298 => (if (x3.length : Int) < (wrap64 (40 + bt298.1)) then (if x3.length < 5864062014805 then (spec_l24Draw.l0 k (x3 ++ [(⟨wrap64 (4 + (Int.tmod x4 16)), wrap64 (2000 + (wrap64 (50 * (wrap64 (Int.tdiv x4 16))))), false⟩ : S36)]) (wrap64 (x4 + 1)) x1000 bt298.2.1 bt298.2.2) else (none)) else (some (x3, bt298.2.1, bt298.2.2)))
def spec_l24Draw.f (k : Nat) (s0_0 : List Int) (s0_1 : Int) (s0_2 : Int) : Option ((List (S36)) × Int × Int) := (spec_l24Good.f k s0_0 s0_1 s0_2).bind fun bt275 => ((spec_l01Next.f s0_0 bt275.2.1 bt275.2.2 30).bind fun bt280 => (if bt280.1 = 0 then ((spec_l01Pick.f s0_0 bt280.2.1 bt280.2.2 (([(-1), 19, 20, 0] : List Int))).bind fun bt286 => ((spec_l01Pick.f s0_0 bt286.2.1 bt286.2.2 (([0, 100000, 100001] : List Int))).bind fun bt292 => (if bt275.1.length < 5864062014805 then (some ((bt275.1 ++ [(⟨bt286.1, bt292.1, false⟩ : S36)]), bt292.2.1, bt292.2.2)) else (none)))) else (if bt280.1 = 1 then (spec_l24Draw.l0 k bt275.1 0 s0_0 bt280.2.1 bt280.2.2) else (some (bt275.1, bt280.2.1, bt280.2.2)))))
theorem spec_l24Draw.mono_l : ∀ k, (∀ y0 y1 y2 y3 y4, LeO (spec_l24Draw.l0 k y0 y1 y2 y3 y4) (spec_l24Draw.l0 (k + 1) y0 y1 y2 y3 y4))
 | 0 => fun _ _ _ _ _ r h => by simp [spec_l24Draw.l0] at h
 | k + 1 => by
  have ih0 := spec_l24Draw.mono_l k
  ·intro y0 y1 y2 y3 y4
   unfold spec_l24Draw.l0
   repeat' first
   | (with_reducible exact ih0 _ _ _ _ _)
   | (with_reducible exact spec_l24Good.mono _ _ _ _)
   | (with_reducible exact LeO.refl _)
   | (with_reducible exact LeO.none _)
   | (with_reducible refine LeO.ite ?_ ?_)
   | (with_reducible refine LeO.bind ?_ (fun _ => ?_))
   | exact ih0 _ _ _ _ _
   | exact spec_l24Good.mono _ _ _ _
   | exact LeO.none _
   | refine LeO.ite ?_ ?_
   | refine LeO.bind ?_ (fun _ => ?_)
theorem spec_l24Draw.mono : ∀ a0 a1 a2 k, LeO (spec_l24Draw.f k a0 a1 a2) (spec_l24Draw.f (k + 1) a0 a1 a2) := by
 intro a0 a1 a2 k
 have ih0 := spec_l24Draw.mono_l k
 unfold spec_l24Draw.f
 repeat' first
   | (with_reducible exact ih0 _ _ _ _ _)
   | (with_reducible exact spec_l24Good.mono _ _ _ _)
   | (with_reducible exact LeO.refl _)
   | (with_reducible exact LeO.none _)
   | (with_reducible refine LeO.ite ?_ ?_)
   | (with_reducible refine LeO.bind ?_ (fun _ => ?_))
   | exact ih0 _ _ _ _ _
   | exact spec_l24Good.mono _ _ _ _
   | exact LeO.none _
   | refine LeO.ite ?_ ?_
   | refine LeO.bind ?_ (fun _ => ?_)
set_option maxHeartbeats 8000000 in
set_option maxRecDepth 100000 in
theorem spec_l24Draw.calls (k : Nat) (g : Nat) (s0_0 : List Int) (s0_1 : Int) (s0_2 : Int) (r1 : List (S36)) (r2 : Int) (r3 : Int) (w0 w : World) (hI : IsS67 w0 w g s0_0 s0_1 s0_2) (hB : Below w0.heap.size w0 w) (h : spec_l24Draw.f k s0_0 s0_1 s0_2 = some (r1, r2, r3)) :
  Calls Try.prog 63 #[.pointer (some ⟨g, 0, none⟩)] w fun e w' => ∃ v0_ : Value, e = .returned (v0_) ∧ Kd.R k36 36 w' w.heap.size (fun _ => True) v0_ r1 ∧ IsS67 w0 w' g s0_0 r2 r3 ∧ Below w0.heap.size w0 w' ∧ KeepBut w w' g none := by
 have hu36 := Try.underlying36
 have HI0 := jA hI
 have HK := jA (KeepBut.refl w g none)
 have HL := jA hB.size
 clear hI
 have HW0 := jA hB.size
 have HB := jA hB
 clear hB
 have H : ((spec_l24Good.f k s0_0 s0_1 s0_2).bind fun bt275 => ((spec_l01Next.f s0_0 bt275.2.1 bt275.2.2 30).bind fun bt280 => (if bt280.1 = 0 then ((spec_l01Pick.f s0_0 bt280.2.1 bt280.2.2 (([(-1), 19, 20, 0] : List Int))).bind fun bt286 => ((spec_l01Pick.f s0_0 bt286.2.1 bt286.2.2 (([0, 100000, 100001] : List Int))).bind fun bt292 => (if bt275.1.length < 5864062014805 then (some ((bt275.1 ++ [(⟨bt286.1, bt292.1, false⟩ : S36)]), bt292.2.1, bt292.2.2)) else (none)))) else (if bt280.1 = 1 then (spec_l24Draw.l0 k bt275.1 0 s0_0 bt280.2.1 bt280.2.2) else (some (bt275.1, bt280.2.1, bt280.2.2)))))) = some (r1, r2, r3) := h
 clear h
 replace H := jG.mp H
 obtain ⟨⟨t275, t278, t279⟩, A20, H⟩ := H
 replace H : ((spec_l01Next.f s0_0 t278 t279 30).bind fun bt280 => (if bt280.1 = 0 then ((spec_l01Pick.f s0_0 bt280.2.1 bt280.2.2 (([(-1), 19, 20, 0] : List Int))).bind fun bt286 => ((spec_l01Pick.f s0_0 bt286.2.1 bt286.2.2 (([0, 100000, 100001] : List Int))).bind fun bt292 => (if t275.length < 5864062014805 then (some ((t275 ++ [(⟨bt286.1, bt292.1, false⟩ : S36)]), bt292.2.1, bt292.2.2)) else (none)))) else (if bt280.1 = 1 then (spec_l24Draw.l0 k t275 0 s0_0 bt280.2.1 bt280.2.2) else (some (t275, bt280.2.1, bt280.2.2))))) = some (r1, r2, r3) := H
 have A2 := jA A20
 clear A20
 replace H := jG.mp H
 obtain ⟨⟨t280, t281, t282⟩, A30, H⟩ := H
 replace H : (if t280 = 0 then ((spec_l01Pick.f s0_0 t281 t282 (([(-1), 19, 20, 0] : List Int))).bind fun bt286 => ((spec_l01Pick.f s0_0 bt286.2.1 bt286.2.2 (([0, 100000, 100001] : List Int))).bind fun bt292 => (if t275.length < 5864062014805 then (some ((t275 ++ [(⟨bt286.1, bt292.1, false⟩ : S36)]), bt292.2.1, bt292.2.2)) else (none)))) else (if t280 = 1 then (spec_l24Draw.l0 k t275 0 s0_0 t281 t282) else (some (t275, t281, t282)))) = some (r1, r2, r3) := H
 have A3 := jA A30
 clear A30
 by_cases c4 : t280 = 0
 ·rw [if_pos c4] at H
  have c4b0 : (t280 == 0) = true := beq_iff_eq.mpr c4
  have c4b1 : (t280 != 0) = false := bne_eq_false_iff_eq.mpr c4
  clear c4
  obtain ⟨y283, hy283⟩ : ∃ y_ : List Int, y_ = (([(-1), 19, 20, 0] : List Int)) := ⟨_, rfl⟩
  replace H : ((spec_l01Pick.f s0_0 t281 t282 y283).bind fun bt286 => ((spec_l01Pick.f s0_0 bt286.2.1 bt286.2.2 (([0, 100000, 100001] : List Int))).bind fun bt292 => (if t275.length < 5864062014805 then (some ((t275 ++ [(⟨bt286.1, bt292.1, false⟩ : S36)]), bt292.2.1, bt292.2.2)) else (none)))) = some (r1, r2, r3) := by first | (rw [hy283]; with_reducible exact H) | (have H2_ := (Option.bind_some _ _).symm.trans H; rw [hy283]; with_reducible exact H2_) | (have H2_ := (Option.bind_some _ _).symm.trans H; with_reducible exact H2_) | with_reducible exact H | (rw [hy283]; exact H) | exact H
  have Ny283 := jA hy283
  clear hy283
  replace H := jG.mp H
  obtain ⟨⟨t286, t287, t288⟩, A50, H⟩ := H
  replace H : ((spec_l01Pick.f s0_0 t287 t288 (([0, 100000, 100001] : List Int))).bind fun bt292 => (if t275.length < 5864062014805 then (some ((t275 ++ [(⟨t286, bt292.1, false⟩ : S36)]), bt292.2.1, bt292.2.2)) else (none))) = some (r1, r2, r3) := H
  have A5 := jA A50
  clear A50
  obtain ⟨y289, hy289⟩ : ∃ y_ : List Int, y_ = (([0, 100000, 100001] : List Int)) := ⟨_, rfl⟩
  replace H : ((spec_l01Pick.f s0_0 t287 t288 y289).bind fun bt292 => (if t275.length < 5864062014805 then (some ((t275 ++ [(⟨t286, bt292.1, false⟩ : S36)]), bt292.2.1, bt292.2.2)) else (none))) = some (r1, r2, r3) := by first | (rw [hy289]; with_reducible exact H) | (have H2_ := (Option.bind_some _ _).symm.trans H; rw [hy289]; with_reducible exact H2_) | (have H2_ := (Option.bind_some _ _).symm.trans H; with_reducible exact H2_) | with_reducible exact H | (rw [hy289]; exact H) | exact H
  have Ny289 := jA hy289
  clear hy289
  replace H := jG.mp H
  obtain ⟨⟨t292, t293, t294⟩, A60, H⟩ := H
  replace H : (if t275.length < 5864062014805 then (some ((t275 ++ [(⟨t286, t292, false⟩ : S36)]), t293, t294)) else (none)) = some (r1, r2, r3) := H
  have A6 := jA A60
  clear A60
  by_cases c7 : t275.length < 5864062014805
  ·rw [if_pos c7] at H
   have LMc7 := jA c7
   clear c7
   obtain ⟨y295, hy295⟩ : ∃ y_ : List (S36), y_ = (t275 ++ [(⟨t286, t292, false⟩ : S36)]) := ⟨_, rfl⟩
   replace H : (some (y295, t293, t294)) = some (r1, r2, r3) := by first | (rw [hy295]; with_reducible exact H) | (have H2_ := (Option.bind_some _ _).symm.trans H; rw [hy295]; with_reducible exact H2_) | (have H2_ := (Option.bind_some _ _).symm.trans H; with_reducible exact H2_) | with_reducible exact H | (rw [hy295]; exact H) | exact H
   have Ny295 := jA hy295
   clear hy295
   simp only [jf, jh] at H
   obtain ⟨rfl, rfl, rfl⟩ := H
   go_enter Try.func63, Try.ntmps63
   go_wp2_with (first | ((with_reducible refine jU (f := 65) rfl ?_); refine goesL_ (some 6) rfl rfl Try.func65 zr rfl #[.pointer (some ⟨g, 0, none⟩)] rfl zm ?_; (with_reducible refine (spec_l24Good.calls k g s0_0 s0_1 s0_2 t275 t278 t279 w0 _ ?side1 ?side2 A2.out).mono ?_); (case side1 => repeat (first | (with_reducible first | exact HI0.out | apply IsS67.alloc | apply IsS67.drewN | apply IsS67.drew | apply IsS67.set_1 | apply IsS67.set_2) | exact HI0.out)); (case side2 => repeat (first | (with_reducible first | exact HB.out | apply jV | apply jJ | apply jL | refine jO ?_ (IsS67.ge HI0.out)) | exact HB.out)); rintro e w8 ⟨v276, rfl, ho0, hi, hb, hk⟩; refine ⟨_, rfl, ?_⟩; have n0_ := jA (jc ho0 (keep_size (w := w) (g := g) (row := none) (zh0 HK))); have n1_ := jA (KeepBut.trans (zh0 HK) hk (.inl rfl)); have n2_ := jA (hb); have n3_ := jA (hi); clear HK; clear HB; clear HI0; have HO277 := n0_; have HK := n1_; have HB := n2_; have HI0 := n3_; clear n0_ n1_ n2_ n3_; (try clear hb); (try clear hb2); (try clear hk); (try clear hi); (try clear ho0)) | ((with_reducible refine jU (f := 62) rfl ?_); refine goesL_ (some 8) rfl rfl Try.func62 zr rfl #[.pointer (some ⟨g, 0, none⟩), .int .i64 30] rfl zm ?_; (with_reducible refine (spec_l01Next.calls g s0_0 t278 t279 30 t280 t281 t282 w0 _ ?side1 ?side2 A3.out).mono ?_); (case side1 => repeat (first | (with_reducible first | exact HI0.out | apply IsS67.alloc | apply IsS67.drewN | apply IsS67.drew | apply IsS67.set_1 | apply IsS67.set_2) | exact HI0.out)); (case side2 => repeat (first | (with_reducible first | exact HB.out | apply jV | apply jJ | apply jL | refine jO ?_ (IsS67.ge HI0.out)) | exact HB.out)); rintro e w9 ⟨rfl, hi, hb, hk⟩; refine ⟨_, rfl, ?_⟩; have n0_ := jA (Kd.R_mono (Kd.R_keep (IsS67.apart (show IsS67 w0 _ g s0_0 t278 t279 from by repeat (first | (with_reducible first | exact HI0.out | apply IsS67.alloc | apply IsS67.drewN | apply IsS67.drew | apply IsS67.set_1 | apply IsS67.set_2) | exact HI0.out)) (zo HO277) (by decide)) hk (fun _ h => h.2)) (fun _ h => h.1)); have n1_ := jA (KeepBut.trans (zh0 HK) hk (.inl rfl)); have n2_ := jA (hb); have n3_ := jA (hi); clear HO277; clear HK; clear HB; clear HI0; have HO277 := n0_; have HK := n1_; have HB := n2_; have HI0 := n3_; clear n0_ n1_ n2_ n3_; (try clear hb); (try clear hb2); (try clear hk); (try clear hi)) | ((with_reducible refine gate_dst (N := 13) rfl ?_); refine Kd.R_lit (Kd.int .i64) _ 2 ?hg (N := 13) ?hd (xs := ([(-1), 19, 20, 0] : List Int)) (inner := [.int .i64 (-1), .int .i64 19, .int .i64 20, .int .i64 0]) (ok := fun _ => True) (okp := fun _ => True) ?hr ?hp (fun _ hk => hk) trivial (Below.refl _ _) (Nat.le_refl _) (by simp) ?_; (case hd => rfl); (case hg => rfl); (case hr => first | (go_simp; done) | (go_simp; rfl)); (case hp => exact (Reps.one (show Kd.M (Kd.int .i64) _ _ _ (-1) [.int .i64 (-1)] from rfl) (Reps.one (show Kd.M (Kd.int .i64) _ _ _ 19 [.int .i64 19] from rfl) (Reps.one (show Kd.M (Kd.int .i64) _ _ _ 20 [.int .i64 20] from rfl) (Reps.one (show Kd.M (Kd.int .i64) _ _ _ 0 [.int .i64 0] from rfl) (Reps.none _ _)))))); intro v284 w10 ho11 hb hg_ hnew_; clear hg_ hnew_; (first | rw [← Ny283.out] at ho11 | (simp only [Int.reduceToNat] at ho11; rw [← Ny283.out] at ho11)); have n0_ := jA (jK (zo HO277) hb); have n1_ := jA (jc ho11 (keep_size (w := w) (g := g) (row := none) (zh0 HK))); have n2_ := jA (IsS67.below (by repeat (first | (with_reducible first | exact HI0.out | apply IsS67.alloc | apply IsS67.drewN | apply IsS67.drew | apply IsS67.set_1 | apply IsS67.set_2) | exact HI0.out)) hb); have n3_ := jA (KeepBut.trans (zh0 HK) (KeepBut.of_below hb g none) (.inl rfl)); have n4_ := jA (jH (by repeat (first | (with_reducible first | exact HB.out | apply jV | apply jJ | apply jL | refine jO ?_ (IsS67.ge HI0.out)) | exact HB.out)) hb); clear HO277; clear HI0; clear HK; clear HB; have HO277 := n0_; have HO285 := n1_; have HI0 := n2_; have HK := n3_; have HB := n4_; clear n0_ n1_ n2_ n3_ n4_; clear hb ho11; obtain ⟨Ao12, co12, eo12⟩ := Kd.R_slice HO285.out; subst eo12) | ((with_reducible refine jU (f := 64) rfl ?_); refine goesL_ (some 14) rfl rfl Try.func64 zr rfl #[.pointer (some ⟨g, 0, none⟩), .slice Ao12 y283.length co12] rfl zm ?_; (with_reducible refine (spec_l01Pick.calls g s0_0 t281 t282 _ _ y283 t286 t287 t288 w0 _ ?side1 ?side2 ?side3 ?side4 ?side5 A5.out).mono ?_); (case side1 => repeat (first | (with_reducible first | exact HI0.out | apply IsS67.alloc | apply IsS67.drewN | apply IsS67.drew | apply IsS67.set_1 | apply IsS67.set_2) | exact HI0.out)); (case side2 => repeat (first | (with_reducible first | exact HB.out | apply jV | apply jJ | apply jL | refine jO ?_ (IsS67.ge HI0.out)) | exact HB.out)); (case side3 => repeat (first | exact (jD HO285.out).2.2 | (with_reducible refine jN ?_ _) | (with_reducible refine jM ?_ _) | (with_reducible refine jT ?_))); (case side4 => exact (jD HO285.out).2.1); (case side5 => exact far_slice (IsS67.own_ne HI0.out HO285.out (by decide))); rintro e w13 ⟨rfl, hi, hb, hk⟩; refine ⟨_, rfl, ?_⟩; have n0_ := jA (Kd.R_mono (Kd.R_keep (IsS67.apart (show IsS67 w0 _ g s0_0 t281 t282 from by repeat (first | (with_reducible first | exact HI0.out | apply IsS67.alloc | apply IsS67.drewN | apply IsS67.drew | apply IsS67.set_1 | apply IsS67.set_2) | exact HI0.out)) (zo HO277) (by decide)) hk (fun _ h => h.2)) (fun _ h => h.1)); have n1_ := jA (Kd.R_mono (Kd.R_keep (IsS67.apart (show IsS67 w0 _ g s0_0 t281 t282 from by repeat (first | (with_reducible first | exact HI0.out | apply IsS67.alloc | apply IsS67.drewN | apply IsS67.drew | apply IsS67.set_1 | apply IsS67.set_2) | exact HI0.out)) (zo HO285) (by decide)) hk (fun _ h => h.2)) (fun _ h => h.1)); have n2_ := jA (KeepBut.trans (zh0 HK) hk (.inl rfl)); have n3_ := jA (hb); have n4_ := jA (hi); clear HO277; clear HO285; clear HK; clear HB; clear HI0; have HO277 := n0_; have HO285 := n1_; have HK := n2_; have HB := n3_; have HI0 := n4_; clear n0_ n1_ n2_ n3_ n4_; (try clear hb); (try clear hb2); (try clear hk); (try clear hi)) | ((with_reducible refine gate_dst (N := 16) rfl ?_); refine Kd.R_lit (Kd.int .i64) _ 2 ?hg (N := 16) ?hd (xs := ([0, 100000, 100001] : List Int)) (inner := [.int .i64 0, .int .i64 100000, .int .i64 100001]) (ok := fun _ => True) (okp := fun _ => True) ?hr ?hp (fun _ hk => hk) trivial (Below.refl _ _) (Nat.le_refl _) (by simp) ?_; (case hd => rfl); (case hg => rfl); (case hr => first | (go_simp; done) | (go_simp; rfl)); (case hp => exact (Reps.one (show Kd.M (Kd.int .i64) _ _ _ 0 [.int .i64 0] from rfl) (Reps.one (show Kd.M (Kd.int .i64) _ _ _ 100000 [.int .i64 100000] from rfl) (Reps.one (show Kd.M (Kd.int .i64) _ _ _ 100001 [.int .i64 100001] from rfl) (Reps.none _ _))))); intro v290 w14 ho15 hb hg_ hnew_; clear hg_ hnew_; (first | rw [← Ny289.out] at ho15 | (simp only [Int.reduceToNat] at ho15; rw [← Ny289.out] at ho15)); have n0_ := jA (jK (zo HO277) hb); have n1_ := jA (Kd.R_elder' (zo HO285) (Kd.R_base ho15) hb); have n2_ := jA (jc (Kd.R_new' ho15 (Kd.R_lt (zo HO285))) (keep_size (w := w) (g := g) (row := none) (zh0 HK))); have n3_ := jA (IsS67.below (by repeat (first | (with_reducible first | exact HI0.out | apply IsS67.alloc | apply IsS67.drewN | apply IsS67.drew | apply IsS67.set_1 | apply IsS67.set_2) | exact HI0.out)) hb); have n4_ := jA (KeepBut.trans (zh0 HK) (KeepBut.of_below hb g none) (.inl rfl)); have n5_ := jA (jH (by repeat (first | (with_reducible first | exact HB.out | apply jV | apply jJ | apply jL | refine jO ?_ (IsS67.ge HI0.out)) | exact HB.out)) hb); clear HO277; clear HO285; clear HI0; clear HK; clear HB; have HO277 := n0_; have HO285 := n1_; have HO291 := n2_; have HI0 := n3_; have HK := n4_; have HB := n5_; clear n0_ n1_ n2_ n3_ n4_ n5_; clear hb ho15; obtain ⟨Ao16, co16, eo16⟩ := Kd.R_slice HO291.out; subst eo16) | ((with_reducible refine jU (f := 64) rfl ?_); refine goesL_ (some 17) rfl rfl Try.func64 zr rfl #[.pointer (some ⟨g, 0, none⟩), .slice Ao16 y289.length co16] rfl zm ?_; (with_reducible refine (spec_l01Pick.calls g s0_0 t287 t288 _ _ y289 t292 t293 t294 w0 _ ?side1 ?side2 ?side3 ?side4 ?side5 A6.out).mono ?_); (case side1 => repeat (first | (with_reducible first | exact HI0.out | apply IsS67.alloc | apply IsS67.drewN | apply IsS67.drew | apply IsS67.set_1 | apply IsS67.set_2) | exact HI0.out)); (case side2 => repeat (first | (with_reducible first | exact HB.out | apply jV | apply jJ | apply jL | refine jO ?_ (IsS67.ge HI0.out)) | exact HB.out)); (case side3 => repeat (first | exact (jD HO291.out).2.2 | (with_reducible refine jN ?_ _) | (with_reducible refine jM ?_ _) | (with_reducible refine jT ?_))); (case side4 => exact (jD HO291.out).2.1); (case side5 => exact far_slice (IsS67.own_ne HI0.out HO291.out (by decide))); rintro e w17 ⟨rfl, hi, hb, hk⟩; refine ⟨_, rfl, ?_⟩; have n0_ := jA (Kd.R_mono (Kd.R_keep (IsS67.apart (show IsS67 w0 _ g s0_0 t287 t288 from by repeat (first | (with_reducible first | exact HI0.out | apply IsS67.alloc | apply IsS67.drewN | apply IsS67.drew | apply IsS67.set_1 | apply IsS67.set_2) | exact HI0.out)) (zo HO277) (by decide)) hk (fun _ h => h.2)) (fun _ h => h.1)); have n1_ := jA (Kd.R_mono (Kd.R_keep (IsS67.apart (show IsS67 w0 _ g s0_0 t287 t288 from by repeat (first | (with_reducible first | exact HI0.out | apply IsS67.alloc | apply IsS67.drewN | apply IsS67.drew | apply IsS67.set_1 | apply IsS67.set_2) | exact HI0.out)) (zo HO285) (by decide)) hk (fun _ h => h.2)) (fun _ h => h.1)); have n2_ := jA (Kd.R_mono (Kd.R_keep (IsS67.apart (show IsS67 w0 _ g s0_0 t287 t288 from by repeat (first | (with_reducible first | exact HI0.out | apply IsS67.alloc | apply IsS67.drewN | apply IsS67.drew | apply IsS67.set_1 | apply IsS67.set_2) | exact HI0.out)) (zo HO291) (by decide)) hk (fun _ h => h.2)) (fun _ h => h.1)); have n3_ := jA (KeepBut.trans (zh0 HK) hk (.inl rfl)); have n4_ := jA (hb); have n5_ := jA (hi); clear HO277; clear HO285; clear HO291; clear HK; clear HB; clear HI0; have HO277 := n0_; have HO285 := n1_; have HO291 := n2_; have HK := n3_; have HB := n4_; have HI0 := n5_; clear n0_ n1_ n2_ n3_ n4_ n5_; (try clear hb); (try clear hb2); (try clear hk); (try clear hi)) | ((with_reducible refine gate_builtin (b := .append) (xs := #[.tmp 11, .tmp 19]) rfl ?_); at_builtin; refine Kd.R_append k36 w.heap.size rfl (.tmp 11) (.tmp 19) 25 36 (.agg #[(.int .i64 0), (.int .i64 0), (.bool false)]) 24 rfl Try.underlying25 info36 rfl (by decide) (by omega) v276 t275 (⟨t286, t292, false⟩ : S36) [.int .i64 t286, .int .i64 t292, .bool false] (fun _ => True) (fun _ => False) rfl rfl ?aP (fun _ hk => hk.elim) ?aF ?aO (Below.refl _ _) ?aS ?aL ?_; (case aP => exact k36_mkM _ _ _ (⟨t286, t292, false⟩ : S36)); (case aF => exact (fun _ _ => trivial)); (case aO => exact (zo HO277)); (case aS => exact (keep_size (w := w) (g := g) (row := none) (zh0 HK))); (case aL => have := LMc7.out; omega); intro v296 w18 ho hb hg hat; rw [← Ny295.out] at ho; have n0_ := jA (IsS67.grown (by repeat (first | (with_reducible first | exact HI0.out | apply IsS67.alloc | apply IsS67.drewN | apply IsS67.drew | apply IsS67.set_1 | apply IsS67.set_2) | exact HI0.out)) hg (IsS67.own_ne HI0.out HO277.out (by decide))); have n1_ := jA (Kd.R_over' (zo HO285) (Kd.R_typed (zo HO277)) (by decide) hg); have n2_ := jA (Kd.R_over' (zo HO291) (Kd.R_typed (zo HO277)) (by decide) hg); have n3_ := jA (below_weaken (by repeat (first | (with_reducible first | exact HB.out | apply jV | apply jJ | apply jL | refine jO ?_ (IsS67.ge HI0.out)) | exact HB.out)) HL.out hb); have n4_ := jA (KeepBut.trans (zh0 HK) (KeepBut.of_grown hg g) (Kd.R_base2 HO277.out)); have n5_ := jA (ho); clear HI0; clear HO285; clear HO291; clear HB; clear HK; clear HO277; have HI0 := n0_; have HO285 := n1_; have HO291 := n2_; have HB := n3_; have HK := n4_; have HO297 := n5_; clear n0_ n1_ n2_ n3_ n4_ n5_; clear ho hb hg hat))
   go_ret
   exact ⟨_, by first | rfl | (simp [errW_none, errW_some] <;> rfl) | (simp [*, errW_none, errW_some] <;> rfl), by (with_reducible repeat (first | apply jR | apply jQ | apply jS)); exact HO297.out, by repeat (first | (with_reducible first | exact HI0.out | apply IsS67.alloc | apply IsS67.drewN | apply IsS67.drew | apply IsS67.set_1 | apply IsS67.set_2) | exact HI0.out), by repeat (first | (with_reducible first | exact HB.out | apply jV | apply jJ | apply jL | refine jO ?_ (IsS67.ge HI0.out)) | exact HB.out), zh0 HK⟩
  ·rw [if_neg c7] at H
   exact absurd H (by simp)
 ·rw [if_neg c4] at H
  have c4b0 : (t280 == 0) = false := beq_eq_false_iff_ne.mpr c4
  have c4b1 : (t280 != 0) = true := bne_iff_ne.mpr c4
  by_cases c19 : t280 = 1
  ·rw [if_pos c19] at H
   have c19b0 : (t280 == 1) = true := beq_iff_eq.mpr c19
   have c19b1 : (t280 != 1) = false := bne_eq_false_iff_eq.mpr c19
   clear c19
   have H' := jA H
   clear H
   go_enter Try.func63, Try.ntmps63
   go_wp2_with (first | ((with_reducible refine jU (f := 65) rfl ?_); refine goesL_ (some 6) rfl rfl Try.func65 zr rfl #[.pointer (some ⟨g, 0, none⟩)] rfl zm ?_; (with_reducible refine (spec_l24Good.calls k g s0_0 s0_1 s0_2 t275 t278 t279 w0 _ ?side1 ?side2 A2.out).mono ?_); (case side1 => repeat (first | (with_reducible first | exact HI0.out | apply IsS67.alloc | apply IsS67.drewN | apply IsS67.drew | apply IsS67.set_1 | apply IsS67.set_2) | exact HI0.out)); (case side2 => repeat (first | (with_reducible first | exact HB.out | apply jV | apply jJ | apply jL | refine jO ?_ (IsS67.ge HI0.out)) | exact HB.out)); rintro e w20 ⟨v276, rfl, ho0, hi, hb, hk⟩; refine ⟨_, rfl, ?_⟩; have n0_ := jA (jc ho0 (keep_size (w := w) (g := g) (row := none) (zh0 HK))); have n1_ := jA (KeepBut.trans (zh0 HK) hk (.inl rfl)); have n2_ := jA (hb); have n3_ := jA (hi); clear HK; clear HB; clear HI0; have HO277 := n0_; have HK := n1_; have HB := n2_; have HI0 := n3_; clear n0_ n1_ n2_ n3_; (try clear hb); (try clear hb2); (try clear hk); (try clear hi); (try clear ho0)) | ((with_reducible refine jU (f := 62) rfl ?_); refine goesL_ (some 8) rfl rfl Try.func62 zr rfl #[.pointer (some ⟨g, 0, none⟩), .int .i64 30] rfl zm ?_; (with_reducible refine (spec_l01Next.calls g s0_0 t278 t279 30 t280 t281 t282 w0 _ ?side1 ?side2 A3.out).mono ?_); (case side1 => repeat (first | (with_reducible first | exact HI0.out | apply IsS67.alloc | apply IsS67.drewN | apply IsS67.drew | apply IsS67.set_1 | apply IsS67.set_2) | exact HI0.out)); (case side2 => repeat (first | (with_reducible first | exact HB.out | apply jV | apply jJ | apply jL | refine jO ?_ (IsS67.ge HI0.out)) | exact HB.out)); rintro e w21 ⟨rfl, hi, hb, hk⟩; refine ⟨_, rfl, ?_⟩; have n0_ := jA (Kd.R_mono (Kd.R_keep (IsS67.apart (show IsS67 w0 _ g s0_0 t278 t279 from by repeat (first | (with_reducible first | exact HI0.out | apply IsS67.alloc | apply IsS67.drewN | apply IsS67.drew | apply IsS67.set_1 | apply IsS67.set_2) | exact HI0.out)) (zo HO277) (by decide)) hk (fun _ h => h.2)) (fun _ h => h.1)); have n1_ := jA (KeepBut.trans (zh0 HK) hk (.inl rfl)); have n2_ := jA (hb); have n3_ := jA (hi); clear HO277; clear HK; clear HB; clear HI0; have HO277 := n0_; have HK := n1_; have HB := n2_; have HI0 := n3_; clear n0_ n1_ n2_ n3_; (try clear hb); (try clear hb2); (try clear hk); (try clear hi)))
   go_loopg [3, 4] k (fun kq v3 v4 w' => ∃ (x3_1 : List (S36)) (x4_1 : Int) (x1001_1 : Int) (x1002_1 : Int), v4 = .int .i64 x4_1 ∧ Aside0 (spec_l24Draw.l0 kq x3_1 x4_1 s0_0 x1001_1 x1002_1 = some (r1, r2, r3)) ∧ Aside0 (kq ≤ k) ∧ Aside0 (Kd.R k36 36 w' w.heap.size (fun _ => True) v3 x3_1) ∧ Aside0 (IsS67 w0 w' g s0_0 x1001_1 x1002_1) ∧ Aside0 (KeepBut w w' g none) ∧ Aside0 (Below w0.heap.size w0 w'))
   case atStart => exact ⟨(t275), (0), (t281), (t282), zz, H', ⟨Nat.le_refl _⟩, ⟨by (with_reducible repeat (first | apply jR | apply jQ | apply jS)); exact HO277.out⟩, ⟨by repeat (first | (with_reducible first | exact HI0.out | apply IsS67.alloc | apply IsS67.drewN | apply IsS67.drew | apply IsS67.set_1 | apply IsS67.set_2) | exact HI0.out)⟩, ⟨zh0 HK⟩, ⟨by repeat (first | (with_reducible first | exact HB.out | apply jV | apply jJ | apply jL | refine jO ?_ (IsS67.ge HI0.out)) | exact HB.out)⟩⟩
   case round =>
    clear H'
    try clear c1
    try clear p2
    try clear c4
    try clear c4b0
    try clear c4b1
    try clear c6
    try clear c7
    try clear c19
    try clear c19b0
    try clear c19b1
    obtain ⟨x3_1, x4_1, x1001_1, x1002_1, rfl, HA, HK1, HO_3, HI0, HK, HB⟩ := hrel
    cases gk with
    | zero => exact absurd HA.out (by simp [spec_l24Draw.l0])
    | succ k1 =>
     have H := HA.out
     clear HA
     simp only [spec_l24Draw.l0] at H
     replace H := jG.mp H
     obtain ⟨⟨t298, t299, t300⟩, A220, H⟩ := H
     replace H : (if (x3_1.length : Int) < (wrap64 (40 + t298)) then (if x3_1.length < 5864062014805 then (spec_l24Draw.l0 k1 (x3_1 ++ [(⟨wrap64 (4 + (Int.tmod x4_1 16)), wrap64 (2000 + (wrap64 (50 * (wrap64 (Int.tdiv x4_1 16))))), false⟩ : S36)]) (wrap64 (x4_1 + 1)) s0_0 t299 t300) else (none)) else (some (x3_1, t299, t300))) = some (r1, r2, r3) := H
     have A22 := jA A220
     clear A220
     by_cases c23 : (x3_1.length : Int) < (wrap64 (40 + t298))
     ·rw [if_pos c23] at H
      have c23b0 : decide ((x3_1.length : Int) < (wrap64 (40 + t298))) = true := jZ c23
      clear c23
      by_cases c24 : x3_1.length < 5864062014805
      ·rw [if_pos c24] at H
       have LMc24 := jA c24
       clear c24
       obtain ⟨y301, hy301⟩ : ∃ y_ : List (S36), y_ = (x3_1 ++ [(⟨wrap64 (4 + (Int.tmod x4_1 16)), wrap64 (2000 + (wrap64 (50 * (wrap64 (Int.tdiv x4_1 16))))), false⟩ : S36)]) := ⟨_, rfl⟩
       replace H : (spec_l24Draw.l0 k1 y301 (wrap64 (x4_1 + 1)) s0_0 t299 t300) = some (r1, r2, r3) := by first | (rw [hy301]; with_reducible exact H) | (have H2_ := (Option.bind_some _ _).symm.trans H; rw [hy301]; with_reducible exact H2_) | (have H2_ := (Option.bind_some _ _).symm.trans H; with_reducible exact H2_) | with_reducible exact H | (rw [hy301]; exact H) | exact H
       have Ny301 := jA hy301
       clear hy301
       have H' := jA H
       clear H
       obtain ⟨Ao25, co25, eo25⟩ := Kd.R_slice HO_3.out
       subst eo25
       go_wp2_with (first | ((with_reducible refine jU (f := 62) rfl ?_); refine goesL_ (some 26) rfl rfl Try.func62 zr rfl #[.pointer (some ⟨g, 0, none⟩), .int .i64 2] rfl zm ?_; (with_reducible refine (spec_l01Next.calls g s0_0 x1001_1 x1002_1 2 t298 t299 t300 w0 _ ?side1 ?side2 A22.out).mono ?_); (case side1 => repeat (first | (with_reducible first | exact HI0.out | apply IsS67.alloc | apply IsS67.drewN | apply IsS67.drew | apply IsS67.set_1 | apply IsS67.set_2) | exact HI0.out)); (case side2 => repeat (first | (with_reducible first | exact HB.out | apply jV | apply jJ | apply jL | refine jO ?_ (IsS67.ge HI0.out)) | exact HB.out)); rintro e w26 ⟨rfl, hi, hb, hk⟩; refine ⟨_, rfl, ?_⟩; have n0_ := jA (Kd.R_mono (Kd.R_keep (IsS67.apart (show IsS67 w0 _ g s0_0 x1001_1 x1002_1 from by repeat (first | (with_reducible first | exact HI0.out | apply IsS67.alloc | apply IsS67.drewN | apply IsS67.drew | apply IsS67.set_1 | apply IsS67.set_2) | exact HI0.out)) (zo HO_3) (by decide)) hk (fun _ h => h.2)) (fun _ h => h.1)); have n1_ := jA (KeepBut.trans (zh0 HK) hk (.inl rfl)); have n2_ := jA (hb); have n3_ := jA (hi); clear HO_3; clear HK; clear HB; clear HI0; have HO_3 := n0_; have HK := n1_; have HB := n2_; have HI0 := n3_; clear n0_ n1_ n2_ n3_; (try clear hb); (try clear hb2); (try clear hk); (try clear hi)) | ((with_reducible refine gate_builtin (b := .append) (xs := #[.tmp 31, .tmp 40]) rfl ?_); at_builtin; refine Kd.R_append k36 w.heap.size rfl (.tmp 31) (.tmp 40) 25 36 (.agg #[(.int .i64 0), (.int .i64 0), (.bool false)]) 24 rfl Try.underlying25 info36 rfl (by decide) (by omega) (.slice Ao25 x3_1.length co25) x3_1 (⟨wrap64 (4 + (Int.tmod x4_1 16)), wrap64 (2000 + (wrap64 (50 * (wrap64 (Int.tdiv x4_1 16))))), false⟩ : S36) [.int .i64 (wrap64 (4 + (Int.tmod x4_1 16))), .int .i64 (wrap64 (2000 + (wrap64 (50 * (wrap64 (Int.tdiv x4_1 16)))))), .bool false] (fun _ => True) (fun _ => False) rfl rfl ?aP (fun _ hk => hk.elim) ?aF ?aO (Below.refl _ _) ?aS ?aL ?_; (case aP => exact k36_mkM _ _ _ (⟨wrap64 (4 + (Int.tmod x4_1 16)), wrap64 (2000 + (wrap64 (50 * (wrap64 (Int.tdiv x4_1 16))))), false⟩ : S36)); (case aF => exact (fun _ _ => trivial)); (case aO => exact (zo HO_3)); (case aS => exact (keep_size (w := w) (g := g) (row := none) (zh0 HK))); (case aL => have := LMc24.out; omega); intro v302 w27 ho hb hg hat; rw [← Ny301.out] at ho; have n0_ := jA (IsS67.grown (by repeat (first | (with_reducible first | exact HI0.out | apply IsS67.alloc | apply IsS67.drewN | apply IsS67.drew | apply IsS67.set_1 | apply IsS67.set_2) | exact HI0.out)) hg (IsS67.own_ne HI0.out HO_3.out (by decide))); have n1_ := jA (below_weaken (by repeat (first | (with_reducible first | exact HB.out | apply jV | apply jJ | apply jL | refine jO ?_ (IsS67.ge HI0.out)) | exact HB.out)) HL.out hb); have n2_ := jA (KeepBut.trans (zh0 HK) (KeepBut.of_grown hg g) (Kd.R_base2 HO_3.out)); have n3_ := jA (ho); clear HI0; clear HB; clear HK; clear HO_3; have HI0 := n0_; have HB := n1_; have HK := n2_; have HO303 := n3_; clear n0_ n1_ n2_ n3_; clear ho hb hg hat))
       go_roundg k1
       case measure => have := HK1.out; omega
       case rel => exact ⟨(y301), (wrap64 (x4_1 + 1)), (t299), (t300), zz, H', ⟨by have := HK1.out; omega⟩, ⟨by (with_reducible repeat (first | apply jR | apply jQ | apply jS)); exact HO303.out⟩, ⟨by repeat (first | (with_reducible first | exact HI0.out | apply IsS67.alloc | apply IsS67.drewN | apply IsS67.drew | apply IsS67.set_1 | apply IsS67.set_2) | exact HI0.out)⟩, ⟨zh0 HK⟩, ⟨by repeat (first | (with_reducible first | exact HB.out | apply jV | apply jJ | apply jL | refine jO ?_ (IsS67.ge HI0.out)) | exact HB.out)⟩⟩
      ·rw [if_neg c24] at H
       exact absurd H (by simp)
     ·rw [if_neg c23] at H
      have c23b0 : decide ((x3_1.length : Int) < (wrap64 (40 + t298))) = false := jg c23
      clear c23
      simp only [jf, jh] at H
      obtain ⟨rfl, rfl, rfl⟩ := H
      obtain ⟨Ao28, co28, eo28⟩ := Kd.R_slice HO_3.out
      subst eo28
      go_wp2_with (first | ((with_reducible refine jU (f := 62) rfl ?_); refine goesL_ (some 26) rfl rfl Try.func62 zr rfl #[.pointer (some ⟨g, 0, none⟩), .int .i64 2] rfl zm ?_; (with_reducible refine (spec_l01Next.calls g s0_0 x1001_1 x1002_1 2 t298 t299 t300 w0 _ ?side1 ?side2 A22.out).mono ?_); (case side1 => repeat (first | (with_reducible first | exact HI0.out | apply IsS67.alloc | apply IsS67.drewN | apply IsS67.drew | apply IsS67.set_1 | apply IsS67.set_2) | exact HI0.out)); (case side2 => repeat (first | (with_reducible first | exact HB.out | apply jV | apply jJ | apply jL | refine jO ?_ (IsS67.ge HI0.out)) | exact HB.out)); rintro e w29 ⟨rfl, hi, hb, hk⟩; refine ⟨_, rfl, ?_⟩; have n0_ := jA (Kd.R_mono (Kd.R_keep (IsS67.apart (show IsS67 w0 _ g s0_0 x1001_1 x1002_1 from by repeat (first | (with_reducible first | exact HI0.out | apply IsS67.alloc | apply IsS67.drewN | apply IsS67.drew | apply IsS67.set_1 | apply IsS67.set_2) | exact HI0.out)) (zo HO_3) (by decide)) hk (fun _ h => h.2)) (fun _ h => h.1)); have n1_ := jA (KeepBut.trans (zh0 HK) hk (.inl rfl)); have n2_ := jA (hb); have n3_ := jA (hi); clear HO_3; clear HK; clear HB; clear HI0; have HO_3 := n0_; have HK := n1_; have HB := n2_; have HI0 := n3_; clear n0_ n1_ n2_ n3_; (try clear hb); (try clear hb2); (try clear hk); (try clear hi)))
      go_ret
      exact ⟨_, by first | rfl | (simp [errW_none, errW_some] <;> rfl) | (simp [*, errW_none, errW_some] <;> rfl), by (with_reducible repeat (first | apply jR | apply jQ | apply jS)); exact HO_3.out, by repeat (first | (with_reducible first | exact HI0.out | apply IsS67.alloc | apply IsS67.drewN | apply IsS67.drew | apply IsS67.set_1 | apply IsS67.set_2) | exact HI0.out), by repeat (first | (with_reducible first | exact HB.out | apply jV | apply jJ | apply jL | refine jO ?_ (IsS67.ge HI0.out)) | exact HB.out), zh0 HK⟩
  ·rw [if_neg c19] at H
   have c19b0 : (t280 == 1) = false := beq_eq_false_iff_ne.mpr c19
   have c19b1 : (t280 != 1) = true := bne_iff_ne.mpr c19
   simp only [jf, jh] at H
   obtain ⟨rfl, rfl, rfl⟩ := H
   go_enter Try.func63, Try.ntmps63
   go_wp2_with (first | ((with_reducible refine jU (f := 65) rfl ?_); refine goesL_ (some 6) rfl rfl Try.func65 zr rfl #[.pointer (some ⟨g, 0, none⟩)] rfl zm ?_; (with_reducible refine (spec_l24Good.calls k g s0_0 s0_1 s0_2 t275 t278 t279 w0 _ ?side1 ?side2 A2.out).mono ?_); (case side1 => repeat (first | (with_reducible first | exact HI0.out | apply IsS67.alloc | apply IsS67.drewN | apply IsS67.drew | apply IsS67.set_1 | apply IsS67.set_2) | exact HI0.out)); (case side2 => repeat (first | (with_reducible first | exact HB.out | apply jV | apply jJ | apply jL | refine jO ?_ (IsS67.ge HI0.out)) | exact HB.out)); rintro e w30 ⟨v276, rfl, ho0, hi, hb, hk⟩; refine ⟨_, rfl, ?_⟩; have n0_ := jA (jc ho0 (keep_size (w := w) (g := g) (row := none) (zh0 HK))); have n1_ := jA (KeepBut.trans (zh0 HK) hk (.inl rfl)); have n2_ := jA (hb); have n3_ := jA (hi); clear HK; clear HB; clear HI0; have HO277 := n0_; have HK := n1_; have HB := n2_; have HI0 := n3_; clear n0_ n1_ n2_ n3_; (try clear hb); (try clear hb2); (try clear hk); (try clear hi); (try clear ho0)) | ((with_reducible refine jU (f := 62) rfl ?_); refine goesL_ (some 8) rfl rfl Try.func62 zr rfl #[.pointer (some ⟨g, 0, none⟩), .int .i64 30] rfl zm ?_; (with_reducible refine (spec_l01Next.calls g s0_0 t278 t279 30 t280 t281 t282 w0 _ ?side1 ?side2 A3.out).mono ?_); (case side1 => repeat (first | (with_reducible first | exact HI0.out | apply IsS67.alloc | apply IsS67.drewN | apply IsS67.drew | apply IsS67.set_1 | apply IsS67.set_2) | exact HI0.out)); (case side2 => repeat (first | (with_reducible first | exact HB.out | apply jV | apply jJ | apply jL | refine jO ?_ (IsS67.ge HI0.out)) | exact HB.out)); rintro e w31 ⟨rfl, hi, hb, hk⟩; refine ⟨_, rfl, ?_⟩; have n0_ := jA (Kd.R_mono (Kd.R_keep (IsS67.apart (show IsS67 w0 _ g s0_0 t278 t279 from by repeat (first | (with_reducible first | exact HI0.out | apply IsS67.alloc | apply IsS67.drewN | apply IsS67.drew | apply IsS67.set_1 | apply IsS67.set_2) | exact HI0.out)) (zo HO277) (by decide)) hk (fun _ h => h.2)) (fun _ h => h.1)); have n1_ := jA (KeepBut.trans (zh0 HK) hk (.inl rfl)); have n2_ := jA (hb); have n3_ := jA (hi); clear HO277; clear HK; clear HB; clear HI0; have HO277 := n0_; have HK := n1_; have HB := n2_; have HI0 := n3_; clear n0_ n1_ n2_ n3_; (try clear hb); (try clear hb2); (try clear hk); (try clear hi)))
   go_ret
   exact ⟨_, by first | rfl | (simp [errW_none, errW_some] <;> rfl) | (simp [*, errW_none, errW_some] <;> rfl), by (with_reducible repeat (first | apply jR | apply jQ | apply jS)); exact HO277.out, by repeat (first | (with_reducible first | exact HI0.out | apply IsS67.alloc | apply IsS67.drewN | apply IsS67.drew | apply IsS67.set_1 | apply IsS67.set_2) | exact HI0.out), by repeat (first | (with_reducible first | exact HB.out | apply jV | apply jJ | apply jL | refine jO ?_ (IsS67.ge HI0.out)) | exact HB.out), zh0 HK⟩

/-! ### spec_DrawCueState: function 45 -/
def spec_DrawCueState.f (k : Nat) (l0 : List Int) : Option ((List (S36)) × Int) := (spec_l01From.f k l0).bind fun bt304 => ((spec_l24Draw.f k bt304.1 bt304.2.1 bt304.2.2).bind fun bt308 => ((spec_l01Next.f bt304.1 bt308.2.1 bt308.2.2 5).bind fun bt313 => ((spec_l01Next.f bt304.1 bt313.2.1 bt313.2.2 5).bind fun bt316 => ((spec_l01Next.f bt304.1 bt316.2.1 bt316.2.2 4).bind fun bt319 => ((spec_l01Pick.f bt304.1 bt319.2.1 bt319.2.2 (([bt313.1, bt316.1, 19, 20, (-1), bt319.1] : List Int))).bind fun bt325 => (some (bt308.1, bt325.1)))))))
theorem spec_DrawCueState.mono : ∀ a0 k, LeO (spec_DrawCueState.f k a0) (spec_DrawCueState.f (k + 1) a0) := by
 intro a0 k
 unfold spec_DrawCueState.f
 repeat' first
   | (with_reducible exact spec_l01From.mono _ _)
   | (with_reducible exact spec_l24Draw.mono _ _ _ _)
   | (with_reducible exact LeO.refl _)
   | (with_reducible exact LeO.none _)
   | (with_reducible refine LeO.ite ?_ ?_)
   | (with_reducible refine LeO.bind ?_ (fun _ => ?_))
   | exact spec_l01From.mono _ _
   | exact spec_l24Draw.mono _ _ _ _
   | exact LeO.none _
   | refine LeO.ite ?_ ?_
   | refine LeO.bind ?_ (fun _ => ?_)
set_option maxHeartbeats 8000000 in
set_option maxRecDepth 100000 in
theorem spec_DrawCueState.calls (k : Nat) (A0 : Option Addr) (c0 : Nat) (l0 : List Int) (r1 : List (S36)) (r2 : Int) (w : World) (hr0 : Kd.C (Kd.int .u8) w A0 l0.length l0) (hc0 : l0.length ≤ c0) (h : spec_DrawCueState.f k l0 = some (r1, r2)) :
  Calls Try.prog 45 #[.slice A0 l0.length c0] w fun e w' => ∃ v0_ : Value, e = .returned (.tuple #[v0_, .int .i64 r2]) ∧ Kd.R k36 36 w' w.heap.size (fun _ => True) v0_ r1 ∧ Below w.heap.size w w' := by
 have HR0 := jA hr0
 have HC0 := jA hc0
 clear hr0 hc0
 have HB := jA (Below.refl w.heap.size w)
 have H : ((spec_l01From.f k l0).bind fun bt304 => ((spec_l24Draw.f k bt304.1 bt304.2.1 bt304.2.2).bind fun bt308 => ((spec_l01Next.f bt304.1 bt308.2.1 bt308.2.2 5).bind fun bt313 => ((spec_l01Next.f bt304.1 bt313.2.1 bt313.2.2 5).bind fun bt316 => ((spec_l01Next.f bt304.1 bt316.2.1 bt316.2.2 4).bind fun bt319 => ((spec_l01Pick.f bt304.1 bt319.2.1 bt319.2.2 (([bt313.1, bt316.1, 19, 20, (-1), bt319.1] : List Int))).bind fun bt325 => (some (bt308.1, bt325.1)))))))) = some (r1, r2) := h
 clear h
 replace H := jG.mp H
 obtain ⟨⟨t304, t305, t306⟩, A20, H⟩ := H
 replace H : ((spec_l24Draw.f k t304 t305 t306).bind fun bt308 => ((spec_l01Next.f t304 bt308.2.1 bt308.2.2 5).bind fun bt313 => ((spec_l01Next.f t304 bt313.2.1 bt313.2.2 5).bind fun bt316 => ((spec_l01Next.f t304 bt316.2.1 bt316.2.2 4).bind fun bt319 => ((spec_l01Pick.f t304 bt319.2.1 bt319.2.2 (([bt313.1, bt316.1, 19, 20, (-1), bt319.1] : List Int))).bind fun bt325 => (some (bt308.1, bt325.1))))))) = some (r1, r2) := H
 have A2 := jA A20
 clear A20
 replace H := jG.mp H
 obtain ⟨⟨t308, t311, t312⟩, A30, H⟩ := H
 replace H : ((spec_l01Next.f t304 t311 t312 5).bind fun bt313 => ((spec_l01Next.f t304 bt313.2.1 bt313.2.2 5).bind fun bt316 => ((spec_l01Next.f t304 bt316.2.1 bt316.2.2 4).bind fun bt319 => ((spec_l01Pick.f t304 bt319.2.1 bt319.2.2 (([bt313.1, bt316.1, 19, 20, (-1), bt319.1] : List Int))).bind fun bt325 => (some (t308, bt325.1)))))) = some (r1, r2) := H
 have A3 := jA A30
 clear A30
 replace H := jG.mp H
 obtain ⟨⟨t313, t314, t315⟩, A40, H⟩ := H
 replace H : ((spec_l01Next.f t304 t314 t315 5).bind fun bt316 => ((spec_l01Next.f t304 bt316.2.1 bt316.2.2 4).bind fun bt319 => ((spec_l01Pick.f t304 bt319.2.1 bt319.2.2 (([t313, bt316.1, 19, 20, (-1), bt319.1] : List Int))).bind fun bt325 => (some (t308, bt325.1))))) = some (r1, r2) := H
 have A4 := jA A40
 clear A40
 replace H := jG.mp H
 obtain ⟨⟨t316, t317, t318⟩, A50, H⟩ := H
 replace H : ((spec_l01Next.f t304 t317 t318 4).bind fun bt319 => ((spec_l01Pick.f t304 bt319.2.1 bt319.2.2 (([t313, t316, 19, 20, (-1), bt319.1] : List Int))).bind fun bt325 => (some (t308, bt325.1)))) = some (r1, r2) := H
 have A5 := jA A50
 clear A50
 replace H := jG.mp H
 obtain ⟨⟨t319, t320, t321⟩, A60, H⟩ := H
 replace H : ((spec_l01Pick.f t304 t320 t321 (([t313, t316, 19, 20, (-1), t319] : List Int))).bind fun bt325 => (some (t308, bt325.1))) = some (r1, r2) := H
 have A6 := jA A60
 clear A60
 obtain ⟨y322, hy322⟩ : ∃ y_ : List Int, y_ = (([t313, t316, 19, 20, (-1), t319] : List Int)) := ⟨_, rfl⟩
 replace H : ((spec_l01Pick.f t304 t320 t321 y322).bind fun bt325 => (some (t308, bt325.1))) = some (r1, r2) := by first | (rw [hy322]; with_reducible exact H) | (have H2_ := (Option.bind_some _ _).symm.trans H; rw [hy322]; with_reducible exact H2_) | (have H2_ := (Option.bind_some _ _).symm.trans H; with_reducible exact H2_) | with_reducible exact H | (rw [hy322]; exact H) | exact H
 have Ny322 := jA hy322
 clear hy322
 replace H := jG.mp H
 obtain ⟨⟨t325, t326, t327⟩, A70, H⟩ := H
 replace H : (some (t308, t325)) = some (r1, r2) := H
 have A7 := jA A70
 clear A70
 simp only [jf, jh] at H
 obtain ⟨rfl, rfl⟩ := H
 go_enter Try.func45, Try.ntmps45
 go_wp2_with (first | ((with_reducible refine jU (f := 61) rfl ?_); refine goesL_ (some 7) rfl rfl Try.func61 zr rfl #[.slice A0 l0.length c0] rfl zm ?_; (with_reducible refine (spec_l01From.calls k _ _ l0 t304 t305 t306 w _ ?side1 ?side2 ?side3 A2.out).mono ?_); (case side1 => repeat (first | (with_reducible first | exact HB.out | apply jV | apply jJ | apply jL) | exact HB.out)); (case side2 => exact HR0.out); (case side3 => exact HC0.out); rintro e w8 ⟨g307, rfl, hi, hb, hb2⟩; refine ⟨_, rfl, ?_⟩; have n0_ := jA (hb); have n1_ := jA (hi); clear HB; have HB := n0_; have HI307 := n1_; clear n0_ n1_; (try clear hb); (try clear hb2); (try clear hk); (try clear hi)) | ((with_reducible refine jU (f := 63) rfl ?_); refine goesL_ (some 9) rfl rfl Try.func63 zr rfl #[.pointer (some ⟨g307, 0, none⟩)] rfl zm ?_; (with_reducible refine (spec_l24Draw.calls k g307 t304 t305 t306 t308 t311 t312 w _ ?side1 ?side2 A3.out).mono ?_); (case side1 => repeat (first | (with_reducible first | exact HI307.out | apply IsS67.alloc | apply IsS67.drewN | apply IsS67.drew | apply IsS67.set_1 | apply IsS67.set_2) | exact HI307.out)); (case side2 => repeat (first | (with_reducible first | exact HB.out | apply jV | apply jJ | apply jL | refine jO ?_ (IsS67.ge HI307.out)) | exact HB.out)); rintro e w9 ⟨v309, rfl, ho0, hi, hb, hk⟩; refine ⟨_, rfl, ?_⟩; have n0_ := jA (jc ho0 (jP (by repeat (first | (with_reducible first | exact HB.out | apply jV | apply jJ | apply jL | refine jO ?_ (IsS67.ge HI307.out)) | exact HB.out)))); have n1_ := jA (hb); have n2_ := jA (hi); clear HB; clear HI307; have HO310 := n0_; have HB := n1_; have HI307 := n2_; clear n0_ n1_ n2_; (try clear hb); (try clear hb2); (try clear hk); (try clear hi); (try clear ho0)) | ((with_reducible refine jU (f := 62) rfl ?_); refine goesL_ (some 13) rfl rfl Try.func62 zr rfl #[.pointer (some ⟨g307, 0, none⟩), .int .i64 5] rfl zm ?_; (with_reducible refine (spec_l01Next.calls g307 t304 t311 t312 5 t313 t314 t315 w _ ?side1 ?side2 A4.out).mono ?_); (case side1 => repeat (first | (with_reducible first | exact HI307.out | apply IsS67.alloc | apply IsS67.drewN | apply IsS67.drew | apply IsS67.set_1 | apply IsS67.set_2) | exact HI307.out)); (case side2 => repeat (first | (with_reducible first | exact HB.out | apply jV | apply jJ | apply jL | refine jO ?_ (IsS67.ge HI307.out)) | exact HB.out)); rintro e w10 ⟨rfl, hi, hb, hk⟩; refine ⟨_, rfl, ?_⟩; have n0_ := jA (Kd.R_mono (Kd.R_keep (IsS67.apart (show IsS67 w _ g307 t304 t311 t312 from by repeat (first | (with_reducible first | exact HI307.out | apply IsS67.alloc | apply IsS67.drewN | apply IsS67.drew | apply IsS67.set_1 | apply IsS67.set_2) | exact HI307.out)) (zo HO310) (by decide)) hk (fun _ h => h.2)) (fun _ h => h.1)); have n1_ := jA (hb); have n2_ := jA (hi); clear HO310; clear HB; clear HI307; have HO310 := n0_; have HB := n1_; have HI307 := n2_; clear n0_ n1_ n2_; (try clear hb); (try clear hb2); (try clear hk); (try clear hi)) | ((with_reducible refine jU (f := 62) rfl ?_); refine goesL_ (some 15) rfl rfl Try.func62 zr rfl #[.pointer (some ⟨g307, 0, none⟩), .int .i64 5] rfl zm ?_; (with_reducible refine (spec_l01Next.calls g307 t304 t314 t315 5 t316 t317 t318 w _ ?side1 ?side2 A5.out).mono ?_); (case side1 => repeat (first | (with_reducible first | exact HI307.out | apply IsS67.alloc | apply IsS67.drewN | apply IsS67.drew | apply IsS67.set_1 | apply IsS67.set_2) | exact HI307.out)); (case side2 => repeat (first | (with_reducible first | exact HB.out | apply jV | apply jJ | apply jL | refine jO ?_ (IsS67.ge HI307.out)) | exact HB.out)); rintro e w11 ⟨rfl, hi, hb, hk⟩; refine ⟨_, rfl, ?_⟩; have n0_ := jA (Kd.R_mono (Kd.R_keep (IsS67.apart (show IsS67 w _ g307 t304 t314 t315 from by repeat (first | (with_reducible first | exact HI307.out | apply IsS67.alloc | apply IsS67.drewN | apply IsS67.drew | apply IsS67.set_1 | apply IsS67.set_2) | exact HI307.out)) (zo HO310) (by decide)) hk (fun _ h => h.2)) (fun _ h => h.1)); have n1_ := jA (hb); have n2_ := jA (hi); clear HO310; clear HB; clear HI307; have HO310 := n0_; have HB := n1_; have HI307 := n2_; clear n0_ n1_ n2_; (try clear hb); (try clear hb2); (try clear hk); (try clear hi)) | ((with_reducible refine jU (f := 62) rfl ?_); refine goesL_ (some 17) rfl rfl Try.func62 zr rfl #[.pointer (some ⟨g307, 0, none⟩), .int .i64 4] rfl zm ?_; (with_reducible refine (spec_l01Next.calls g307 t304 t317 t318 4 t319 t320 t321 w _ ?side1 ?side2 A6.out).mono ?_); (case side1 => repeat (first | (with_reducible first | exact HI307.out | apply IsS67.alloc | apply IsS67.drewN | apply IsS67.drew | apply IsS67.set_1 | apply IsS67.set_2) | exact HI307.out)); (case side2 => repeat (first | (with_reducible first | exact HB.out | apply jV | apply jJ | apply jL | refine jO ?_ (IsS67.ge HI307.out)) | exact HB.out)); rintro e w12 ⟨rfl, hi, hb, hk⟩; refine ⟨_, rfl, ?_⟩; have n0_ := jA (Kd.R_mono (Kd.R_keep (IsS67.apart (show IsS67 w _ g307 t304 t317 t318 from by repeat (first | (with_reducible first | exact HI307.out | apply IsS67.alloc | apply IsS67.drewN | apply IsS67.drew | apply IsS67.set_1 | apply IsS67.set_2) | exact HI307.out)) (zo HO310) (by decide)) hk (fun _ h => h.2)) (fun _ h => h.1)); have n1_ := jA (hb); have n2_ := jA (hi); clear HO310; clear HB; clear HI307; have HO310 := n0_; have HB := n1_; have HI307 := n2_; clear n0_ n1_ n2_; (try clear hb); (try clear hb2); (try clear hk); (try clear hi)) | ((with_reducible refine gate_dst (N := 18) rfl ?_); refine Kd.R_lit (Kd.int .i64) _ 2 ?hg (N := 18) ?hd (xs := ([t313, t316, 19, 20, (-1), t319] : List Int)) (inner := [.int .i64 t313, .int .i64 t316, .int .i64 19, .int .i64 20, .int .i64 (-1), .int .i64 t319]) (ok := fun _ => True) (okp := fun _ => True) ?hr ?hp (fun _ hk => hk) trivial (Below.refl _ _) (Nat.le_refl _) (by simp) ?_; (case hd => rfl); (case hg => rfl); (case hr => first | (go_simp; done) | (go_simp; rfl)); (case hp => exact (Reps.one (show Kd.M (Kd.int .i64) _ _ _ t313 [.int .i64 t313] from rfl) (Reps.one (show Kd.M (Kd.int .i64) _ _ _ t316 [.int .i64 t316] from rfl) (Reps.one (show Kd.M (Kd.int .i64) _ _ _ 19 [.int .i64 19] from rfl) (Reps.one (show Kd.M (Kd.int .i64) _ _ _ 20 [.int .i64 20] from rfl) (Reps.one (show Kd.M (Kd.int .i64) _ _ _ (-1) [.int .i64 (-1)] from rfl) (Reps.one (show Kd.M (Kd.int .i64) _ _ _ t319 [.int .i64 t319] from rfl) (Reps.none _ _)))))))); intro v323 w13 ho14 hb hg_ hnew_; clear hg_ hnew_; (first | rw [← Ny322.out] at ho14 | (simp only [Int.reduceToNat] at ho14; rw [← Ny322.out] at ho14)); have n0_ := jA (jK (zo HO310) hb); have n1_ := jA (jc ho14 (jP (by repeat (first | (with_reducible first | exact HB.out | apply jV | apply jJ | apply jL | refine jO ?_ (IsS67.ge HI307.out)) | exact HB.out)))); have n2_ := jA (IsS67.below (by repeat (first | (with_reducible first | exact HI307.out | apply IsS67.alloc | apply IsS67.drewN | apply IsS67.drew | apply IsS67.set_1 | apply IsS67.set_2) | exact HI307.out)) hb); have n3_ := jA (jH (by repeat (first | (with_reducible first | exact HB.out | apply jV | apply jJ | apply jL | refine jO ?_ (IsS67.ge HI307.out)) | exact HB.out)) hb); clear HO310; clear HI307; clear HB; have HO310 := n0_; have HO324 := n1_; have HI307 := n2_; have HB := n3_; clear n0_ n1_ n2_ n3_; clear hb ho14; obtain ⟨Ao15, co15, eo15⟩ := Kd.R_slice HO324.out; subst eo15) | ((with_reducible refine jU (f := 64) rfl ?_); refine goesL_ (some 19) rfl rfl Try.func64 zr rfl #[.pointer (some ⟨g307, 0, none⟩), .slice Ao15 y322.length co15] rfl zm ?_; (with_reducible refine (spec_l01Pick.calls g307 t304 t320 t321 _ _ y322 t325 t326 t327 w _ ?side1 ?side2 ?side3 ?side4 ?side5 A7.out).mono ?_); (case side1 => repeat (first | (with_reducible first | exact HI307.out | apply IsS67.alloc | apply IsS67.drewN | apply IsS67.drew | apply IsS67.set_1 | apply IsS67.set_2) | exact HI307.out)); (case side2 => repeat (first | (with_reducible first | exact HB.out | apply jV | apply jJ | apply jL | refine jO ?_ (IsS67.ge HI307.out)) | exact HB.out)); (case side3 => repeat (first | exact (jD HO324.out).2.2 | (with_reducible refine jN ?_ _) | (with_reducible refine jM ?_ _) | (with_reducible refine jT ?_))); (case side4 => exact (jD HO324.out).2.1); (case side5 => exact far_slice (IsS67.own_ne HI307.out HO324.out (by decide))); rintro e w16 ⟨rfl, hi, hb, hk⟩; refine ⟨_, rfl, ?_⟩; have n0_ := jA (Kd.R_mono (Kd.R_keep (IsS67.apart (show IsS67 w _ g307 t304 t320 t321 from by repeat (first | (with_reducible first | exact HI307.out | apply IsS67.alloc | apply IsS67.drewN | apply IsS67.drew | apply IsS67.set_1 | apply IsS67.set_2) | exact HI307.out)) (zo HO310) (by decide)) hk (fun _ h => h.2)) (fun _ h => h.1)); have n1_ := jA (Kd.R_mono (Kd.R_keep (IsS67.apart (show IsS67 w _ g307 t304 t320 t321 from by repeat (first | (with_reducible first | exact HI307.out | apply IsS67.alloc | apply IsS67.drewN | apply IsS67.drew | apply IsS67.set_1 | apply IsS67.set_2) | exact HI307.out)) (zo HO324) (by decide)) hk (fun _ h => h.2)) (fun _ h => h.1)); have n2_ := jA (hb); have n3_ := jA (hi); clear HO310; clear HO324; clear HB; clear HI307; have HO310 := n0_; have HO324 := n1_; have HB := n2_; have HI307 := n3_; clear n0_ n1_ n2_ n3_; (try clear hb); (try clear hb2); (try clear hk); (try clear hi)))
 go_ret2
 exact ⟨_, by first | rfl | (simp [errW_none, errW_some] <;> rfl) | (simp [*, errW_none, errW_some] <;> rfl), by (with_reducible repeat (first | apply jR | apply jQ | apply jS)); exact HO310.out, by repeat (first | (with_reducible first | exact HB.out | apply jV | apply jJ | apply jL | refine jO ?_ (IsS67.ge HI307.out)) | exact HB.out)⟩

/-! ### spec_DrawNextTry: function 40 -/
def spec_DrawNextTry.f (k : Nat) (l0 : List Int) : Option ((List (S36)) × Int) := (spec_l01From.f k l0).bind fun bt328 => ((spec_DrawCueState.f k l0).bind fun bt332 => ((spec_l01Next.f bt328.1 bt328.2.1 bt328.2.2 24).bind fun bt336 => (if bt336.1 = 0 then ((spec_l01Next.f bt328.1 bt336.2.1 bt336.2.2 20).bind fun bt339 => (some ((([(⟨1, wrap64 (99960 + bt339.1), false⟩ : S36)] : List (S36))), 1))) else (some (bt332.1, bt332.2)))))
theorem spec_DrawNextTry.mono : ∀ a0 k, LeO (spec_DrawNextTry.f k a0) (spec_DrawNextTry.f (k + 1) a0) := by
 intro a0 k
 unfold spec_DrawNextTry.f
 repeat' first
   | (with_reducible exact spec_DrawCueState.mono _ _)
   | (with_reducible exact spec_l01From.mono _ _)
   | (with_reducible exact LeO.refl _)
   | (with_reducible exact LeO.none _)
   | (with_reducible refine LeO.ite ?_ ?_)
   | (with_reducible refine LeO.bind ?_ (fun _ => ?_))
   | exact spec_DrawCueState.mono _ _
   | exact spec_l01From.mono _ _
   | exact LeO.none _
   | refine LeO.ite ?_ ?_
   | refine LeO.bind ?_ (fun _ => ?_)
set_option maxHeartbeats 8000000 in
set_option maxRecDepth 100000 in
theorem spec_DrawNextTry.calls (k : Nat) (A0 : Option Addr) (c0 : Nat) (l0 : List Int) (r1 : List (S36)) (r2 : Int) (w : World) (hr0 : Kd.C (Kd.int .u8) w A0 l0.length l0) (hc0 : l0.length ≤ c0) (h : spec_DrawNextTry.f k l0 = some (r1, r2)) :
  Calls Try.prog 40 #[.slice A0 l0.length c0] w fun e w' => ∃ v0_ : Value, e = .returned (.tuple #[v0_, .int .i64 r2]) ∧ Kd.R k36 36 w' w.heap.size (fun _ => True) v0_ r1 ∧ Below w.heap.size w w' := by
 have hu36 := Try.underlying36
 have HR0 := jA hr0
 have HC0 := jA hc0
 clear hr0 hc0
 have HB := jA (Below.refl w.heap.size w)
 have H : ((spec_l01From.f k l0).bind fun bt328 => ((spec_DrawCueState.f k l0).bind fun bt332 => ((spec_l01Next.f bt328.1 bt328.2.1 bt328.2.2 24).bind fun bt336 => (if bt336.1 = 0 then ((spec_l01Next.f bt328.1 bt336.2.1 bt336.2.2 20).bind fun bt339 => (some ((([(⟨1, wrap64 (99960 + bt339.1), false⟩ : S36)] : List (S36))), 1))) else (some (bt332.1, bt332.2)))))) = some (r1, r2) := h
 clear h
 replace H := jG.mp H
 obtain ⟨⟨t328, t329, t330⟩, A20, H⟩ := H
 replace H : ((spec_DrawCueState.f k l0).bind fun bt332 => ((spec_l01Next.f t328 t329 t330 24).bind fun bt336 => (if bt336.1 = 0 then ((spec_l01Next.f t328 bt336.2.1 bt336.2.2 20).bind fun bt339 => (some ((([(⟨1, wrap64 (99960 + bt339.1), false⟩ : S36)] : List (S36))), 1))) else (some (bt332.1, bt332.2))))) = some (r1, r2) := H
 have A2 := jA A20
 clear A20
 replace H := jG.mp H
 obtain ⟨⟨t332, t333⟩, A30, H⟩ := H
 replace H : ((spec_l01Next.f t328 t329 t330 24).bind fun bt336 => (if bt336.1 = 0 then ((spec_l01Next.f t328 bt336.2.1 bt336.2.2 20).bind fun bt339 => (some ((([(⟨1, wrap64 (99960 + bt339.1), false⟩ : S36)] : List (S36))), 1))) else (some (t332, t333)))) = some (r1, r2) := H
 have A3 := jA A30
 clear A30
 replace H := jG.mp H
 obtain ⟨⟨t336, t337, t338⟩, A40, H⟩ := H
 replace H : (if t336 = 0 then ((spec_l01Next.f t328 t337 t338 20).bind fun bt339 => (some ((([(⟨1, wrap64 (99960 + bt339.1), false⟩ : S36)] : List (S36))), 1))) else (some (t332, t333))) = some (r1, r2) := H
 have A4 := jA A40
 clear A40
 by_cases c5 : t336 = 0
 ·rw [if_pos c5] at H
  have c5b0 : (t336 == 0) = true := beq_iff_eq.mpr c5
  have c5b1 : (t336 != 0) = false := bne_eq_false_iff_eq.mpr c5
  clear c5
  replace H := jG.mp H
  obtain ⟨⟨t339, t340, t341⟩, A60, H⟩ := H
  replace H : (some ((([(⟨1, wrap64 (99960 + t339), false⟩ : S36)] : List (S36))), 1)) = some (r1, r2) := H
  have A6 := jA A60
  clear A60
  obtain ⟨y342, hy342⟩ : ∃ y_ : List (S36), y_ = (([(⟨1, wrap64 (99960 + t339), false⟩ : S36)] : List (S36))) := ⟨_, rfl⟩
  replace H : (some (y342, 1)) = some (r1, r2) := by first | (rw [hy342]; with_reducible exact H) | (have H2_ := (Option.bind_some _ _).symm.trans H; rw [hy342]; with_reducible exact H2_) | (have H2_ := (Option.bind_some _ _).symm.trans H; with_reducible exact H2_) | with_reducible exact H | (rw [hy342]; exact H) | exact H
  have Ny342 := jA hy342
  clear hy342
  simp only [jf, jh] at H
  obtain ⟨rfl, rfl⟩ := H
  go_enter Try.func40, Try.ntmps40
  go_wp2_with (first | ((with_reducible refine jU (f := 61) rfl ?_); refine goesL_ (some 8) rfl rfl Try.func61 zr rfl #[.slice A0 l0.length c0] rfl zm ?_; (with_reducible refine (spec_l01From.calls k _ _ l0 t328 t329 t330 w _ ?side1 ?side2 ?side3 A2.out).mono ?_); (case side1 => repeat (first | (with_reducible first | exact HB.out | apply jV | apply jJ | apply jL) | exact HB.out)); (case side2 => exact HR0.out); (case side3 => exact HC0.out); rintro e w7 ⟨g331, rfl, hi, hb, hb2⟩; refine ⟨_, rfl, ?_⟩; have n0_ := jA (hb); have n1_ := jA (hi); clear HB; have HB := n0_; have HI331 := n1_; clear n0_ n1_; (try clear hb); (try clear hb2); (try clear hk); (try clear hi)) | ((with_reducible refine jU (f := 45) rfl ?_); refine goesL_ (some 11) rfl rfl Try.func45 zr rfl #[.slice A0 l0.length c0] rfl zm ?_; (with_reducible refine (spec_DrawCueState.calls k _ _ l0 t332 t333 _ ?side1 ?side2 A3.out).mono ?_); (case side1 => exact zs HR0 HB); (case side2 => exact HC0.out); rintro e w8 ⟨v334, rfl, ho0, hb⟩; refine ⟨_, rfl, ?_⟩; have n0_ := jA (jc ho0 (jP (by repeat (first | (with_reducible first | exact HB.out | apply jV | apply jJ | apply jL | refine jO ?_ (IsS67.ge HI331.out)) | exact HB.out)))); have n1_ := jA (IsS67.below (by repeat (first | (with_reducible first | exact HI331.out | apply IsS67.alloc | apply IsS67.drewN | apply IsS67.drew | apply IsS67.set_1 | apply IsS67.set_2) | exact HI331.out)) hb); have n2_ := jA (jH (by repeat (first | (with_reducible first | exact HB.out | apply jV | apply jJ | apply jL | refine jO ?_ (IsS67.ge HI331.out)) | exact HB.out)) hb); clear HI331; clear HB; have HO335 := n0_; have HI331 := n1_; have HB := n2_; clear n0_ n1_ n2_; (try clear hb); (try clear hb2); (try clear hk); (try clear hi); (try clear ho0)) | ((with_reducible refine jU (f := 62) rfl ?_); refine goesL_ (some 15) rfl rfl Try.func62 zr rfl #[.pointer (some ⟨g331, 0, none⟩), .int .i64 24] rfl zm ?_; (with_reducible refine (spec_l01Next.calls g331 t328 t329 t330 24 t336 t337 t338 w _ ?side1 ?side2 A4.out).mono ?_); (case side1 => repeat (first | (with_reducible first | exact HI331.out | apply IsS67.alloc | apply IsS67.drewN | apply IsS67.drew | apply IsS67.set_1 | apply IsS67.set_2) | exact HI331.out)); (case side2 => repeat (first | (with_reducible first | exact HB.out | apply jV | apply jJ | apply jL | refine jO ?_ (IsS67.ge HI331.out)) | exact HB.out)); rintro e w9 ⟨rfl, hi, hb, hk⟩; refine ⟨_, rfl, ?_⟩; have n0_ := jA (Kd.R_mono (Kd.R_keep (IsS67.apart (show IsS67 w _ g331 t328 t329 t330 from by repeat (first | (with_reducible first | exact HI331.out | apply IsS67.alloc | apply IsS67.drewN | apply IsS67.drew | apply IsS67.set_1 | apply IsS67.set_2) | exact HI331.out)) (zo HO335) (by decide)) hk (fun _ h => h.2)) (fun _ h => h.1)); have n1_ := jA (hb); have n2_ := jA (hi); clear HO335; clear HB; clear HI331; have HO335 := n0_; have HB := n1_; have HI331 := n2_; clear n0_ n1_ n2_; (try clear hb); (try clear hb2); (try clear hk); (try clear hi)) | ((with_reducible refine jU (f := 62) rfl ?_); refine goesL_ (some 18) rfl rfl Try.func62 zr rfl #[.pointer (some ⟨g331, 0, none⟩), .int .i64 20] rfl zm ?_; (with_reducible refine (spec_l01Next.calls g331 t328 t337 t338 20 t339 t340 t341 w _ ?side1 ?side2 A6.out).mono ?_); (case side1 => repeat (first | (with_reducible first | exact HI331.out | apply IsS67.alloc | apply IsS67.drewN | apply IsS67.drew | apply IsS67.set_1 | apply IsS67.set_2) | exact HI331.out)); (case side2 => repeat (first | (with_reducible first | exact HB.out | apply jV | apply jJ | apply jL | refine jO ?_ (IsS67.ge HI331.out)) | exact HB.out)); rintro e w10 ⟨rfl, hi, hb, hk⟩; refine ⟨_, rfl, ?_⟩; have n0_ := jA (Kd.R_mono (Kd.R_keep (IsS67.apart (show IsS67 w _ g331 t328 t337 t338 from by repeat (first | (with_reducible first | exact HI331.out | apply IsS67.alloc | apply IsS67.drewN | apply IsS67.drew | apply IsS67.set_1 | apply IsS67.set_2) | exact HI331.out)) (zo HO335) (by decide)) hk (fun _ h => h.2)) (fun _ h => h.1)); have n1_ := jA (hb); have n2_ := jA (hi); clear HO335; clear HB; clear HI331; have HO335 := n0_; have HB := n1_; have HI331 := n2_; clear n0_ n1_ n2_; (try clear hb); (try clear hb2); (try clear hk); (try clear hi)) | ((with_reducible refine gate_dst (N := 21) rfl ?_); refine Kd.R_lit k36 _ 36 ?hg (N := 21) ?hd (xs := ([(⟨1, wrap64 (99960 + t339), false⟩ : S36)] : List (S36))) (inner := [.int .i64 1, .int .i64 (wrap64 (99960 + t339)), .bool false]) (ok := fun _ => True) (okp := fun _ => True) ?hr ?hp (fun _ hk => hk) trivial (Below.refl _ _) (Nat.le_refl _) (by simp) ?_; (case hd => rfl); (case hg => rfl); (case hr => first | (go_simp; done) | (go_simp; rfl)); (case hp => exact (Reps.c3 (show Kd.M k36 _ _ _ (⟨1, wrap64 (99960 + t339), false⟩ : S36) [.int .i64 1, .int .i64 (wrap64 (99960 + t339)), .bool false] from (k36_mkM _ _ _ (⟨1, wrap64 (99960 + t339), false⟩ : S36) )) (Reps.none _ _))); intro v343 w11 ho12 hb hg_ hnew_; clear hg_ hnew_; (first | rw [← Ny342.out] at ho12 | (simp only [Int.reduceToNat] at ho12; rw [← Ny342.out] at ho12)); have n0_ := jA (Kd.R_elder' (zo HO335) (Kd.R_base ho12) hb); have n1_ := jA (jc (Kd.R_new' ho12 (Kd.R_lt (zo HO335))) (jP (by repeat (first | (with_reducible first | exact HB.out | apply jV | apply jJ | apply jL | refine jO ?_ (IsS67.ge HI331.out)) | exact HB.out)))); have n2_ := jA (IsS67.below (by repeat (first | (with_reducible first | exact HI331.out | apply IsS67.alloc | apply IsS67.drewN | apply IsS67.drew | apply IsS67.set_1 | apply IsS67.set_2) | exact HI331.out)) hb); have n3_ := jA (jH (by repeat (first | (with_reducible first | exact HB.out | apply jV | apply jJ | apply jL | refine jO ?_ (IsS67.ge HI331.out)) | exact HB.out)) hb); clear HO335; clear HI331; clear HB; have HO335 := n0_; have HO344 := n1_; have HI331 := n2_; have HB := n3_; clear n0_ n1_ n2_ n3_; clear hb ho12))
  go_ret2
  exact ⟨_, by first | rfl | (simp [errW_none, errW_some] <;> rfl) | (simp [*, errW_none, errW_some] <;> rfl), by (with_reducible repeat (first | apply jR | apply jQ | apply jS)); exact Kd.R_mono HO344.out (fun _ hk => trivial), by repeat (first | (with_reducible first | exact HB.out | apply jV | apply jJ | apply jL | refine jO ?_ (IsS67.ge HI331.out)) | exact HB.out)⟩
 ·rw [if_neg c5] at H
  have c5b0 : (t336 == 0) = false := beq_eq_false_iff_ne.mpr c5
  have c5b1 : (t336 != 0) = true := bne_iff_ne.mpr c5
  simp only [jf, jh] at H
  obtain ⟨rfl, rfl⟩ := H
  go_enter Try.func40, Try.ntmps40
  go_wp2_with (first | ((with_reducible refine jU (f := 61) rfl ?_); refine goesL_ (some 8) rfl rfl Try.func61 zr rfl #[.slice A0 l0.length c0] rfl zm ?_; (with_reducible refine (spec_l01From.calls k _ _ l0 t328 t329 t330 w _ ?side1 ?side2 ?side3 A2.out).mono ?_); (case side1 => repeat (first | (with_reducible first | exact HB.out | apply jV | apply jJ | apply jL) | exact HB.out)); (case side2 => exact HR0.out); (case side3 => exact HC0.out); rintro e w13 ⟨g331, rfl, hi, hb, hb2⟩; refine ⟨_, rfl, ?_⟩; have n0_ := jA (hb); have n1_ := jA (hi); clear HB; have HB := n0_; have HI331 := n1_; clear n0_ n1_; (try clear hb); (try clear hb2); (try clear hk); (try clear hi)) | ((with_reducible refine jU (f := 45) rfl ?_); refine goesL_ (some 11) rfl rfl Try.func45 zr rfl #[.slice A0 l0.length c0] rfl zm ?_; (with_reducible refine (spec_DrawCueState.calls k _ _ l0 t332 t333 _ ?side1 ?side2 A3.out).mono ?_); (case side1 => exact zs HR0 HB); (case side2 => exact HC0.out); rintro e w14 ⟨v334, rfl, ho0, hb⟩; refine ⟨_, rfl, ?_⟩; have n0_ := jA (jc ho0 (jP (by repeat (first | (with_reducible first | exact HB.out | apply jV | apply jJ | apply jL | refine jO ?_ (IsS67.ge HI331.out)) | exact HB.out)))); have n1_ := jA (IsS67.below (by repeat (first | (with_reducible first | exact HI331.out | apply IsS67.alloc | apply IsS67.drewN | apply IsS67.drew | apply IsS67.set_1 | apply IsS67.set_2) | exact HI331.out)) hb); have n2_ := jA (jH (by repeat (first | (with_reducible first | exact HB.out | apply jV | apply jJ | apply jL | refine jO ?_ (IsS67.ge HI331.out)) | exact HB.out)) hb); clear HI331; clear HB; have HO335 := n0_; have HI331 := n1_; have HB := n2_; clear n0_ n1_ n2_; (try clear hb); (try clear hb2); (try clear hk); (try clear hi); (try clear ho0)) | ((with_reducible refine jU (f := 62) rfl ?_); refine goesL_ (some 15) rfl rfl Try.func62 zr rfl #[.pointer (some ⟨g331, 0, none⟩), .int .i64 24] rfl zm ?_; (with_reducible refine (spec_l01Next.calls g331 t328 t329 t330 24 t336 t337 t338 w _ ?side1 ?side2 A4.out).mono ?_); (case side1 => repeat (first | (with_reducible first | exact HI331.out | apply IsS67.alloc | apply IsS67.drewN | apply IsS67.drew | apply IsS67.set_1 | apply IsS67.set_2) | exact HI331.out)); (case side2 => repeat (first | (with_reducible first | exact HB.out | apply jV | apply jJ | apply jL | refine jO ?_ (IsS67.ge HI331.out)) | exact HB.out)); rintro e w15 ⟨rfl, hi, hb, hk⟩; refine ⟨_, rfl, ?_⟩; have n0_ := jA (Kd.R_mono (Kd.R_keep (IsS67.apart (show IsS67 w _ g331 t328 t329 t330 from by repeat (first | (with_reducible first | exact HI331.out | apply IsS67.alloc | apply IsS67.drewN | apply IsS67.drew | apply IsS67.set_1 | apply IsS67.set_2) | exact HI331.out)) (zo HO335) (by decide)) hk (fun _ h => h.2)) (fun _ h => h.1)); have n1_ := jA (hb); have n2_ := jA (hi); clear HO335; clear HB; clear HI331; have HO335 := n0_; have HB := n1_; have HI331 := n2_; clear n0_ n1_ n2_; (try clear hb); (try clear hb2); (try clear hk); (try clear hi)))
  go_ret2
  exact ⟨_, by first | rfl | (simp [errW_none, errW_some] <;> rfl) | (simp [*, errW_none, errW_some] <;> rfl), by (with_reducible repeat (first | apply jR | apply jQ | apply jS)); exact HO335.out, by repeat (first | (with_reducible first | exact HB.out | apply jV | apply jJ | apply jL | refine jO ?_ (IsS67.ge HI331.out)) | exact HB.out)⟩

end Go.Proofs.Ythnpffomoaeeoaa.PFnTries
