/- Functions and contracts that FnCueStates reaches (10 of 11). -/
import Derived.Test.YthnpffomoaeeoaaQFnCueStatesx8
namespace Go.Proofs.Ythnpffomoaeeoaa.PFnCueStates
open Go.RowKit Go.Proofs.YthnpffomoaeeoaaW.PrintWords Go.Proofs.YthnpffomoaeeoaaW.PrintLast Go.Proofs.YthnpffomoaeeoaaW.PrintMore
attribute [local go_sem] max2_int min2_int max_two min_two max_three min_three max_four min_four   -- for this text's walks alone
set_option linter.unusedVariables false
set_option linter.unusedSimpArgs false

/-! ### spec_l24Draw: function 63 -/
def spec_l24Draw.l0 : Nat → List (S36) → Int → List Int → Int → Int → Option ((List (S36)) × Int × Int)
 | 0, _, _, _, _, _ => none
 | k + 1, x3, x4, x1000, x1001, x1002 => (spec_l01Next.f x1000 x1001 x1002 2).bind fun bt323 => (if (x3.length : Int) < (wrap64 (40 + bt323.1)) then (if x3.length < 5864062014805 then (spec_l24Draw.l0 k (x3 ++ [(⟨wrap64 (4 + (Int.tmod x4 16)), wrap64 (2000 + (wrap64 (50 * (wrap64 (Int.tdiv x4 16))))), false⟩ : S36)]) (wrap64 (x4 + 1)) x1000 bt323.2.1 bt323.2.2) else (none)) else (some (x3, bt323.2.1, bt323.2.2)))
def spec_l24Draw.f (k : Nat) (s0_0 : List Int) (s0_1 : Int) (s0_2 : Int) : Option ((List (S36)) × Int × Int) := (spec_l24Good.f k s0_0 s0_1 s0_2).bind fun bt300 => ((spec_l01Next.f s0_0 bt300.2.1 bt300.2.2 30).bind fun bt305 => (if bt305.1 = 0 then ((spec_l01Pick.f s0_0 bt305.2.1 bt305.2.2 (([(-1), 19, 20, 0] : List Int))).bind fun bt311 => ((spec_l01Pick.f s0_0 bt311.2.1 bt311.2.2 (([0, 100000, 100001] : List Int))).bind fun bt317 => (if bt300.1.length < 5864062014805 then (some ((bt300.1 ++ [(⟨bt311.1, bt317.1, false⟩ : S36)]), bt317.2.1, bt317.2.2)) else (none)))) else (if bt305.1 = 1 then (spec_l24Draw.l0 k bt300.1 0 s0_0 bt305.2.1 bt305.2.2) else (some (bt300.1, bt305.2.1, bt305.2.2)))))
theorem spec_l24Draw.mono_l : ∀ k, (∀ y0 y1 y2 y3 y4, LeO (spec_l24Draw.l0 k y0 y1 y2 y3 y4) (spec_l24Draw.l0 (k + 1) y0 y1 y2 y3 y4))
 | 0 => fun _ _ _ _ _ r h => by simp [spec_l24Draw.l0] at h
 | k + 1 => by
  have ih0 := spec_l24Draw.mono_l k
  ·intro y0 y1 y2 y3 y4
   unfold spec_l24Draw.l0
   repeat' first
   | (with_reducible exact ih0 _ _ _ _ _)
   | (with_reducible exact spec_l24Good.mono _ _ _ _)
   | (with_reducible exact LeO.refl _)
   | (with_reducible exact LeO.none _)
   | (with_reducible refine LeO.ite ?_ ?_)
   | (with_reducible refine LeO.bind ?_ (fun _ => ?_))
   | exact ih0 _ _ _ _ _
   | exact spec_l24Good.mono _ _ _ _
   | exact LeO.none _
   | refine LeO.ite ?_ ?_
   | refine LeO.bind ?_ (fun _ => ?_)
theorem spec_l24Draw.mono : ∀ a0 a1 a2 k, LeO (spec_l24Draw.f k a0 a1 a2) (spec_l24Draw.f (k + 1) a0 a1 a2) := by
 intro a0 a1 a2 k
 have ih0 := spec_l24Draw.mono_l k
 unfold spec_l24Draw.f
 repeat' first
   | (with_reducible exact ih0 _ _ _ _ _)
   | (with_reducible exact spec_l24Good.mono _ _ _ _)
   | (with_reducible exact LeO.refl _)
   | (with_reducible exact LeO.none _)
   | (with_reducible refine LeO.ite ?_ ?_)
   | (with_reducible refine LeO.bind ?_ (fun _ => ?_))
   | exact ih0 _ _ _ _ _
   | exact spec_l24Good.mono _ _ _ _
   | exact LeO.none _
   | refine LeO.ite ?_ ?_
   | refine LeO.bind ?_ (fun _ => ?_)
set_option maxHeartbeats 8000000 in
set_option maxRecDepth 100000 in
theorem spec_l24Draw.calls (k : Nat) (g : Nat) (s0_0 : List Int) (s0_1 : Int) (s0_2 : Int) (r1 : List (S36)) (r2 : Int) (r3 : Int) (w0 w : World) (hI : IsS67 w0 w g s0_0 s0_1 s0_2) (hB : Below w0.heap.size w0 w) (h : spec_l24Draw.f k s0_0 s0_1 s0_2 = some (r1, r2, r3)) :
  Calls Try.prog 63 #[.pointer (some ⟨g, 0, none⟩)] w fun e w' => ∃ v0_ : Value, e = .returned (v0_) ∧ Kd.R k36 36 w' w.heap.size (fun _ => True) v0_ r1 ∧ IsS67 w0 w' g s0_0 r2 r3 ∧ Below w0.heap.size w0 w' ∧ KeepBut w w' g none := by
 have hu36 := Try.underlying36
 have HI0 := jA hI
 have HK := jA (KeepBut.refl w g none)
 have HL := jA hB.size
 clear hI
 have HW0 := jA hB.size
 have HB := jA hB
 clear hB
 have H : ((spec_l24Good.f k s0_0 s0_1 s0_2).bind fun bt300 => ((spec_l01Next.f s0_0 bt300.2.1 bt300.2.2 30).bind fun bt305 => (if bt305.1 = 0 then ((spec_l01Pick.f s0_0 bt305.2.1 bt305.2.2 (([(-1), 19, 20, 0] : List Int))).bind fun bt311 => ((spec_l01Pick.f s0_0 bt311.2.1 bt311.2.2 (([0, 100000, 100001] : List Int))).bind fun bt317 => (if bt300.1.length < 5864062014805 then (some ((bt300.1 ++ [(⟨bt311.1, bt317.1, false⟩ : S36)]), bt317.2.1, bt317.2.2)) else (none)))) else (if bt305.1 = 1 then (spec_l24Draw.l0 k bt300.1 0 s0_0 bt305.2.1 bt305.2.2) else (some (bt300.1, bt305.2.1, bt305.2.2)))))) = some (r1, r2, r3) := h
 clear h
 replace H := jD.mp H
 obtain ⟨⟨t300, t303, t304⟩, A20, H⟩ := H
 replace H : ((spec_l01Next.f s0_0 t303 t304 30).bind fun bt305 => (if bt305.1 = 0 then ((spec_l01Pick.f s0_0 bt305.2.1 bt305.2.2 (([(-1), 19, 20, 0] : List Int))).bind fun bt311 => ((spec_l01Pick.f s0_0 bt311.2.1 bt311.2.2 (([0, 100000, 100001] : List Int))).bind fun bt317 => (if t300.length < 5864062014805 then (some ((t300 ++ [(⟨bt311.1, bt317.1, false⟩ : S36)]), bt317.2.1, bt317.2.2)) else (none)))) else (if bt305.1 = 1 then (spec_l24Draw.l0 k t300 0 s0_0 bt305.2.1 bt305.2.2) else (some (t300, bt305.2.1, bt305.2.2))))) = some (r1, r2, r3) := H
 have A2 := jA A20
 clear A20
 replace H := jD.mp H
 obtain ⟨⟨t305, t306, t307⟩, A30, H⟩ := H
 replace H : (if t305 = 0 then ((spec_l01Pick.f s0_0 t306 t307 (([(-1), 19, 20, 0] : List Int))).bind fun bt311 => ((spec_l01Pick.f s0_0 bt311.2.1 bt311.2.2 (([0, 100000, 100001] : List Int))).bind fun bt317 => (if t300.length < 5864062014805 then (some ((t300 ++ [(⟨bt311.1, bt317.1, false⟩ : S36)]), bt317.2.1, bt317.2.2)) else (none)))) else (if t305 = 1 then (spec_l24Draw.l0 k t300 0 s0_0 t306 t307) else (some (t300, t306, t307)))) = some (r1, r2, r3) := H
 have A3 := jA A30
 clear A30
 by_cases c4 : t305 = 0
 ·rw [if_pos c4] at H
  have c4b0 : (t305 == 0) = true := beq_iff_eq.mpr c4
  have c4b1 : (t305 != 0) = false := bne_eq_false_iff_eq.mpr c4
  clear c4
  obtain ⟨y308, hy308⟩ : ∃ y_ : List Int, y_ = (([(-1), 19, 20, 0] : List Int)) := ⟨_, rfl⟩
  replace H : ((spec_l01Pick.f s0_0 t306 t307 y308).bind fun bt311 => ((spec_l01Pick.f s0_0 bt311.2.1 bt311.2.2 (([0, 100000, 100001] : List Int))).bind fun bt317 => (if t300.length < 5864062014805 then (some ((t300 ++ [(⟨bt311.1, bt317.1, false⟩ : S36)]), bt317.2.1, bt317.2.2)) else (none)))) = some (r1, r2, r3) := by first | (rw [hy308]; with_reducible exact H) | (have H2_ := (Option.bind_some _ _).symm.trans H; rw [hy308]; with_reducible exact H2_) | (have H2_ := (Option.bind_some _ _).symm.trans H; with_reducible exact H2_) | with_reducible exact H | (rw [hy308]; exact H) | exact H
  have Ny308 := jA hy308
  clear hy308
  replace H := jD.mp H
  obtain ⟨⟨t311, t312, t313⟩, A50, H⟩ := H
  replace H : ((spec_l01Pick.f s0_0 t312 t313 (([0, 100000, 100001] : List Int))).bind fun bt317 => (if t300.length < 5864062014805 then (some ((t300 ++ [(⟨t311, bt317.1, false⟩ : S36)]), bt317.2.1, bt317.2.2)) else (none))) = some (r1, r2, r3) := H
  have A5 := jA A50
  clear A50
  obtain ⟨y314, hy314⟩ : ∃ y_ : List Int, y_ = (([0, 100000, 100001] : List Int)) := ⟨_, rfl⟩
  replace H : ((spec_l01Pick.f s0_0 t312 t313 y314).bind fun bt317 => (if t300.length < 5864062014805 then (some ((t300 ++ [(⟨t311, bt317.1, false⟩ : S36)]), bt317.2.1, bt317.2.2)) else (none))) = some (r1, r2, r3) := by first | (rw [hy314]; with_reducible exact H) | (have H2_ := (Option.bind_some _ _).symm.trans H; rw [hy314]; with_reducible exact H2_) | (have H2_ := (Option.bind_some _ _).symm.trans H; with_reducible exact H2_) | with_reducible exact H | (rw [hy314]; exact H) | exact H
  have Ny314 := jA hy314
  clear hy314
  replace H := jD.mp H
  obtain ⟨⟨t317, t318, t319⟩, A60, H⟩ := H
  replace H : (if t300.length < 5864062014805 then (some ((t300 ++ [(⟨t311, t317, false⟩ : S36)]), t318, t319)) else (none)) = some (r1, r2, r3) := H
  have A6 := jA A60
  clear A60
  by_cases c7 : t300.length < 5864062014805
  ·rw [if_pos c7] at H
   have LMc7 := jA c7
   clear c7
   obtain ⟨y320, hy320⟩ : ∃ y_ : List (S36), y_ = (t300 ++ [(⟨t311, t317, false⟩ : S36)]) := ⟨_, rfl⟩
   replace H : (some (y320, t318, t319)) = some (r1, r2, r3) := by first | (rw [hy320]; with_reducible exact H) | (have H2_ := (Option.bind_some _ _).symm.trans H; rw [hy320]; with_reducible exact H2_) | (have H2_ := (Option.bind_some _ _).symm.trans H; with_reducible exact H2_) | with_reducible exact H | (rw [hy320]; exact H) | exact H
   have Ny320 := jA hy320
   clear hy320
   simp only [jY, jc] at H
   obtain ⟨rfl, rfl, rfl⟩ := H
   go_enter Try.func63, Try.ntmps63
   go_wp2_with (first | ((with_reducible refine jL (f := 65) rfl ?_); refine goesL_ (some 6) rfl rfl Try.func65 zr rfl #[.pointer (some ⟨g, 0, none⟩)] rfl zm ?_; (with_reducible refine (spec_l24Good.calls k g s0_0 s0_1 s0_2 t300 t303 t304 w0 _ ?side1 ?side2 A2.out).mono ?_); (case side1 => repeat (first | (with_reducible first | exact HI0.out | apply IsS67.alloc | apply IsS67.drewN | apply IsS67.drew | apply IsS67.set_1 | apply IsS67.set_2) | exact HI0.out)); (case side2 => repeat (first | (with_reducible first | exact HB.out | apply jW | apply jS | apply jQ | refine ja ?_ (IsS67.ge HI0.out)) | exact HB.out)); rintro e w8 ⟨v301, rfl, ho0, hi, hb, hk⟩; refine ⟨_, rfl, ?_⟩; have n0_ := jA (jZ ho0 (keep_size (w := w) (g := g) (row := none) (zh0 HK))); have n1_ := jA (KeepBut.trans (zh0 HK) hk (.inl rfl)); have n2_ := jA (hb); have n3_ := jA (hi); clear HK; clear HB; clear HI0; have HO302 := n0_; have HK := n1_; have HB := n2_; have HI0 := n3_; clear n0_ n1_ n2_ n3_; (try clear hb); (try clear hb2); (try clear hk); (try clear hi); (try clear ho0)) | ((with_reducible refine jL (f := 62) rfl ?_); refine goesL_ (some 8) rfl rfl Try.func62 zr rfl #[.pointer (some ⟨g, 0, none⟩), .int .i64 30] rfl zm ?_; (with_reducible refine (spec_l01Next.calls g s0_0 t303 t304 30 t305 t306 t307 w0 _ ?side1 ?side2 A3.out).mono ?_); (case side1 => repeat (first | (with_reducible first | exact HI0.out | apply IsS67.alloc | apply IsS67.drewN | apply IsS67.drew | apply IsS67.set_1 | apply IsS67.set_2) | exact HI0.out)); (case side2 => repeat (first | (with_reducible first | exact HB.out | apply jW | apply jS | apply jQ | refine ja ?_ (IsS67.ge HI0.out)) | exact HB.out)); rintro e w9 ⟨rfl, hi, hb, hk⟩; refine ⟨_, rfl, ?_⟩; have n0_ := jA (Kd.R_mono (Kd.R_keep (IsS67.apart (show IsS67 w0 _ g s0_0 t303 t304 from by repeat (first | (with_reducible first | exact HI0.out | apply IsS67.alloc | apply IsS67.drewN | apply IsS67.drew | apply IsS67.set_1 | apply IsS67.set_2) | exact HI0.out)) (zo HO302) (by decide)) hk (fun _ h => h.2)) (fun _ h => h.1)); have n1_ := jA (KeepBut.trans (zh0 HK) hk (.inl rfl)); have n2_ := jA (hb); have n3_ := jA (hi); clear HO302; clear HK; clear HB; clear HI0; have HO302 := n0_; have HK := n1_; have HB := n2_; have HI0 := n3_; clear n0_ n1_ n2_ n3_; (try clear hb); (try clear hb2); (try clear hk); (try clear hi)) | ((with_reducible refine gate_dst (N := 13) rfl ?_); refine Kd.R_lit (Kd.int .i64) _ 2 ?hg (N := 13) ?hd (xs := ([(-1), 19, 20, 0] : List Int)) (inner := [.int .i64 (-1), .int .i64 19, .int .i64 20, .int .i64 0]) (ok := fun _ => True) (okp := fun _ => True) ?hr ?hp (fun _ hk => hk) trivial (Below.refl _ _) (Nat.le_refl _) (by simp) ?_; (case hd => rfl); (case hg => rfl); (case hr => first | (go_simp; done) | (go_simp; rfl)); (case hp => exact (Reps.one (show Kd.M (Kd.int .i64) _ _ _ (-1) [.int .i64 (-1)] from rfl) (Reps.one (show Kd.M (Kd.int .i64) _ _ _ 19 [.int .i64 19] from rfl) (Reps.one (show Kd.M (Kd.int .i64) _ _ _ 20 [.int .i64 20] from rfl) (Reps.one (show Kd.M (Kd.int .i64) _ _ _ 0 [.int .i64 0] from rfl) (Reps.none _ _)))))); intro v309 w10 ho11 hb hg_ hnew_; clear hg_ hnew_; (first | rw [← Ny308.out] at ho11 | (simp only [Int.reduceToNat] at ho11; rw [← Ny308.out] at ho11)); have n0_ := jA (jX (zo HO302) hb); have n1_ := jA (jZ ho11 (keep_size (w := w) (g := g) (row := none) (zh0 HK))); have n2_ := jA (IsS67.below (by repeat (first | (with_reducible first | exact HI0.out | apply IsS67.alloc | apply IsS67.drewN | apply IsS67.drew | apply IsS67.set_1 | apply IsS67.set_2) | exact HI0.out)) hb); have n3_ := jA (KeepBut.trans (zh0 HK) (KeepBut.of_below hb g none) (.inl rfl)); have n4_ := jA (jM (by repeat (first | (with_reducible first | exact HB.out | apply jW | apply jS | apply jQ | refine ja ?_ (IsS67.ge HI0.out)) | exact HB.out)) hb); clear HO302; clear HI0; clear HK; clear HB; have HO302 := n0_; have HO310 := n1_; have HI0 := n2_; have HK := n3_; have HB := n4_; clear n0_ n1_ n2_ n3_ n4_; clear hb ho11; obtain ⟨Ao12, co12, eo12⟩ := Kd.R_slice HO310.out; subst eo12) | ((with_reducible refine jL (f := 64) rfl ?_); refine goesL_ (some 14) rfl rfl Try.func64 zr rfl #[.pointer (some ⟨g, 0, none⟩), .slice Ao12 y308.length co12] rfl zm ?_; (with_reducible refine (spec_l01Pick.calls g s0_0 t306 t307 _ _ y308 t311 t312 t313 w0 _ ?side1 ?side2 ?side3 ?side4 ?side5 A5.out).mono ?_); (case side1 => repeat (first | (with_reducible first | exact HI0.out | apply IsS67.alloc | apply IsS67.drewN | apply IsS67.drew | apply IsS67.set_1 | apply IsS67.set_2) | exact HI0.out)); (case side2 => repeat (first | (with_reducible first | exact HB.out | apply jW | apply jS | apply jQ | refine ja ?_ (IsS67.ge HI0.out)) | exact HB.out)); (case side3 => repeat (first | exact (jH HO310.out).2.2 | (with_reducible refine jP ?_ _) | (with_reducible refine jO ?_ _) | (with_reducible refine jU ?_))); (case side4 => exact (jH HO310.out).2.1); (case side5 => exact far_slice (IsS67.own_ne HI0.out HO310.out (by decide))); rintro e w13 ⟨rfl, hi, hb, hk⟩; refine ⟨_, rfl, ?_⟩; have n0_ := jA (Kd.R_mono (Kd.R_keep (IsS67.apart (show IsS67 w0 _ g s0_0 t306 t307 from by repeat (first | (with_reducible first | exact HI0.out | apply IsS67.alloc | apply IsS67.drewN | apply IsS67.drew | apply IsS67.set_1 | apply IsS67.set_2) | exact HI0.out)) (zo HO302) (by decide)) hk (fun _ h => h.2)) (fun _ h => h.1)); have n1_ := jA (Kd.R_mono (Kd.R_keep (IsS67.apart (show IsS67 w0 _ g s0_0 t306 t307 from by repeat (first | (with_reducible first | exact HI0.out | apply IsS67.alloc | apply IsS67.drewN | apply IsS67.drew | apply IsS67.set_1 | apply IsS67.set_2) | exact HI0.out)) (zo HO310) (by decide)) hk (fun _ h => h.2)) (fun _ h => h.1)); have n2_ := jA (KeepBut.trans (zh0 HK) hk (.inl rfl)); have n3_ := jA (hb); have n4_ := jA (hi); clear HO302; clear HO310; clear HK; clear HB; clear HI0; have HO302 := n0_; have HO310 := n1_; have HK := n2_; have HB := n3_; have HI0 := n4_; clear n0_ n1_ n2_ n3_ n4_; (try clear hb); (try clear hb2); (try clear hk); (try clear hi)) | ((with_reducible refine gate_dst (N := 16) rfl ?_); refine Kd.R_lit (Kd.int .i64) _ 2 ?hg (N := 16) ?hd (xs := ([0, 100000, 100001] : List Int)) (inner := [.int .i64 0, .int .i64 100000, .int .i64 100001]) (ok := fun _ => True) (okp := fun _ => True) ?hr ?hp (fun _ hk => hk) trivial (Below.refl _ _) (Nat.le_refl _) (by simp) ?_; (case hd => rfl); (case hg => rfl); (case hr => first | (go_simp; done) | (go_simp; rfl)); (case hp => exact (Reps.one (show Kd.M (Kd.int .i64) _ _ _ 0 [.int .i64 0] from rfl) (Reps.one (show Kd.M (Kd.int .i64) _ _ _ 100000 [.int .i64 100000] from rfl) (Reps.one (show Kd.M (Kd.int .i64) _ _ _ 100001 [.int .i64 100001] from rfl) (Reps.none _ _))))); intro v315 w14 ho15 hb hg_ hnew_; clear hg_ hnew_; (first | rw [← Ny314.out] at ho15 | (simp only [Int.reduceToNat] at ho15; rw [← Ny314.out] at ho15)); have n0_ := jA (jX (zo HO302) hb); have n1_ := jA (Kd.R_elder' (zo HO310) (Kd.R_base ho15) hb); have n2_ := jA (jZ (Kd.R_new' ho15 (Kd.R_lt (zo HO310))) (keep_size (w := w) (g := g) (row := none) (zh0 HK))); have n3_ := jA (IsS67.below (by repeat (first | (with_reducible first | exact HI0.out | apply IsS67.alloc | apply IsS67.drewN | apply IsS67.drew | apply IsS67.set_1 | apply IsS67.set_2) | exact HI0.out)) hb); have n4_ := jA (KeepBut.trans (zh0 HK) (KeepBut.of_below hb g none) (.inl rfl)); have n5_ := jA (jM (by repeat (first | (with_reducible first | exact HB.out | apply jW | apply jS | apply jQ | refine ja ?_ (IsS67.ge HI0.out)) | exact HB.out)) hb); clear HO302; clear HO310; clear HI0; clear HK; clear HB; have HO302 := n0_; have HO310 := n1_; have HO316 := n2_; have HI0 := n3_; have HK := n4_; have HB := n5_; clear n0_ n1_ n2_ n3_ n4_ n5_; clear hb ho15; obtain ⟨Ao16, co16, eo16⟩ := Kd.R_slice HO316.out; subst eo16) | ((with_reducible refine jL (f := 64) rfl ?_); refine goesL_ (some 17) rfl rfl Try.func64 zr rfl #[.pointer (some ⟨g, 0, none⟩), .slice Ao16 y314.length co16] rfl zm ?_; (with_reducible refine (spec_l01Pick.calls g s0_0 t312 t313 _ _ y314 t317 t318 t319 w0 _ ?side1 ?side2 ?side3 ?side4 ?side5 A6.out).mono ?_); (case side1 => repeat (first | (with_reducible first | exact HI0.out | apply IsS67.alloc | apply IsS67.drewN | apply IsS67.drew | apply IsS67.set_1 | apply IsS67.set_2) | exact HI0.out)); (case side2 => repeat (first | (with_reducible first | exact HB.out | apply jW | apply jS | apply jQ | refine ja ?_ (IsS67.ge HI0.out)) | exact HB.out)); (case side3 => repeat (first | exact (jH HO316.out).2.2 | (with_reducible refine jP ?_ _) | (with_reducible refine jO ?_ _) | (with_reducible refine jU ?_))); (case side4 => exact (jH HO316.out).2.1); (case side5 => exact far_slice (IsS67.own_ne HI0.out HO316.out (by decide))); rintro e w17 ⟨rfl, hi, hb, hk⟩; refine ⟨_, rfl, ?_⟩; have n0_ := jA (Kd.R_mono (Kd.R_keep (IsS67.apart (show IsS67 w0 _ g s0_0 t312 t313 from by repeat (first | (with_reducible first | exact HI0.out | apply IsS67.alloc | apply IsS67.drewN | apply IsS67.drew | apply IsS67.set_1 | apply IsS67.set_2) | exact HI0.out)) (zo HO302) (by decide)) hk (fun _ h => h.2)) (fun _ h => h.1)); have n1_ := jA (Kd.R_mono (Kd.R_keep (IsS67.apart (show IsS67 w0 _ g s0_0 t312 t313 from by repeat (first | (with_reducible first | exact HI0.out | apply IsS67.alloc | apply IsS67.drewN | apply IsS67.drew | apply IsS67.set_1 | apply IsS67.set_2) | exact HI0.out)) (zo HO310) (by decide)) hk (fun _ h => h.2)) (fun _ h => h.1)); have n2_ := jA (Kd.R_mono (Kd.R_keep (IsS67.apart (show IsS67 w0 _ g s0_0 t312 t313 from by repeat (first | (with_reducible first | exact HI0.out | apply IsS67.alloc | apply IsS67.drewN | apply IsS67.drew | apply IsS67.set_1 | apply IsS67.set_2) | exact HI0.out)) (zo HO316) (by decide)) hk (fun _ h => h.2)) (fun _ h => h.1)); have n3_ := jA (KeepBut.trans (zh0 HK) hk (.inl rfl)); have n4_ := jA (hb); have n5_ := jA (hi); clear HO302; clear HO310; clear HO316; clear HK; clear HB; clear HI0; have HO302 := n0_; have HO310 := n1_; have HO316 := n2_; have HK := n3_; have HB := n4_; have HI0 := n5_; clear n0_ n1_ n2_ n3_ n4_ n5_; (try clear hb); (try clear hb2); (try clear hk); (try clear hi)) | ((with_reducible refine gate_builtin (b := .append) (xs := #[.tmp 11, .tmp 19]) rfl ?_); at_builtin; refine Kd.R_append k36 w.heap.size rfl (.tmp 11) (.tmp 19) 25 36 (.agg #[(.int .i64 0), (.int .i64 0), (.bool false)]) 24 rfl Try.underlying25 info36 rfl (by decide) (by omega) v301 t300 (⟨t311, t317, false⟩ : S36) [.int .i64 t311, .int .i64 t317, .bool false] (fun _ => True) (fun _ => False) rfl rfl ?aP (fun _ hk => hk.elim) ?aF ?aO (Below.refl _ _) ?aS ?aL ?_; (case aP => exact k36_mkM _ _ _ (⟨t311, t317, false⟩ : S36)); (case aF => exact (fun _ _ => trivial)); (case aO => exact (zo HO302)); (case aS => exact (keep_size (w := w) (g := g) (row := none) (zh0 HK))); (case aL => have := LMc7.out; omega); intro v321 w18 ho hb hg hat; rw [← Ny320.out] at ho; have n0_ := jA (IsS67.grown (by repeat (first | (with_reducible first | exact HI0.out | apply IsS67.alloc | apply IsS67.drewN | apply IsS67.drew | apply IsS67.set_1 | apply IsS67.set_2) | exact HI0.out)) hg (IsS67.own_ne HI0.out HO302.out (by decide))); have n1_ := jA (Kd.R_over' (zo HO310) (Kd.R_typed (zo HO302)) (by decide) hg); have n2_ := jA (Kd.R_over' (zo HO316) (Kd.R_typed (zo HO302)) (by decide) hg); have n3_ := jA (below_weaken (by repeat (first | (with_reducible first | exact HB.out | apply jW | apply jS | apply jQ | refine ja ?_ (IsS67.ge HI0.out)) | exact HB.out)) HL.out hb); have n4_ := jA (KeepBut.trans (zh0 HK) (KeepBut.of_grown hg g) (Kd.R_base2 HO302.out)); have n5_ := jA (ho); clear HI0; clear HO310; clear HO316; clear HB; clear HK; clear HO302; have HI0 := n0_; have HO310 := n1_; have HO316 := n2_; have HB := n3_; have HK := n4_; have HO322 := n5_; clear n0_ n1_ n2_ n3_ n4_ n5_; clear ho hb hg hat))
   go_ret
   exact ⟨_, by first | rfl | (simp [errW_none, errW_some] <;> rfl) | (simp [*, errW_none, errW_some] <;> rfl), by (with_reducible repeat (first | apply jG | apply jF | apply jK)); exact HO322.out, by repeat (first | (with_reducible first | exact HI0.out | apply IsS67.alloc | apply IsS67.drewN | apply IsS67.drew | apply IsS67.set_1 | apply IsS67.set_2) | exact HI0.out), by repeat (first | (with_reducible first | exact HB.out | apply jW | apply jS | apply jQ | refine ja ?_ (IsS67.ge HI0.out)) | exact HB.out), zh0 HK⟩
  ·rw [if_neg c7] at H
   exact absurd H (by simp)
 ·rw [if_neg c4] at H
  have c4b0 : (t305 == 0) = false := beq_eq_false_iff_ne.mpr c4
  have c4b1 : (t305 != 0) = true := bne_iff_ne.mpr c4
  by_cases c19 : t305 = 1
  ·rw [if_pos c19] at H
   have c19b0 : (t305 == 1) = true := beq_iff_eq.mpr c19
   have c19b1 : (t305 != 1) = false := bne_eq_false_iff_eq.mpr c19
   clear c19
   have H' := jA H
   clear H
   go_enter Try.func63, Try.ntmps63
   go_wp2_with (first | ((with_reducible refine jL (f := 65) rfl ?_); refine goesL_ (some 6) rfl rfl Try.func65 zr rfl #[.pointer (some ⟨g, 0, none⟩)] rfl zm ?_; (with_reducible refine (spec_l24Good.calls k g s0_0 s0_1 s0_2 t300 t303 t304 w0 _ ?side1 ?side2 A2.out).mono ?_); (case side1 => repeat (first | (with_reducible first | exact HI0.out | apply IsS67.alloc | apply IsS67.drewN | apply IsS67.drew | apply IsS67.set_1 | apply IsS67.set_2) | exact HI0.out)); (case side2 => repeat (first | (with_reducible first | exact HB.out | apply jW | apply jS | apply jQ | refine ja ?_ (IsS67.ge HI0.out)) | exact HB.out)); rintro e w20 ⟨v301, rfl, ho0, hi, hb, hk⟩; refine ⟨_, rfl, ?_⟩; have n0_ := jA (jZ ho0 (keep_size (w := w) (g := g) (row := none) (zh0 HK))); have n1_ := jA (KeepBut.trans (zh0 HK) hk (.inl rfl)); have n2_ := jA (hb); have n3_ := jA (hi); clear HK; clear HB; clear HI0; have HO302 := n0_; have HK := n1_; have HB := n2_; have HI0 := n3_; clear n0_ n1_ n2_ n3_; (try clear hb); (try clear hb2); (try clear hk); (try clear hi); (try clear ho0)) | ((with_reducible refine jL (f := 62) rfl ?_); refine goesL_ (some 8) rfl rfl Try.func62 zr rfl #[.pointer (some ⟨g, 0, none⟩), .int .i64 30] rfl zm ?_; (with_reducible refine (spec_l01Next.calls g s0_0 t303 t304 30 t305 t306 t307 w0 _ ?side1 ?side2 A3.out).mono ?_); (case side1 => repeat (first | (with_reducible first | exact HI0.out | apply IsS67.alloc | apply IsS67.drewN | apply IsS67.drew | apply IsS67.set_1 | apply IsS67.set_2) | exact HI0.out)); (case side2 => repeat (first | (with_reducible first | exact HB.out | apply jW | apply jS | apply jQ | refine ja ?_ (IsS67.ge HI0.out)) | exact HB.out)); rintro e w21 ⟨rfl, hi, hb, hk⟩; refine ⟨_, rfl, ?_⟩; have n0_ := jA (Kd.R_mono (Kd.R_keep (IsS67.apart (show IsS67 w0 _ g s0_0 t303 t304 from by repeat (first | (with_reducible first | exact HI0.out | apply IsS67.alloc | apply IsS67.drewN | apply IsS67.drew | apply IsS67.set_1 | apply IsS67.set_2) | exact HI0.out)) (zo HO302) (by decide)) hk (fun _ h => h.2)) (fun _ h => h.1)); have n1_ := jA (KeepBut.trans (zh0 HK) hk (.inl rfl)); have n2_ := jA (hb); have n3_ := jA (hi); clear HO302; clear HK; clear HB; clear HI0; have HO302 := n0_; have HK := n1_; have HB := n2_; have HI0 := n3_; clear n0_ n1_ n2_ n3_; (try clear hb); (try clear hb2); (try clear hk); (try clear hi)))
   go_loopg [3, 4] k (fun kq v3 v4 w' => ∃ (x3_1 : List (S36)) (x4_1 : Int) (x1001_1 : Int) (x1002_1 : Int), v4 = .int .i64 x4_1 ∧ Aside0 (spec_l24Draw.l0 kq x3_1 x4_1 s0_0 x1001_1 x1002_1 = some (r1, r2, r3)) ∧ Aside0 (kq ≤ k) ∧ Aside0 (Kd.R k36 36 w' w.heap.size (fun _ => True) v3 x3_1) ∧ Aside0 (IsS67 w0 w' g s0_0 x1001_1 x1002_1) ∧ Aside0 (KeepBut w w' g none) ∧ Aside0 (Below w0.heap.size w0 w'))
   case atStart => exact ⟨(t300), (0), (t306), (t307), zz, H', ⟨Nat.le_refl _⟩, ⟨by (with_reducible repeat (first | apply jG | apply jF | apply jK)); exact HO302.out⟩, ⟨by repeat (first | (with_reducible first | exact HI0.out | apply IsS67.alloc | apply IsS67.drewN | apply IsS67.drew | apply IsS67.set_1 | apply IsS67.set_2) | exact HI0.out)⟩, ⟨zh0 HK⟩, ⟨by repeat (first | (with_reducible first | exact HB.out | apply jW | apply jS | apply jQ | refine ja ?_ (IsS67.ge HI0.out)) | exact HB.out)⟩⟩
   case round =>
    clear H'
    try clear c1
    try clear p2
    try clear c4
    try clear c4b0
    try clear c4b1
    try clear c6
    try clear c7
    try clear c19
    try clear c19b0
    try clear c19b1
    obtain ⟨x3_1, x4_1, x1001_1, x1002_1, rfl, HA, HK1, HO_3, HI0, HK, HB⟩ := hrel
    cases gk with
    | zero => exact absurd HA.out (by simp [spec_l24Draw.l0])
    | succ k1 =>
     have H := HA.out
     clear HA
     simp only [spec_l24Draw.l0] at H
     replace H := jD.mp H
     obtain ⟨⟨t323, t324, t325⟩, A220, H⟩ := H
     replace H : (if (x3_1.length : Int) < (wrap64 (40 + t323)) then (if x3_1.length < 5864062014805 then (spec_l24Draw.l0 k1 (x3_1 ++ [(⟨wrap64 (4 + (Int.tmod x4_1 16)), wrap64 (2000 + (wrap64 (50 * (wrap64 (Int.tdiv x4_1 16))))), false⟩ : S36)]) (wrap64 (x4_1 + 1)) s0_0 t324 t325) else (none)) else (some (x3_1, t324, t325))) = some (r1, r2, r3) := H
     have A22 := jA A220
     clear A220
     by_cases c23 : (x3_1.length : Int) < (wrap64 (40 + t323))
     ·rw [if_pos c23] at H
      have c23b0 : decide ((x3_1.length : Int) < (wrap64 (40 + t323))) = true := jN c23
      clear c23
      by_cases c24 : x3_1.length < 5864062014805
      ·rw [if_pos c24] at H
       have LMc24 := jA c24
       clear c24
       obtain ⟨y326, hy326⟩ : ∃ y_ : List (S36), y_ = (x3_1 ++ [(⟨wrap64 (4 + (Int.tmod x4_1 16)), wrap64 (2000 + (wrap64 (50 * (wrap64 (Int.tdiv x4_1 16))))), false⟩ : S36)]) := ⟨_, rfl⟩
       replace H : (spec_l24Draw.l0 k1 y326 (wrap64 (x4_1 + 1)) s0_0 t324 t325) = some (r1, r2, r3) := by first | (rw [hy326]; with_reducible exact H) | (have H2_ := (Option.bind_some _ _).symm.trans H; rw [hy326]; with_reducible exact H2_) | (have H2_ := (Option.bind_some _ _).symm.trans H; with_reducible exact H2_) | with_reducible exact H | (rw [hy326]; exact H) | exact H
       have Ny326 := jA hy326
       clear hy326
       have H' := jA H
       clear H
       obtain ⟨Ao25, co25, eo25⟩ := Kd.R_slice HO_3.out
       subst eo25
       go_wp2_with (first | ((with_reducible refine jL (f := 62) rfl ?_); refine goesL_ (some 26) rfl rfl Try.func62 zr rfl #[.pointer (some ⟨g, 0, none⟩), .int .i64 2] rfl zm ?_; (with_reducible refine (spec_l01Next.calls g s0_0 x1001_1 x1002_1 2 t323 t324 t325 w0 _ ?side1 ?side2 A22.out).mono ?_); (case side1 => repeat (first | (with_reducible first | exact HI0.out | apply IsS67.alloc | apply IsS67.drewN | apply IsS67.drew | apply IsS67.set_1 | apply IsS67.set_2) | exact HI0.out)); (case side2 => repeat (first | (with_reducible first | exact HB.out | apply jW | apply jS | apply jQ | refine ja ?_ (IsS67.ge HI0.out)) | exact HB.out)); rintro e w26 ⟨rfl, hi, hb, hk⟩; refine ⟨_, rfl, ?_⟩; have n0_ := jA (Kd.R_mono (Kd.R_keep (IsS67.apart (show IsS67 w0 _ g s0_0 x1001_1 x1002_1 from by repeat (first | (with_reducible first | exact HI0.out | apply IsS67.alloc | apply IsS67.drewN | apply IsS67.drew | apply IsS67.set_1 | apply IsS67.set_2) | exact HI0.out)) (zo HO_3) (by decide)) hk (fun _ h => h.2)) (fun _ h => h.1)); have n1_ := jA (KeepBut.trans (zh0 HK) hk (.inl rfl)); have n2_ := jA (hb); have n3_ := jA (hi); clear HO_3; clear HK; clear HB; clear HI0; have HO_3 := n0_; have HK := n1_; have HB := n2_; have HI0 := n3_; clear n0_ n1_ n2_ n3_; (try clear hb); (try clear hb2); (try clear hk); (try clear hi)) | ((with_reducible refine gate_builtin (b := .append) (xs := #[.tmp 31, .tmp 40]) rfl ?_); at_builtin; refine Kd.R_append k36 w.heap.size rfl (.tmp 31) (.tmp 40) 25 36 (.agg #[(.int .i64 0), (.int .i64 0), (.bool false)]) 24 rfl Try.underlying25 info36 rfl (by decide) (by omega) (.slice Ao25 x3_1.length co25) x3_1 (⟨wrap64 (4 + (Int.tmod x4_1 16)), wrap64 (2000 + (wrap64 (50 * (wrap64 (Int.tdiv x4_1 16))))), false⟩ : S36) [.int .i64 (wrap64 (4 + (Int.tmod x4_1 16))), .int .i64 (wrap64 (2000 + (wrap64 (50 * (wrap64 (Int.tdiv x4_1 16)))))), .bool false] (fun _ => True) (fun _ => False) rfl rfl ?aP (fun _ hk => hk.elim) ?aF ?aO (Below.refl _ _) ?aS ?aL ?_; (case aP => exact k36_mkM _ _ _ (⟨wrap64 (4 + (Int.tmod x4_1 16)), wrap64 (2000 + (wrap64 (50 * (wrap64 (Int.tdiv x4_1 16))))), false⟩ : S36)); (case aF => exact (fun _ _ => trivial)); (case aO => exact (zo HO_3)); (case aS => exact (keep_size (w := w) (g := g) (row := none) (zh0 HK))); (case aL => have := LMc24.out; omega); intro v327 w27 ho hb hg hat; rw [← Ny326.out] at ho; have n0_ := jA (IsS67.grown (by repeat (first | (with_reducible first | exact HI0.out | apply IsS67.alloc | apply IsS67.drewN | apply IsS67.drew | apply IsS67.set_1 | apply IsS67.set_2) | exact HI0.out)) hg (IsS67.own_ne HI0.out HO_3.out (by decide))); have n1_ := jA (below_weaken (by repeat (first | (with_reducible first | exact HB.out | apply jW | apply jS | apply jQ | refine ja ?_ (IsS67.ge HI0.out)) | exact HB.out)) HL.out hb); have n2_ := jA (KeepBut.trans (zh0 HK) (KeepBut.of_grown hg g) (Kd.R_base2 HO_3.out)); have n3_ := jA (ho); clear HI0; clear HB; clear HK; clear HO_3; have HI0 := n0_; have HB := n1_; have HK := n2_; have HO328 := n3_; clear n0_ n1_ n2_ n3_; clear ho hb hg hat))
       go_roundg k1
       case measure => have := HK1.out; omega
       case rel => exact ⟨(y326), (wrap64 (x4_1 + 1)), (t324), (t325), zz, H', ⟨by have := HK1.out; omega⟩, ⟨by (with_reducible repeat (first | apply jG | apply jF | apply jK)); exact HO328.out⟩, ⟨by repeat (first | (with_reducible first | exact HI0.out | apply IsS67.alloc | apply IsS67.drewN | apply IsS67.drew | apply IsS67.set_1 | apply IsS67.set_2) | exact HI0.out)⟩, ⟨zh0 HK⟩, ⟨by repeat (first | (with_reducible first | exact HB.out | apply jW | apply jS | apply jQ | refine ja ?_ (IsS67.ge HI0.out)) | exact HB.out)⟩⟩
      ·rw [if_neg c24] at H
       exact absurd H (by simp)
     ·rw [if_neg c23] at H
      have c23b0 : decide ((x3_1.length : Int) < (wrap64 (40 + t323))) = false := jd c23
      clear c23
      simp only [jY, jc] at H
      obtain ⟨rfl, rfl, rfl⟩ := H
      obtain ⟨Ao28, co28, eo28⟩ := Kd.R_slice HO_3.out
      subst eo28
      go_wp2_with (first | ((with_reducible refine jL (f := 62) rfl ?_); refine goesL_ (some 26) rfl rfl Try.func62 zr rfl #[.pointer (some ⟨g, 0, none⟩), .int .i64 2] rfl zm ?_; (with_reducible refine (spec_l01Next.calls g s0_0 x1001_1 x1002_1 2 t323 t324 t325 w0 _ ?side1 ?side2 A22.out).mono ?_); (case side1 => repeat (first | (with_reducible first | exact HI0.out | apply IsS67.alloc | apply IsS67.drewN | apply IsS67.drew | apply IsS67.set_1 | apply IsS67.set_2) | exact HI0.out)); (case side2 => repeat (first | (with_reducible first | exact HB.out | apply jW | apply jS | apply jQ | refine ja ?_ (IsS67.ge HI0.out)) | exact HB.out)); rintro e w29 ⟨rfl, hi, hb, hk⟩; refine ⟨_, rfl, ?_⟩; have n0_ := jA (Kd.R_mono (Kd.R_keep (IsS67.apart (show IsS67 w0 _ g s0_0 x1001_1 x1002_1 from by repeat (first | (with_reducible first | exact HI0.out | apply IsS67.alloc | apply IsS67.drewN | apply IsS67.drew | apply IsS67.set_1 | apply IsS67.set_2) | exact HI0.out)) (zo HO_3) (by decide)) hk (fun _ h => h.2)) (fun _ h => h.1)); have n1_ := jA (KeepBut.trans (zh0 HK) hk (.inl rfl)); have n2_ := jA (hb); have n3_ := jA (hi); clear HO_3; clear HK; clear HB; clear HI0; have HO_3 := n0_; have HK := n1_; have HB := n2_; have HI0 := n3_; clear n0_ n1_ n2_ n3_; (try clear hb); (try clear hb2); (try clear hk); (try clear hi)))
      go_ret
      exact ⟨_, by first | rfl | (simp [errW_none, errW_some] <;> rfl) | (simp [*, errW_none, errW_some] <;> rfl), by (with_reducible repeat (first | apply jG | apply jF | apply jK)); exact HO_3.out, by repeat (first | (with_reducible first | exact HI0.out | apply IsS67.alloc | apply IsS67.drewN | apply IsS67.drew | apply IsS67.set_1 | apply IsS67.set_2) | exact HI0.out), by repeat (first | (with_reducible first | exact HB.out | apply jW | apply jS | apply jQ | refine ja ?_ (IsS67.ge HI0.out)) | exact HB.out), zh0 HK⟩
  ·rw [if_neg c19] at H
   have c19b0 : (t305 == 1) = false := beq_eq_false_iff_ne.mpr c19
   have c19b1 : (t305 != 1) = true := bne_iff_ne.mpr c19
   simp only [jY, jc] at H
   obtain ⟨rfl, rfl, rfl⟩ := H
   go_enter Try.func63, Try.ntmps63
   go_wp2_with (first | ((with_reducible refine jL (f := 65) rfl ?_); refine goesL_ (some 6) rfl rfl Try.func65 zr rfl #[.pointer (some ⟨g, 0, none⟩)] rfl zm ?_; (with_reducible refine (spec_l24Good.calls k g s0_0 s0_1 s0_2 t300 t303 t304 w0 _ ?side1 ?side2 A2.out).mono ?_); (case side1 => repeat (first | (with_reducible first | exact HI0.out | apply IsS67.alloc | apply IsS67.drewN | apply IsS67.drew | apply IsS67.set_1 | apply IsS67.set_2) | exact HI0.out)); (case side2 => repeat (first | (with_reducible first | exact HB.out | apply jW | apply jS | apply jQ | refine ja ?_ (IsS67.ge HI0.out)) | exact HB.out)); rintro e w30 ⟨v301, rfl, ho0, hi, hb, hk⟩; refine ⟨_, rfl, ?_⟩; have n0_ := jA (jZ ho0 (keep_size (w := w) (g := g) (row := none) (zh0 HK))); have n1_ := jA (KeepBut.trans (zh0 HK) hk (.inl rfl)); have n2_ := jA (hb); have n3_ := jA (hi); clear HK; clear HB; clear HI0; have HO302 := n0_; have HK := n1_; have HB := n2_; have HI0 := n3_; clear n0_ n1_ n2_ n3_; (try clear hb); (try clear hb2); (try clear hk); (try clear hi); (try clear ho0)) | ((with_reducible refine jL (f := 62) rfl ?_); refine goesL_ (some 8) rfl rfl Try.func62 zr rfl #[.pointer (some ⟨g, 0, none⟩), .int .i64 30] rfl zm ?_; (with_reducible refine (spec_l01Next.calls g s0_0 t303 t304 30 t305 t306 t307 w0 _ ?side1 ?side2 A3.out).mono ?_); (case side1 => repeat (first | (with_reducible first | exact HI0.out | apply IsS67.alloc | apply IsS67.drewN | apply IsS67.drew | apply IsS67.set_1 | apply IsS67.set_2) | exact HI0.out)); (case side2 => repeat (first | (with_reducible first | exact HB.out | apply jW | apply jS | apply jQ | refine ja ?_ (IsS67.ge HI0.out)) | exact HB.out)); rintro e w31 ⟨rfl, hi, hb, hk⟩; refine ⟨_, rfl, ?_⟩; have n0_ := jA (Kd.R_mono (Kd.R_keep (IsS67.apart (show IsS67 w0 _ g s0_0 t303 t304 from by repeat (first | (with_reducible first | exact HI0.out | apply IsS67.alloc | apply IsS67.drewN | apply IsS67.drew | apply IsS67.set_1 | apply IsS67.set_2) | exact HI0.out)) (zo HO302) (by decide)) hk (fun _ h => h.2)) (fun _ h => h.1)); have n1_ := jA (KeepBut.trans (zh0 HK) hk (.inl rfl)); have n2_ := jA (hb); have n3_ := jA (hi); clear HO302; clear HK; clear HB; clear HI0; have HO302 := n0_; have HK := n1_; have HB := n2_; have HI0 := n3_; clear n0_ n1_ n2_ n3_; (try clear hb); (try clear hb2); (try clear hk); (try clear hi)))
   go_ret
   exact ⟨_, by first | rfl | (simp [errW_none, errW_some] <;> rfl) | (simp [*, errW_none, errW_some] <;> rfl), by (with_reducible repeat (first | apply jG | apply jF | apply jK)); exact HO302.out, by repeat (first | (with_reducible first | exact HI0.out | apply IsS67.alloc | apply IsS67.drewN | apply IsS67.drew | apply IsS67.set_1 | apply IsS67.set_2) | exact HI0.out), by repeat (first | (with_reducible first | exact HB.out | apply jW | apply jS | apply jQ | refine ja ?_ (IsS67.ge HI0.out)) | exact HB.out), zh0 HK⟩

/-! ### spec_DrawCuesIn: function 44 -/
def spec_DrawCuesIn.f (k : Nat) (l0 : List Int) : Option ((List (S36)) × Int) := (spec_l01From.f k l0).bind fun bt329 => ((spec_l24Draw.f k bt329.1 bt329.2.1 bt329.2.2).bind fun bt333 => ((spec_l01Next.f bt329.1 bt333.2.1 bt333.2.2 6).bind fun bt338 => (some (bt333.1, wrap64 (bt338.1 - 1)))))
theorem spec_DrawCuesIn.mono : ∀ a0 k, LeO (spec_DrawCuesIn.f k a0) (spec_DrawCuesIn.f (k + 1) a0) := by
 intro a0 k
 unfold spec_DrawCuesIn.f
 repeat' first
   | (with_reducible exact spec_l01From.mono _ _)
   | (with_reducible exact spec_l24Draw.mono _ _ _ _)
   | (with_reducible exact LeO.refl _)
   | (with_reducible exact LeO.none _)
   | (with_reducible refine LeO.ite ?_ ?_)
   | (with_reducible refine LeO.bind ?_ (fun _ => ?_))
   | exact spec_l01From.mono _ _
   | exact spec_l24Draw.mono _ _ _ _
   | exact LeO.none _
   | refine LeO.ite ?_ ?_
   | refine LeO.bind ?_ (fun _ => ?_)
set_option maxHeartbeats 8000000 in
set_option maxRecDepth 100000 in
theorem spec_DrawCuesIn.calls (k : Nat) (A0 : Option Addr) (c0 : Nat) (l0 : List Int) (r1 : List (S36)) (r2 : Int) (w : World) (hr0 : Kd.C (Kd.int .u8) w A0 l0.length l0) (hc0 : l0.length ≤ c0) (h : spec_DrawCuesIn.f k l0 = some (r1, r2)) :
  Calls Try.prog 44 #[.slice A0 l0.length c0] w fun e w' => ∃ v0_ : Value, e = .returned (.tuple #[v0_, .int .i64 r2]) ∧ Kd.R k36 36 w' w.heap.size (fun _ => True) v0_ r1 ∧ Below w.heap.size w w' := by
 have HR0 := jA hr0
 have HC0 := jA hc0
 clear hr0 hc0
 have HB := jA (Below.refl w.heap.size w)
 have H : ((spec_l01From.f k l0).bind fun bt329 => ((spec_l24Draw.f k bt329.1 bt329.2.1 bt329.2.2).bind fun bt333 => ((spec_l01Next.f bt329.1 bt333.2.1 bt333.2.2 6).bind fun bt338 => (some (bt333.1, wrap64 (bt338.1 - 1)))))) = some (r1, r2) := h
 clear h
 replace H := jD.mp H
 obtain ⟨⟨t329, t330, t331⟩, A20, H⟩ := H
 replace H : ((spec_l24Draw.f k t329 t330 t331).bind fun bt333 => ((spec_l01Next.f t329 bt333.2.1 bt333.2.2 6).bind fun bt338 => (some (bt333.1, wrap64 (bt338.1 - 1))))) = some (r1, r2) := H
 have A2 := jA A20
 clear A20
 replace H := jD.mp H
 obtain ⟨⟨t333, t336, t337⟩, A30, H⟩ := H
 replace H : ((spec_l01Next.f t329 t336 t337 6).bind fun bt338 => (some (t333, wrap64 (bt338.1 - 1)))) = some (r1, r2) := H
 have A3 := jA A30
 clear A30
 replace H := jD.mp H
 obtain ⟨⟨t338, t339, t340⟩, A40, H⟩ := H
 replace H : (some (t333, wrap64 (t338 - 1))) = some (r1, r2) := H
 have A4 := jA A40
 clear A40
 simp only [jY, jc] at H
 obtain ⟨rfl, rfl⟩ := H
 go_enter Try.func44, Try.ntmps44
 go_wp2_with (first | ((with_reducible refine jL (f := 61) rfl ?_); refine goesL_ (some 7) rfl rfl Try.func61 zr rfl #[.slice A0 l0.length c0] rfl zm ?_; (with_reducible refine (spec_l01From.calls k _ _ l0 t329 t330 t331 w _ ?side1 ?side2 ?side3 A2.out).mono ?_); (case side1 => repeat (first | (with_reducible first | exact HB.out | apply jW | apply jS | apply jQ) | exact HB.out)); (case side2 => exact HR0.out); (case side3 => exact HC0.out); rintro e w5 ⟨g332, rfl, hi, hb, hb2⟩; refine ⟨_, rfl, ?_⟩; have n0_ := jA (hb); have n1_ := jA (hi); clear HB; have HB := n0_; have HI332 := n1_; clear n0_ n1_; (try clear hb); (try clear hb2); (try clear hk); (try clear hi)) | ((with_reducible refine jL (f := 63) rfl ?_); refine goesL_ (some 9) rfl rfl Try.func63 zr rfl #[.pointer (some ⟨g332, 0, none⟩)] rfl zm ?_; (with_reducible refine (spec_l24Draw.calls k g332 t329 t330 t331 t333 t336 t337 w _ ?side1 ?side2 A3.out).mono ?_); (case side1 => repeat (first | (with_reducible first | exact HI332.out | apply IsS67.alloc | apply IsS67.drewN | apply IsS67.drew | apply IsS67.set_1 | apply IsS67.set_2) | exact HI332.out)); (case side2 => repeat (first | (with_reducible first | exact HB.out | apply jW | apply jS | apply jQ | refine ja ?_ (IsS67.ge HI332.out)) | exact HB.out)); rintro e w6 ⟨v334, rfl, ho0, hi, hb, hk⟩; refine ⟨_, rfl, ?_⟩; have n0_ := jA (jZ ho0 (jT (by repeat (first | (with_reducible first | exact HB.out | apply jW | apply jS | apply jQ | refine ja ?_ (IsS67.ge HI332.out)) | exact HB.out)))); have n1_ := jA (hb); have n2_ := jA (hi); clear HB; clear HI332; have HO335 := n0_; have HB := n1_; have HI332 := n2_; clear n0_ n1_ n2_; (try clear hb); (try clear hb2); (try clear hk); (try clear hi); (try clear ho0)) | ((with_reducible refine jL (f := 62) rfl ?_); refine goesL_ (some 12) rfl rfl Try.func62 zr rfl #[.pointer (some ⟨g332, 0, none⟩), .int .i64 6] rfl zm ?_; (with_reducible refine (spec_l01Next.calls g332 t329 t336 t337 6 t338 t339 t340 w _ ?side1 ?side2 A4.out).mono ?_); (case side1 => repeat (first | (with_reducible first | exact HI332.out | apply IsS67.alloc | apply IsS67.drewN | apply IsS67.drew | apply IsS67.set_1 | apply IsS67.set_2) | exact HI332.out)); (case side2 => repeat (first | (with_reducible first | exact HB.out | apply jW | apply jS | apply jQ | refine ja ?_ (IsS67.ge HI332.out)) | exact HB.out)); rintro e w7 ⟨rfl, hi, hb, hk⟩; refine ⟨_, rfl, ?_⟩; have n0_ := jA (Kd.R_mono (Kd.R_keep (IsS67.apart (show IsS67 w _ g332 t329 t336 t337 from by repeat (first | (with_reducible first | exact HI332.out | apply IsS67.alloc | apply IsS67.drewN | apply IsS67.drew | apply IsS67.set_1 | apply IsS67.set_2) | exact HI332.out)) (zo HO335) (by decide)) hk (fun _ h => h.2)) (fun _ h => h.1)); have n1_ := jA (hb); have n2_ := jA (hi); clear HO335; clear HB; clear HI332; have HO335 := n0_; have HB := n1_; have HI332 := n2_; clear n0_ n1_ n2_; (try clear hb); (try clear hb2); (try clear hk); (try clear hi)))
 go_ret2
 exact ⟨_, by first | rfl | (simp [errW_none, errW_some] <;> rfl) | (simp [*, errW_none, errW_some] <;> rfl), by (with_reducible repeat (first | apply jG | apply jF | apply jK)); exact HO335.out, by repeat (first | (with_reducible first | exact HB.out | apply jW | apply jS | apply jQ | refine ja ?_ (IsS67.ge HI332.out)) | exact HB.out)⟩

/-! ### spec_DrawCueState: function 45 -/
def spec_DrawCueState.f (k : Nat) (l0 : List Int) : Option ((List (S36)) × Int) := (spec_l01From.f k l0).bind fun bt341 => ((spec_l24Draw.f k bt341.1 bt341.2.1 bt341.2.2).bind fun bt345 => ((spec_l01Next.f bt341.1 bt345.2.1 bt345.2.2 5).bind fun bt350 => ((spec_l01Next.f bt341.1 bt350.2.1 bt350.2.2 5).bind fun bt353 => ((spec_l01Next.f bt341.1 bt353.2.1 bt353.2.2 4).bind fun bt356 => ((spec_l01Pick.f bt341.1 bt356.2.1 bt356.2.2 (([bt350.1, bt353.1, 19, 20, (-1), bt356.1] : List Int))).bind fun bt362 => (some (bt345.1, bt362.1)))))))
theorem spec_DrawCueState.mono : ∀ a0 k, LeO (spec_DrawCueState.f k a0) (spec_DrawCueState.f (k + 1) a0) := by
 intro a0 k
 unfold spec_DrawCueState.f
 repeat' first
   | (with_reducible exact spec_l01From.mono _ _)
   | (with_reducible exact spec_l24Draw.mono _ _ _ _)
   | (with_reducible exact LeO.refl _)
   | (with_reducible exact LeO.none _)
   | (with_reducible refine LeO.ite ?_ ?_)
   | (with_reducible refine LeO.bind ?_ (fun _ => ?_))
   | exact spec_l01From.mono _ _
   | exact spec_l24Draw.mono _ _ _ _
   | exact LeO.none _
   | refine LeO.ite ?_ ?_
   | refine LeO.bind ?_ (fun _ => ?_)
set_option maxHeartbeats 8000000 in
set_option maxRecDepth 100000 in
theorem spec_DrawCueState.calls (k : Nat) (A0 : Option Addr) (c0 : Nat) (l0 : List Int) (r1 : List (S36)) (r2 : Int) (w : World) (hr0 : Kd.C (Kd.int .u8) w A0 l0.length l0) (hc0 : l0.length ≤ c0) (h : spec_DrawCueState.f k l0 = some (r1, r2)) :
  Calls Try.prog 45 #[.slice A0 l0.length c0] w fun e w' => ∃ v0_ : Value, e = .returned (.tuple #[v0_, .int .i64 r2]) ∧ Kd.R k36 36 w' w.heap.size (fun _ => True) v0_ r1 ∧ Below w.heap.size w w' := by
 have HR0 := jA hr0
 have HC0 := jA hc0
 clear hr0 hc0
 have HB := jA (Below.refl w.heap.size w)
 have H : ((spec_l01From.f k l0).bind fun bt341 => ((spec_l24Draw.f k bt341.1 bt341.2.1 bt341.2.2).bind fun bt345 => ((spec_l01Next.f bt341.1 bt345.2.1 bt345.2.2 5).bind fun bt350 => ((spec_l01Next.f bt341.1 bt350.2.1 bt350.2.2 5).bind fun bt353 => ((spec_l01Next.f bt341.1 bt353.2.1 bt353.2.2 4).bind fun bt356 => ((spec_l01Pick.f bt341.1 bt356.2.1 bt356.2.2 (([bt350.1, bt353.1, 19, 20, (-1), bt356.1] : List Int))).bind fun bt362 => (some (bt345.1, bt362.1)))))))) = some (r1, r2) := h
 clear h
 replace H := jD.mp H
 obtain ⟨⟨t341, t342, t343⟩, A20, H⟩ := H
 replace H : ((spec_l24Draw.f k t341 t342 t343).bind fun bt345 => ((spec_l01Next.f t341 bt345.2.1 bt345.2.2 5).bind fun bt350 => ((spec_l01Next.f t341 bt350.2.1 bt350.2.2 5).bind fun bt353 => ((spec_l01Next.f t341 bt353.2.1 bt353.2.2 4).bind fun bt356 => ((spec_l01Pick.f t341 bt356.2.1 bt356.2.2 (([bt350.1, bt353.1, 19, 20, (-1), bt356.1] : List Int))).bind fun bt362 => (some (bt345.1, bt362.1))))))) = some (r1, r2) := H
 have A2 := jA A20
 clear A20
 replace H := jD.mp H
 obtain ⟨⟨t345, t348, t349⟩, A30, H⟩ := H
 replace H : ((spec_l01Next.f t341 t348 t349 5).bind fun bt350 => ((spec_l01Next.f t341 bt350.2.1 bt350.2.2 5).bind fun bt353 => ((spec_l01Next.f t341 bt353.2.1 bt353.2.2 4).bind fun bt356 => ((spec_l01Pick.f t341 bt356.2.1 bt356.2.2 (([bt350.1, bt353.1, 19, 20, (-1), bt356.1] : List Int))).bind fun bt362 => (some (t345, bt362.1)))))) = some (r1, r2) := H
 have A3 := jA A30
 clear A30
 replace H := jD.mp H
 obtain ⟨⟨t350, t351, t352⟩, A40, H⟩ := H
 replace H : ((spec_l01Next.f t341 t351 t352 5).bind fun bt353 => ((spec_l01Next.f t341 bt353.2.1 bt353.2.2 4).bind fun bt356 => ((spec_l01Pick.f t341 bt356.2.1 bt356.2.2 (([t350, bt353.1, 19, 20, (-1), bt356.1] : List Int))).bind fun bt362 => (some (t345, bt362.1))))) = some (r1, r2) := H
 have A4 := jA A40
 clear A40
 replace H := jD.mp H
 obtain ⟨⟨t353, t354, t355⟩, A50, H⟩ := H
 replace H : ((spec_l01Next.f t341 t354 t355 4).bind fun bt356 => ((spec_l01Pick.f t341 bt356.2.1 bt356.2.2 (([t350, t353, 19, 20, (-1), bt356.1] : List Int))).bind fun bt362 => (some (t345, bt362.1)))) = some (r1, r2) := H
 have A5 := jA A50
 clear A50
 replace H := jD.mp H
 obtain ⟨⟨t356, t357, t358⟩, A60, H⟩ := H
 replace H : ((spec_l01Pick.f t341 t357 t358 (([t350, t353, 19, 20, (-1), t356] : List Int))).bind fun bt362 => (some (t345, bt362.1))) = some (r1, r2) := H
 have A6 := jA A60
 clear A60
 obtain ⟨y359, hy359⟩ : ∃ y_ : List Int, y_ = (([t350, t353, 19, 20, (-1), t356] : List Int)) := ⟨_, rfl⟩
 replace H : ((spec_l01Pick.f t341 t357 t358 y359).bind fun bt362 => (some (t345, bt362.1))) = some (r1, r2) := by first | (rw [hy359]; with_reducible exact H) | (have H2_ := (Option.bind_some _ _).symm.trans H; rw [hy359]; with_reducible exact H2_) | (have H2_ := (Option.bind_some _ _).symm.trans H; with_reducible exact H2_) | with_reducible exact H | (rw [hy359]; exact H) | exact H
 have Ny359 := jA hy359
 clear hy359
 replace H := jD.mp H
 obtain ⟨⟨t362, t363, t364⟩, A70, H⟩ := H
 replace H : (some (t345, t362)) = some (r1, r2) := H
 have A7 := jA A70
 clear A70
 simp only [jY, jc] at H
 obtain ⟨rfl, rfl⟩ := H
 go_enter Try.func45, Try.ntmps45
 go_wp2_with (first | ((with_reducible refine jL (f := 61) rfl ?_); refine goesL_ (some 7) rfl rfl Try.func61 zr rfl #[.slice A0 l0.length c0] rfl zm ?_; (with_reducible refine (spec_l01From.calls k _ _ l0 t341 t342 t343 w _ ?side1 ?side2 ?side3 A2.out).mono ?_); (case side1 => repeat (first | (with_reducible first | exact HB.out | apply jW | apply jS | apply jQ) | exact HB.out)); (case side2 => exact HR0.out); (case side3 => exact HC0.out); rintro e w8 ⟨g344, rfl, hi, hb, hb2⟩; refine ⟨_, rfl, ?_⟩; have n0_ := jA (hb); have n1_ := jA (hi); clear HB; have HB := n0_; have HI344 := n1_; clear n0_ n1_; (try clear hb); (try clear hb2); (try clear hk); (try clear hi)) | ((with_reducible refine jL (f := 63) rfl ?_); refine goesL_ (some 9) rfl rfl Try.func63 zr rfl #[.pointer (some ⟨g344, 0, none⟩)] rfl zm ?_; (with_reducible refine (spec_l24Draw.calls k g344 t341 t342 t343 t345 t348 t349 w _ ?side1 ?side2 A3.out).mono ?_); (case side1 => repeat (first | (with_reducible first | exact HI344.out | apply IsS67.alloc | apply IsS67.drewN | apply IsS67.drew | apply IsS67.set_1 | apply IsS67.set_2) | exact HI344.out)); (case side2 => repeat (first | (with_reducible first | exact HB.out | apply jW | apply jS | apply jQ | refine ja ?_ (IsS67.ge HI344.out)) | exact HB.out)); rintro e w9 ⟨v346, rfl, ho0, hi, hb, hk⟩; refine ⟨_, rfl, ?_⟩; have n0_ := jA (jZ ho0 (jT (by repeat (first | (with_reducible first | exact HB.out | apply jW | apply jS | apply jQ | refine ja ?_ (IsS67.ge HI344.out)) | exact HB.out)))); have n1_ := jA (hb); have n2_ := jA (hi); clear HB; clear HI344; have HO347 := n0_; have HB := n1_; have HI344 := n2_; clear n0_ n1_ n2_; (try clear hb); (try clear hb2); (try clear hk); (try clear hi); (try clear ho0)) | ((with_reducible refine jL (f := 62) rfl ?_); refine goesL_ (some 13) rfl rfl Try.func62 zr rfl #[.pointer (some ⟨g344, 0, none⟩), .int .i64 5] rfl zm ?_; (with_reducible refine (spec_l01Next.calls g344 t341 t348 t349 5 t350 t351 t352 w _ ?side1 ?side2 A4.out).mono ?_); (case side1 => repeat (first | (with_reducible first | exact HI344.out | apply IsS67.alloc | apply IsS67.drewN | apply IsS67.drew | apply IsS67.set_1 | apply IsS67.set_2) | exact HI344.out)); (case side2 => repeat (first | (with_reducible first | exact HB.out | apply jW | apply jS | apply jQ | refine ja ?_ (IsS67.ge HI344.out)) | exact HB.out)); rintro e w10 ⟨rfl, hi, hb, hk⟩; refine ⟨_, rfl, ?_⟩; have n0_ := jA (Kd.R_mono (Kd.R_keep (IsS67.apart (show IsS67 w _ g344 t341 t348 t349 from by repeat (first | (with_reducible first | exact HI344.out | apply IsS67.alloc | apply IsS67.drewN | apply IsS67.drew | apply IsS67.set_1 | apply IsS67.set_2) | exact HI344.out)) (zo HO347) (by decide)) hk (fun _ h => h.2)) (fun _ h => h.1)); have n1_ := jA (hb); have n2_ := jA (hi); clear HO347; clear HB; clear HI344; have HO347 := n0_; have HB := n1_; have HI344 := n2_; clear n0_ n1_ n2_; (try clear hb); (try clear hb2); (try clear hk); (try clear hi)) | ((with_reducible refine jL (f := 62) rfl ?_); refine goesL_ (some 15) rfl rfl Try.func62 zr rfl #[.pointer (some ⟨g344, 0, none⟩), .int .i64 5] rfl zm ?_; (with_reducible refine (spec_l01Next.calls g344 t341 t351 t352 5 t353 t354 t355 w _ ?side1 ?side2 A5.out).mono ?_); (case side1 => repeat (first | (with_reducible first | exact HI344.out | apply IsS67.alloc | apply IsS67.drewN | apply IsS67.drew | apply IsS67.set_1 | apply IsS67.set_2) | exact HI344.out)); (case side2 => repeat (first | (with_reducible first | exact HB.out | apply jW | apply jS | apply jQ | refine ja ?_ (IsS67.ge HI344.out)) | exact HB.out)); rintro e w11 ⟨rfl, hi, hb, hk⟩; refine ⟨_, rfl, ?_⟩; have n0_ := jA (Kd.R_mono (Kd.R_keep (IsS67.apart (show IsS67 w _ g344 t341 t351 t352 from by repeat (first | (with_reducible first | exact HI344.out | apply IsS67.alloc | apply IsS67.drewN | apply IsS67.drew | apply IsS67.set_1 | apply IsS67.set_2) | exact HI344.out)) (zo HO347) (by decide)) hk (fun _ h => h.2)) (fun _ h => h.1)); have n1_ := jA (hb); have n2_ := jA (hi); clear HO347; clear HB; clear HI344; have HO347 := n0_; have HB := n1_; have HI344 := n2_; clear n0_ n1_ n2_; (try clear hb); (try clear hb2); (try clear hk); (try clear hi)) | ((with_reducible refine jL (f := 62) rfl ?_); refine goesL_ (some 17) rfl rfl Try.func62 zr rfl #[.pointer (some ⟨g344, 0, none⟩), .int .i64 4] rfl zm ?_; (with_reducible refine (spec_l01Next.calls g344 t341 t354 t355 4 t356 t357 t358 w _ ?side1 ?side2 A6.out).mono ?_); (case side1 => repeat (first | (with_reducible first | exact HI344.out | apply IsS67.alloc | apply IsS67.drewN | apply IsS67.drew | apply IsS67.set_1 | apply IsS67.set_2) | exact HI344.out)); (case side2 => repeat (first | (with_reducible first | exact HB.out | apply jW | apply jS | apply jQ | refine ja ?_ (IsS67.ge HI344.out)) | exact HB.out)); rintro e w12 ⟨rfl, hi, hb, hk⟩; refine ⟨_, rfl, ?_⟩; have n0_ := jA (Kd.R_mono (Kd.R_keep (IsS67.apart (show IsS67 w _ g344 t341 t354 t355 from by repeat (first | (with_reducible first | exact HI344.out | apply IsS67.alloc | apply IsS67.drewN | apply IsS67.drew | apply IsS67.set_1 | apply IsS67.set_2) | exact HI344.out)) (zo HO347) (by decide)) hk (fun _ h => h.2)) (fun _ h => h.1)); have n1_ := jA (hb); have n2_ := jA (hi); clear HO347; clear HB; clear HI344; have HO347 := n0_; have HB := n1_; have HI344 := n2_; clear n0_ n1_ n2_; (try clear hb); (try clear hb2); (try clear hk); (try clear hi)) | ((with_reducible refine gate_dst (N := 18) rfl ?_); refine Kd.R_lit (Kd.int .i64) _ 2 ?hg (N := 18) ?hd (xs := ([t350, t353, 19, 20, (-1), t356] : List Int)) (inner := [.int .i64 t350, .int .i64 t353, .int .i64 19, .int .i64 20, .int .i64 (-1), .int .i64 t356]) (ok := fun _ => True) (okp := fun _ => True) ?hr ?hp (fun _ hk => hk) trivial (Below.refl _ _) (Nat.le_refl _) (by simp) ?_; (case hd => rfl); (case hg => rfl); (case hr => first | (go_simp; done) | (go_simp; rfl)); (case hp => exact (Reps.one (show Kd.M (Kd.int .i64) _ _ _ t350 [.int .i64 t350] from rfl) (Reps.one (show Kd.M (Kd.int .i64) _ _ _ t353 [.int .i64 t353] from rfl) (Reps.one (show Kd.M (Kd.int .i64) _ _ _ 19 [.int .i64 19] from rfl) (Reps.one (show Kd.M (Kd.int .i64) _ _ _ 20 [.int .i64 20] from rfl) (Reps.one (show Kd.M (Kd.int .i64) _ _ _ (-1) [.int .i64 (-1)] from rfl) (Reps.one (show Kd.M (Kd.int .i64) _ _ _ t356 [.int .i64 t356] from rfl) (Reps.none _ _)))))))); intro v360 w13 ho14 hb hg_ hnew_; clear hg_ hnew_; (first | rw [← Ny359.out] at ho14 | (simp only [Int.reduceToNat] at ho14; rw [← Ny359.out] at ho14)); have n0_ := jA (jX (zo HO347) hb); have n1_ := jA (jZ ho14 (jT (by repeat (first | (with_reducible first | exact HB.out | apply jW | apply jS | apply jQ | refine ja ?_ (IsS67.ge HI344.out)) | exact HB.out)))); have n2_ := jA (IsS67.below (by repeat (first | (with_reducible first | exact HI344.out | apply IsS67.alloc | apply IsS67.drewN | apply IsS67.drew | apply IsS67.set_1 | apply IsS67.set_2) | exact HI344.out)) hb); have n3_ := jA (jM (by repeat (first | (with_reducible first | exact HB.out | apply jW | apply jS | apply jQ | refine ja ?_ (IsS67.ge HI344.out)) | exact HB.out)) hb); clear HO347; clear HI344; clear HB; have HO347 := n0_; have HO361 := n1_; have HI344 := n2_; have HB := n3_; clear n0_ n1_ n2_ n3_; clear hb ho14; obtain ⟨Ao15, co15, eo15⟩ := Kd.R_slice HO361.out; subst eo15) | ((with_reducible refine jL (f := 64) rfl ?_); refine goesL_ (some 19) rfl rfl Try.func64 zr rfl #[.pointer (some ⟨g344, 0, none⟩), .slice Ao15 y359.length co15] rfl zm ?_; (with_reducible refine (spec_l01Pick.calls g344 t341 t357 t358 _ _ y359 t362 t363 t364 w _ ?side1 ?side2 ?side3 ?side4 ?side5 A7.out).mono ?_); (case side1 => repeat (first | (with_reducible first | exact HI344.out | apply IsS67.alloc | apply IsS67.drewN | apply IsS67.drew | apply IsS67.set_1 | apply IsS67.set_2) | exact HI344.out)); (case side2 => repeat (first | (with_reducible first | exact HB.out | apply jW | apply jS | apply jQ | refine ja ?_ (IsS67.ge HI344.out)) | exact HB.out)); (case side3 => repeat (first | exact (jH HO361.out).2.2 | (with_reducible refine jP ?_ _) | (with_reducible refine jO ?_ _) | (with_reducible refine jU ?_))); (case side4 => exact (jH HO361.out).2.1); (case side5 => exact far_slice (IsS67.own_ne HI344.out HO361.out (by decide))); rintro e w16 ⟨rfl, hi, hb, hk⟩; refine ⟨_, rfl, ?_⟩; have n0_ := jA (Kd.R_mono (Kd.R_keep (IsS67.apart (show IsS67 w _ g344 t341 t357 t358 from by repeat (first | (with_reducible first | exact HI344.out | apply IsS67.alloc | apply IsS67.drewN | apply IsS67.drew | apply IsS67.set_1 | apply IsS67.set_2) | exact HI344.out)) (zo HO347) (by decide)) hk (fun _ h => h.2)) (fun _ h => h.1)); have n1_ := jA (Kd.R_mono (Kd.R_keep (IsS67.apart (show IsS67 w _ g344 t341 t357 t358 from by repeat (first | (with_reducible first | exact HI344.out | apply IsS67.alloc | apply IsS67.drewN | apply IsS67.drew | apply IsS67.set_1 | apply IsS67.set_2) | exact HI344.out)) (zo HO361) (by decide)) hk (fun _ h => h.2)) (fun _ h => h.1)); have n2_ := jA (hb); have n3_ := jA (hi); clear HO347; clear HO361; clear HB; clear HI344; have HO347 := n0_; have HO361 := n1_; have HB := n2_; have HI344 := n3_; clear n0_ n1_ n2_ n3_; (try clear hb); (try clear hb2); (try clear hk); (try clear hi)))
 go_ret2
 exact ⟨_, by first | rfl | (simp [errW_none, errW_some] <;> rfl) | (simp [*, errW_none, errW_some] <;> rfl), by (with_reducible repeat (first | apply jG | apply jF | apply jK)); exact HO347.out, by repeat (first | (with_reducible first | exact HB.out | apply jW | apply jS | apply jQ | refine ja ?_ (IsS67.ge HI344.out)) | exact HB.out)⟩

/-! ### laws_sum: function 46 -/
def laws_sum.l0 : Nat → List Int → Int → Int → Option (Int)
 | 0, _, _, _ => none
 | k + 1, x0, x3, x4 => if x4 < (x0.length : Int) then (if 0 ≤ x4 then (laws_sum.l0 k x0 (wrap64 (x3 + (rd x0 x4))) (wrap64 (x4 + 1))) else (none)) else (some x3)
def laws_sum.f (k : Nat) (l0 : List Int) : Option (Int) := laws_sum.l0 k l0 0 0
theorem laws_sum.mono_l : ∀ k, (∀ y0 y1 y2, LeO (laws_sum.l0 k y0 y1 y2) (laws_sum.l0 (k + 1) y0 y1 y2))
 | 0 => fun _ _ _ r h => by simp [laws_sum.l0] at h
 | k + 1 => by
  have ih0 := laws_sum.mono_l k
  ·intro y0 y1 y2
   unfold laws_sum.l0
   repeat' first
   | (with_reducible exact ih0 _ _ _)
   | (with_reducible exact LeO.refl _)
   | (with_reducible exact LeO.none _)
   | (with_reducible refine LeO.ite ?_ ?_)
   | (with_reducible refine LeO.bind ?_ (fun _ => ?_))
   | exact ih0 _ _ _
   | exact LeO.none _
   | refine LeO.ite ?_ ?_
   | refine LeO.bind ?_ (fun _ => ?_)
theorem laws_sum.mono : ∀ a0 k, LeO (laws_sum.f k a0) (laws_sum.f (k + 1) a0) := by
 intro a0 k
 have ih0 := laws_sum.mono_l k
 unfold laws_sum.f
 repeat' first
   | (with_reducible exact ih0 _ _ _)
   | (with_reducible exact LeO.refl _)
   | (with_reducible exact LeO.none _)
   | (with_reducible refine LeO.ite ?_ ?_)
   | (with_reducible refine LeO.bind ?_ (fun _ => ?_))
   | exact ih0 _ _ _
   | exact LeO.none _
   | refine LeO.ite ?_ ?_
   | refine LeO.bind ?_ (fun _ => ?_)
set_option maxHeartbeats 8000000 in
set_option maxRecDepth 100000 in
theorem laws_sum.calls (k : Nat) (A0 : Option Addr) (c0 : Nat) (l0 : List Int) (r : Int) (w : World) (hr0 : Kd.C (Kd.int .i64) w A0 l0.length l0) (hc0 : l0.length ≤ c0) (h : laws_sum.f k l0 = some r) :
  Calls Try.prog 46 #[.slice A0 l0.length c0] w fun e w' => e = .returned (.int .i64 r) ∧ Drawn0 w w' := by
 have HR0 := jA hr0
 have HC0 := jA hc0
 clear hr0 hc0
 have H : (laws_sum.l0 k l0 0 0) = some r := h
 clear h
 have H' := jA H
 clear H
 go_enter Try.func46, Try.ntmps46
 go_wp2
 go_loopg [3, 4] k (fun kq v3 v4 w' => ∃ (x3_1 : Int) (x4_1 : Int), v3 = .int .i64 x3_1 ∧ v4 = .int .i64 x4_1 ∧ Aside0 (laws_sum.l0 kq l0 x3_1 x4_1 = some r) ∧ Aside0 (kq ≤ k) ∧ Drawn0 w w')
 case atStart => exact ⟨(0), (0), zz, zz, H', ⟨Nat.le_refl _⟩, by repeat (first | exact Drawn0.refl _ | apply Drawn0.step)⟩
 case round =>
  clear H'
  obtain ⟨x3_1, x4_1, rfl, rfl, HA, HK1, ⟨m1, rfl⟩⟩ := hrel
  cases gk with
  | zero => exact absurd HA.out (by simp [laws_sum.l0])
  | succ k1 =>
   have H := HA.out
   clear HA
   simp only [laws_sum.l0] at H
   by_cases c2 : x4_1 < (l0.length : Int)
   ·rw [if_pos c2] at H
    have c2b0 : decide (x4_1 < (l0.length : Int)) = true := jN c2
    clear c2
    by_cases c3 : 0 ≤ x4_1
    ·rw [if_pos c3] at H
     have c3b0 : decide (0 ≤ x4_1) = true := jN c3
     clear c3
     have H' := jA H
     clear H
     have p365 : 0 ≤ (x4_1 : Int) := jC za
     have q365 : x4_1 < (l0.length : Int) := jC za
     obtain ⟨ad365, e365, hx365_0⟩ := Kd.at_int HR0.out x4_1 p365 q365
     cases e365
     replace p365 := eq_true p365
     replace q365 := eq_true q365
     go_wp2
     go_roundg k1
     case measure => have := HK1.out; omega
     case rel => exact ⟨(wrap64 (x3_1 + (rd l0 x4_1))), (wrap64 (x4_1 + 1)), zz, zz, H', ⟨by have := HK1.out; omega⟩, by repeat (first | exact Drawn0.refl _ | apply Drawn0.step)⟩
    ·rw [if_neg c3] at H
     exact absurd H (by simp)
   ·rw [if_neg c2] at H
    have c2b0 : decide (x4_1 < (l0.length : Int)) = false := jd c2
    clear c2
    obtain rfl := jV H
    go_wp2
    go_ret
    exact ⟨by first | rfl | (simp; done) | (simp [*]; done), by repeat (first | exact Drawn0.refl _ | apply Drawn0.step)⟩

end Go.Proofs.Ythnpffomoaeeoaa.PFnCueStates
