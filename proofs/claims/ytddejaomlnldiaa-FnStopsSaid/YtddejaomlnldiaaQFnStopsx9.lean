/- Functions and contracts that FnStops reaches (10 of 14). -/
import Derived.Test.YtddejaomlnldiaaQFnStopsx8
namespace Go.Proofs.Ytddejaomlnldiaa.PFnStops
open Go.RowKit Go.Proofs.YtddejaomlnldiaaW.PrintWords Go.Proofs.YtddejaomlnldiaaW.PrintLast Go.Proofs.YtddejaomlnldiaaW.PrintMore
attribute [local go_sem] max2_int min2_int max_two min_two max_three min_three max_four min_four   -- for this text's walks alone
set_option linter.unusedVariables false
set_option linter.unusedSimpArgs false

/-! ### spec_l13Good: function 89 -/
def spec_l13Good.l0 : Nat → List (S63) → Int → List (S59) → Int → List Int → Int → Int → Option ((List (S63)) × Int × (List (S59)) × Int × Int)
 | 0, _, _, _, _, _, _, _ => none
 | k + 1, x5, x6, x7, x8, x1000, x1001, x1002 => if x8 < x6 then ((spec_l01Next.f x1000 x1001 x1002 (x5.length : Int)).bind fun bt302 => (if 0 ≤ bt302.1 then (if bt302.1 < (x5.length : Int) then ((spec_l01Next.f x1000 bt302.2.1 bt302.2.2 ((rd_T63 x5 bt302.1).f1)).bind fun bt306 => ((some (([] : List (S59)) : List (S59))).bind fun y310 => (if y310.length + x7.length < 5864062014805 then ((some (y310 ++ x7 : List (S59))).bind fun y313 => ((some (([(⟨x8, bt302.1, bt306.1⟩ : S59)] : List (S59)) : List (S59))).bind fun y316 => (if y313.length + y316.length < 5864062014805 then ((some (y313 ++ y316 : List (S59))).bind fun y319 => ((spec_l01Next.f x1000 bt306.2.1 bt306.2.2 3).bind fun bt322 => (if bt322.1 > 0 then ((spec_AreWires.f k x5 x6 y319).bind fun t325 => (if t325 = true then (spec_l13Good.l0 k x5 x6 y319 (wrap64 (x8 + 1)) x1000 bt322.2.1 bt322.2.2) else (spec_l13Good.l0 k x5 x6 x7 (wrap64 (x8 + 1)) x1000 bt322.2.1 bt322.2.2))) else (spec_l13Good.l0 k x5 x6 x7 (wrap64 (x8 + 1)) x1000 bt322.2.1 bt322.2.2)))) else (none)))) else (none)))) else (none)) else (none))) else (some (x5, x6, x7, x1001, x1002))
def spec_l13Good.f (k : Nat) (s0_0 : List Int) (s0_1 : Int) (s0_2 : Int) : Option ((List (S63)) × Int × (List (S59)) × Int × Int) := (spec_l12Good.f k s0_0 s0_1 s0_2).bind fun bt291 => ((spec_l01Next.f s0_0 bt291.2.1 bt291.2.2 9).bind fun bt296 => (spec_l13Good.l0 k bt291.1 bt296.1 (([] : List (S59))) 0 s0_0 bt296.2.1 bt296.2.2))
theorem spec_l13Good.mono_l : ∀ k, (∀ y0 y1 y2 y3 y4 y5 y6, LeO (spec_l13Good.l0 k y0 y1 y2 y3 y4 y5 y6) (spec_l13Good.l0 (k + 1) y0 y1 y2 y3 y4 y5 y6))
 | 0 => fun _ _ _ _ _ _ _ r h => by simp [spec_l13Good.l0] at h
 | k + 1 => by
  have ih0 := spec_l13Good.mono_l k
  ·intro y0 y1 y2 y3 y4 y5 y6
   unfold spec_l13Good.l0
   repeat' first
   | (with_reducible exact ih0 _ _ _ _ _ _ _)
   | (with_reducible exact spec_AreWires.mono _ _ _ _)
   | (with_reducible exact spec_l12Good.mono _ _ _ _)
   | (with_reducible exact LeO.refl _)
   | (with_reducible exact LeO.none _)
   | (with_reducible refine LeO.ite ?_ ?_)
   | (with_reducible refine LeO.bind ?_ (fun _ => ?_))
   | exact ih0 _ _ _ _ _ _ _
   | exact spec_AreWires.mono _ _ _ _
   | exact spec_l12Good.mono _ _ _ _
   | exact LeO.none _
   | refine LeO.ite ?_ ?_
   | refine LeO.bind ?_ (fun _ => ?_)
theorem spec_l13Good.mono : ∀ a0 a1 a2 k, LeO (spec_l13Good.f k a0 a1 a2) (spec_l13Good.f (k + 1) a0 a1 a2) := by
 intro a0 a1 a2 k
 have ih0 := spec_l13Good.mono_l k
 unfold spec_l13Good.f
 repeat' first
   | (with_reducible exact ih0 _ _ _ _ _ _ _)
   | (with_reducible exact spec_AreWires.mono _ _ _ _)
   | (with_reducible exact spec_l12Good.mono _ _ _ _)
   | (with_reducible exact LeO.refl _)
   | (with_reducible exact LeO.none _)
   | (with_reducible refine LeO.ite ?_ ?_)
   | (with_reducible refine LeO.bind ?_ (fun _ => ?_))
   | exact ih0 _ _ _ _ _ _ _
   | exact spec_AreWires.mono _ _ _ _
   | exact spec_l12Good.mono _ _ _ _
   | exact LeO.none _
   | refine LeO.ite ?_ ?_
   | refine LeO.bind ?_ (fun _ => ?_)
set_option maxHeartbeats 8000000 in
set_option maxRecDepth 100000 in
theorem spec_l13Good.calls (k : Nat) (g : Nat) (s0_0 : List Int) (s0_1 : Int) (s0_2 : Int) (r1 : List (S63)) (r2 : Int) (r3 : List (S59)) (r4 : Int) (r5 : Int) (w0 w : World) (hI : IsS91 w0 w g s0_0 s0_1 s0_2) (hB : Below w0.heap.size w0 w) (h : spec_l13Good.f k s0_0 s0_1 s0_2 = some (r1, r2, r3, r4, r5)) :
  Calls Try.prog 89 #[.pointer (some ⟨g, 0, none⟩)] w fun e w' => ∃ v0_ v2_ : Value, e = .returned (.tuple #[v0_, .int .i64 r2, v2_]) ∧ Kd.R k63 63 w' w.heap.size (fun _ => True) v0_ r1 ∧ Kd.R k59 59 w' w.heap.size (fun _ => True) v2_ r3 ∧ IsS91 w0 w' g s0_0 r4 r5 ∧ Below w0.heap.size w0 w' ∧ KeepBut w w' g none := by
 have hu59 := Try.underlying59
 have HI0 := jA hI
 have HK := jA (KeepBut.refl w g none)
 have HL := jA hB.size
 clear hI
 have HW0 := jA hB.size
 have HB := jA hB
 clear hB
 have H : ((spec_l12Good.f k s0_0 s0_1 s0_2).bind fun bt291 => ((spec_l01Next.f s0_0 bt291.2.1 bt291.2.2 9).bind fun bt296 => (spec_l13Good.l0 k bt291.1 bt296.1 (([] : List (S59))) 0 s0_0 bt296.2.1 bt296.2.2))) = some (r1, r2, r3, r4, r5) := h
 clear h
 replace H := jD.mp H
 obtain ⟨⟨t291, t294, t295⟩, A20, H⟩ := H
 replace H : ((spec_l01Next.f s0_0 t294 t295 9).bind fun bt296 => (spec_l13Good.l0 k t291 bt296.1 (([] : List (S59))) 0 s0_0 bt296.2.1 bt296.2.2)) = some (r1, r2, r3, r4, r5) := H
 have A2 := jA A20
 clear A20
 replace H := jD.mp H
 obtain ⟨⟨t296, t297, t298⟩, A30, H⟩ := H
 replace H : (spec_l13Good.l0 k t291 t296 (([] : List (S59))) 0 s0_0 t297 t298) = some (r1, r2, r3, r4, r5) := H
 have A3 := jA A30
 clear A30
 obtain ⟨y299, hy299⟩ : ∃ y_ : List (S59), y_ = (([] : List (S59))) := ⟨_, rfl⟩
 replace H : (spec_l13Good.l0 k t291 t296 y299 0 s0_0 t297 t298) = some (r1, r2, r3, r4, r5) := by first | (rw [hy299]; with_reducible exact H) | (have H2_ := (Option.bind_some _ _).symm.trans H; rw [hy299]; with_reducible exact H2_) | (have H2_ := (Option.bind_some _ _).symm.trans H; with_reducible exact H2_) | with_reducible exact H | (rw [hy299]; exact H) | exact H
 have Ny299 := jA hy299
 clear hy299
 have H' := jA H
 clear H
 go_enter Try.func89, Try.ntmps89
 go_wp2_with (first | ((with_reducible refine jN (f := 84) rfl ?_); refine goesL_ (some 13) rfl rfl Try.func84 zr rfl #[.pointer (some ⟨g, 0, none⟩)] rfl zm ?_; (with_reducible refine (spec_l12Good.calls k g s0_0 s0_1 s0_2 t291 t294 t295 w0 _ ?side1 ?side2 A2.out).mono ?_); (case side1 => repeat (first | (with_reducible first | exact HI0.out | apply IsS91.alloc | apply IsS91.drewN | apply IsS91.drew | apply IsS91.set_1 | apply IsS91.set_2) | exact HI0.out)); (case side2 => repeat (first | (with_reducible first | exact HB.out | apply jM | apply jE | apply jI | refine jL ?_ (IsS91.ge HI0.out)) | exact HB.out)); rintro e w4 ⟨v292, rfl, ho0, hi, hb, hk⟩; refine ⟨_, rfl, ?_⟩; have n0_ := jA (jf ho0 (keep_size (w := w) (g := g) (row := none) (zh0 HK))); have n1_ := jA (KeepBut.trans (zh0 HK) hk (.inl rfl)); have n2_ := jA (hb); have n3_ := jA (hi); clear HK; clear HB; clear HI0; have HO293 := n0_; have HK := n1_; have HB := n2_; have HI0 := n3_; clear n0_ n1_ n2_ n3_; (try clear hb); (try clear hb2); (try clear hk); (try clear hi); (try clear ho0)) | ((with_reducible refine jN (f := 66) rfl ?_); refine goesL_ (some 15) rfl rfl Try.func66 zr rfl #[.pointer (some ⟨g, 0, none⟩), .int .i64 9] rfl zm ?_; (with_reducible refine (spec_l01Next.calls g s0_0 t294 t295 9 t296 t297 t298 w0 _ ?side1 ?side2 A3.out).mono ?_); (case side1 => repeat (first | (with_reducible first | exact HI0.out | apply IsS91.alloc | apply IsS91.drewN | apply IsS91.drew | apply IsS91.set_1 | apply IsS91.set_2) | exact HI0.out)); (case side2 => repeat (first | (with_reducible first | exact HB.out | apply jM | apply jE | apply jI | refine jL ?_ (IsS91.ge HI0.out)) | exact HB.out)); rintro e w5 ⟨rfl, hi, hb, hk⟩; refine ⟨_, rfl, ?_⟩; have n0_ := jA (Kd.R_mono (Kd.R_keep (IsS91.apart (show IsS91 w0 _ g s0_0 t294 t295 from by repeat (first | (with_reducible first | exact HI0.out | apply IsS91.alloc | apply IsS91.drewN | apply IsS91.drew | apply IsS91.set_1 | apply IsS91.set_2) | exact HI0.out)) (zo HO293) (by decide)) hk (fun _ h => h.2)) (fun _ h => h.1)); have n1_ := jA (KeepBut.trans (zh0 HK) hk (.inl rfl)); have n2_ := jA (hb); have n3_ := jA (hi); clear HO293; clear HK; clear HB; clear HI0; have HO293 := n0_; have HK := n1_; have HB := n2_; have HI0 := n3_; clear n0_ n1_ n2_ n3_; (try clear hb); (try clear hb2); (try clear hk); (try clear hi)) | ((with_reducible refine gate_dst (N := 16) rfl ?_); refine Kd.R_lit k59 _ 59 ?hg (N := 16) ?hd (xs := ([] : List (S59))) (inner := []) (ok := fun _ => True) (okp := fun _ => True) ?hr ?hp (fun _ hk => hk) trivial (Below.refl _ _) (Nat.le_refl _) (by simp) ?_; (case hd => rfl); (case hg => rfl); (case hr => first | (go_simp; done) | (go_simp; rfl)); (case hp => exact (Reps.none _ _)); intro v300 w6 ho7 hb hg_ hnew_; clear hg_ hnew_; (first | rw [← Ny299.out] at ho7 | (simp only [Int.reduceToNat] at ho7; rw [← Ny299.out] at ho7)); have n0_ := jA (jZ (zo HO293) hb); have n1_ := jA (jf ho7 (keep_size (w := w) (g := g) (row := none) (zh0 HK))); have n2_ := jA (IsS91.below (by repeat (first | (with_reducible first | exact HI0.out | apply IsS91.alloc | apply IsS91.drewN | apply IsS91.drew | apply IsS91.set_1 | apply IsS91.set_2) | exact HI0.out)) hb); have n3_ := jA (KeepBut.trans (zh0 HK) (KeepBut.of_below hb g none) (.inl rfl)); have n4_ := jA (jV (by repeat (first | (with_reducible first | exact HB.out | apply jM | apply jE | apply jI | refine jL ?_ (IsS91.ge HI0.out)) | exact HB.out)) hb); clear HO293; clear HI0; clear HK; clear HB; have HO293 := n0_; have HO301 := n1_; have HI0 := n2_; have HK := n3_; have HB := n4_; clear n0_ n1_ n2_ n3_ n4_; clear hb ho7))
 go_loopg [7, 8] k (fun kq v7 v8 w' => ∃ (x7_1 : List (S59)) (x8_1 : Int) (x1001_1 : Int) (x1002_1 : Int), v8 = .int .i64 x8_1 ∧ Aside0 (spec_l13Good.l0 kq t291 t296 x7_1 x8_1 s0_0 x1001_1 x1002_1 = some (r1, r2, r3, r4, r5)) ∧ Aside0 (kq ≤ k) ∧ Aside0 (Kd.R k63 63 w' w.heap.size (fun _ => True) v292 t291) ∧ Aside0 (Kd.R k59 59 w' w.heap.size (fun _ => True) v7 x7_1) ∧ Aside0 (IsS91 w0 w' g s0_0 x1001_1 x1002_1) ∧ Aside0 (KeepBut w w' g none) ∧ Aside0 (Below w0.heap.size w0 w'))
 case atStart => exact ⟨(y299), (0), (t297), (t298), zz, H', ⟨Nat.le_refl _⟩, ⟨by (with_reducible repeat (first | apply jH | apply jG | apply jK)); exact HO293.out⟩, ⟨by (with_reducible repeat (first | apply jH | apply jG | apply jK)); exact HO301.out⟩, ⟨by repeat (first | (with_reducible first | exact HI0.out | apply IsS91.alloc | apply IsS91.drewN | apply IsS91.drew | apply IsS91.set_1 | apply IsS91.set_2) | exact HI0.out)⟩, ⟨zh0 HK⟩, ⟨by repeat (first | (with_reducible first | exact HB.out | apply jM | apply jE | apply jI | refine jL ?_ (IsS91.ge HI0.out)) | exact HB.out)⟩⟩
 case round =>
  clear H'
  try clear p2
  try clear c6
  obtain ⟨x7_1, x8_1, x1001_1, x1002_1, rfl, HA, HK1, HO_5, HO_7, HI0, HK, HB⟩ := hrel
  cases gk with
  | zero => exact absurd HA.out (by simp [spec_l13Good.l0])
  | succ k1 =>
   have H := HA.out
   clear HA
   simp only [spec_l13Good.l0] at H
   by_cases c8 : x8_1 < t296
   ·rw [if_pos c8] at H
    have c8b0 : decide (x8_1 < t296) = true := jP c8
    clear c8
    replace H := jD.mp H
    obtain ⟨⟨t302, t303, t304⟩, A90, H⟩ := H
    replace H : (if 0 ≤ t302 then (if t302 < (t291.length : Int) then ((spec_l01Next.f s0_0 t303 t304 ((rd_T63 t291 t302).f1)).bind fun bt306 => ((some (([] : List (S59)) : List (S59))).bind fun y310 => (if y310.length + x7_1.length < 5864062014805 then ((some (y310 ++ x7_1 : List (S59))).bind fun y313 => ((some (([(⟨x8_1, t302, bt306.1⟩ : S59)] : List (S59)) : List (S59))).bind fun y316 => (if y313.length + y316.length < 5864062014805 then ((some (y313 ++ y316 : List (S59))).bind fun y319 => ((spec_l01Next.f s0_0 bt306.2.1 bt306.2.2 3).bind fun bt322 => (if bt322.1 > 0 then ((spec_AreWires.f k1 t291 t296 y319).bind fun t325 => (if t325 = true then (spec_l13Good.l0 k1 t291 t296 y319 (wrap64 (x8_1 + 1)) s0_0 bt322.2.1 bt322.2.2) else (spec_l13Good.l0 k1 t291 t296 x7_1 (wrap64 (x8_1 + 1)) s0_0 bt322.2.1 bt322.2.2))) else (spec_l13Good.l0 k1 t291 t296 x7_1 (wrap64 (x8_1 + 1)) s0_0 bt322.2.1 bt322.2.2)))) else (none)))) else (none)))) else (none)) else (none)) = some (r1, r2, r3, r4, r5) := H
    have A9 := jA A90
    clear A90
    by_cases c10 : 0 ≤ t302
    ·rw [if_pos c10] at H
     have c10b0 : decide (0 ≤ t302) = true := jP c10
     clear c10
     by_cases c11 : t302 < (t291.length : Int)
     ·rw [if_pos c11] at H
      have c11b0 : decide (t302 < (t291.length : Int)) = true := jP c11
      clear c11
      replace H := jD.mp H
      obtain ⟨⟨t306, t307, t308⟩, A120, H⟩ := H
      replace H : ((some (([] : List (S59)) : List (S59))).bind fun y310 => (if y310.length + x7_1.length < 5864062014805 then ((some (y310 ++ x7_1 : List (S59))).bind fun y313 => ((some (([(⟨x8_1, t302, t306⟩ : S59)] : List (S59)) : List (S59))).bind fun y316 => (if y313.length + y316.length < 5864062014805 then ((some (y313 ++ y316 : List (S59))).bind fun y319 => ((spec_l01Next.f s0_0 t307 t308 3).bind fun bt322 => (if bt322.1 > 0 then ((spec_AreWires.f k1 t291 t296 y319).bind fun t325 => (if t325 = true then (spec_l13Good.l0 k1 t291 t296 y319 (wrap64 (x8_1 + 1)) s0_0 bt322.2.1 bt322.2.2) else (spec_l13Good.l0 k1 t291 t296 x7_1 (wrap64 (x8_1 + 1)) s0_0 bt322.2.1 bt322.2.2))) else (spec_l13Good.l0 k1 t291 t296 x7_1 (wrap64 (x8_1 + 1)) s0_0 bt322.2.1 bt322.2.2)))) else (none)))) else (none))) = some (r1, r2, r3, r4, r5) := H
      have A12 := jA A120
      clear A120
      obtain ⟨y310, hy310⟩ : ∃ y_ : List (S59), y_ = (([] : List (S59))) := ⟨_, rfl⟩
      replace H : (if y310.length + x7_1.length < 5864062014805 then ((some (y310 ++ x7_1 : List (S59))).bind fun y313 => ((some (([(⟨x8_1, t302, t306⟩ : S59)] : List (S59)) : List (S59))).bind fun y316 => (if y313.length + y316.length < 5864062014805 then ((some (y313 ++ y316 : List (S59))).bind fun y319 => ((spec_l01Next.f s0_0 t307 t308 3).bind fun bt322 => (if bt322.1 > 0 then ((spec_AreWires.f k1 t291 t296 y319).bind fun t325 => (if t325 = true then (spec_l13Good.l0 k1 t291 t296 y319 (wrap64 (x8_1 + 1)) s0_0 bt322.2.1 bt322.2.2) else (spec_l13Good.l0 k1 t291 t296 x7_1 (wrap64 (x8_1 + 1)) s0_0 bt322.2.1 bt322.2.2))) else (spec_l13Good.l0 k1 t291 t296 x7_1 (wrap64 (x8_1 + 1)) s0_0 bt322.2.1 bt322.2.2)))) else (none)))) else (none)) = some (r1, r2, r3, r4, r5) := by first | (rw [hy310]; with_reducible exact H) | (have H2_ := (Option.bind_some _ _).symm.trans H; rw [hy310]; with_reducible exact H2_) | (have H2_ := (Option.bind_some _ _).symm.trans H; with_reducible exact H2_) | with_reducible exact H | (rw [hy310]; exact H) | exact H
      have Ny310 := jA hy310
      clear hy310
      by_cases c13 : y310.length + x7_1.length < 5864062014805
      ·rw [if_pos c13] at H
       have LMc13 := jA c13
       clear c13
       obtain ⟨y313, hy313⟩ : ∃ y_ : List (S59), y_ = (y310 ++ x7_1) := ⟨_, rfl⟩
       replace H : ((some (([(⟨x8_1, t302, t306⟩ : S59)] : List (S59)) : List (S59))).bind fun y316 => (if y313.length + y316.length < 5864062014805 then ((some (y313 ++ y316 : List (S59))).bind fun y319 => ((spec_l01Next.f s0_0 t307 t308 3).bind fun bt322 => (if bt322.1 > 0 then ((spec_AreWires.f k1 t291 t296 y319).bind fun t325 => (if t325 = true then (spec_l13Good.l0 k1 t291 t296 y319 (wrap64 (x8_1 + 1)) s0_0 bt322.2.1 bt322.2.2) else (spec_l13Good.l0 k1 t291 t296 x7_1 (wrap64 (x8_1 + 1)) s0_0 bt322.2.1 bt322.2.2))) else (spec_l13Good.l0 k1 t291 t296 x7_1 (wrap64 (x8_1 + 1)) s0_0 bt322.2.1 bt322.2.2)))) else (none))) = some (r1, r2, r3, r4, r5) := by first | (rw [hy313]; with_reducible exact H) | (have H2_ := (Option.bind_some _ _).symm.trans H; rw [hy313]; with_reducible exact H2_) | (have H2_ := (Option.bind_some _ _).symm.trans H; with_reducible exact H2_) | with_reducible exact H | (rw [hy313]; exact H) | exact H
       have Ny313 := jA hy313
       clear hy313
       obtain ⟨y316, hy316⟩ : ∃ y_ : List (S59), y_ = (([(⟨x8_1, t302, t306⟩ : S59)] : List (S59))) := ⟨_, rfl⟩
       replace H : (if y313.length + y316.length < 5864062014805 then ((some (y313 ++ y316 : List (S59))).bind fun y319 => ((spec_l01Next.f s0_0 t307 t308 3).bind fun bt322 => (if bt322.1 > 0 then ((spec_AreWires.f k1 t291 t296 y319).bind fun t325 => (if t325 = true then (spec_l13Good.l0 k1 t291 t296 y319 (wrap64 (x8_1 + 1)) s0_0 bt322.2.1 bt322.2.2) else (spec_l13Good.l0 k1 t291 t296 x7_1 (wrap64 (x8_1 + 1)) s0_0 bt322.2.1 bt322.2.2))) else (spec_l13Good.l0 k1 t291 t296 x7_1 (wrap64 (x8_1 + 1)) s0_0 bt322.2.1 bt322.2.2)))) else (none)) = some (r1, r2, r3, r4, r5) := by first | (rw [hy316]; with_reducible exact H) | (have H2_ := (Option.bind_some _ _).symm.trans H; rw [hy316]; with_reducible exact H2_) | (have H2_ := (Option.bind_some _ _).symm.trans H; with_reducible exact H2_) | with_reducible exact H | (rw [hy316]; exact H) | exact H
       have Ny316 := jA hy316
       clear hy316
       by_cases c14 : y313.length + y316.length < 5864062014805
       ·rw [if_pos c14] at H
        have LMc14 := jA c14
        clear c14
        obtain ⟨y319, hy319⟩ : ∃ y_ : List (S59), y_ = (y313 ++ y316) := ⟨_, rfl⟩
        replace H : ((spec_l01Next.f s0_0 t307 t308 3).bind fun bt322 => (if bt322.1 > 0 then ((spec_AreWires.f k1 t291 t296 y319).bind fun t325 => (if t325 = true then (spec_l13Good.l0 k1 t291 t296 y319 (wrap64 (x8_1 + 1)) s0_0 bt322.2.1 bt322.2.2) else (spec_l13Good.l0 k1 t291 t296 x7_1 (wrap64 (x8_1 + 1)) s0_0 bt322.2.1 bt322.2.2))) else (spec_l13Good.l0 k1 t291 t296 x7_1 (wrap64 (x8_1 + 1)) s0_0 bt322.2.1 bt322.2.2))) = some (r1, r2, r3, r4, r5) := by first | (rw [hy319]; with_reducible exact H) | (have H2_ := (Option.bind_some _ _).symm.trans H; rw [hy319]; with_reducible exact H2_) | (have H2_ := (Option.bind_some _ _).symm.trans H; with_reducible exact H2_) | with_reducible exact H | (rw [hy319]; exact H) | exact H
        have Ny319 := jA hy319
        clear hy319
        replace H := jD.mp H
        obtain ⟨⟨t322, t323, t324⟩, A150, H⟩ := H
        replace H : (if t322 > 0 then ((spec_AreWires.f k1 t291 t296 y319).bind fun t325 => (if t325 = true then (spec_l13Good.l0 k1 t291 t296 y319 (wrap64 (x8_1 + 1)) s0_0 t323 t324) else (spec_l13Good.l0 k1 t291 t296 x7_1 (wrap64 (x8_1 + 1)) s0_0 t323 t324))) else (spec_l13Good.l0 k1 t291 t296 x7_1 (wrap64 (x8_1 + 1)) s0_0 t323 t324)) = some (r1, r2, r3, r4, r5) := H
        have A15 := jA A150
        clear A150
        by_cases c16 : t322 > 0
        ·rw [if_pos c16] at H
         have c16b0 : decide (0 < t322) = true := jP c16
         clear c16
         replace H := jD.mp H
         obtain ⟨t325, A170, H⟩ := H
         replace H : (if t325 = true then (spec_l13Good.l0 k1 t291 t296 y319 (wrap64 (x8_1 + 1)) s0_0 t323 t324) else (spec_l13Good.l0 k1 t291 t296 x7_1 (wrap64 (x8_1 + 1)) s0_0 t323 t324)) = some (r1, r2, r3, r4, r5) := H
         have A17 := jA A170
         clear A170
         by_cases c18 : t325 = true
         ·subst c18
          have H1 : (spec_l13Good.l0 k1 t291 t296 y319 (wrap64 (x8_1 + 1)) s0_0 t323 t324) = some (r1, r2, r3, r4, r5) := by rw [if_pos rfl] at H; exact H
          clear H
          have H := H1
          clear H1
          have H' := jA H
          clear H
          obtain ⟨Ao19, co19, eo19⟩ := Kd.R_slice HO_5.out
          subst eo19
          try go_wp2_with (first | ((with_reducible refine jN (f := 66) rfl ?_); refine goesL_ (some 25) rfl rfl Try.func66 zr rfl #[.pointer (some ⟨g, 0, none⟩), .int .i64 (t291.length : Int)] rfl zm ?_; (with_reducible refine (spec_l01Next.calls g s0_0 x1001_1 x1002_1 (t291.length : Int) t302 t303 t304 w0 _ ?side1 ?side2 A9.out).mono ?_); (case side1 => repeat (first | (with_reducible first | exact HI0.out | apply IsS91.alloc | apply IsS91.drewN | apply IsS91.drew | apply IsS91.set_1 | apply IsS91.set_2) | exact HI0.out)); (case side2 => repeat (first | (with_reducible first | exact HB.out | apply jM | apply jE | apply jI | refine jL ?_ (IsS91.ge HI0.out)) | exact HB.out)); rintro e w20 ⟨rfl, hi, hb, hk⟩; refine ⟨_, rfl, ?_⟩; have n0_ := jA (Kd.R_mono (Kd.R_keep (IsS91.apart (show IsS91 w0 _ g s0_0 x1001_1 x1002_1 from by repeat (first | (with_reducible first | exact HI0.out | apply IsS91.alloc | apply IsS91.drewN | apply IsS91.drew | apply IsS91.set_1 | apply IsS91.set_2) | exact HI0.out)) (zo HO_5) (by decide)) hk (fun _ h => h.2)) (fun _ h => h.1)); have n1_ := jA (Kd.R_mono (Kd.R_keep (IsS91.apart (show IsS91 w0 _ g s0_0 x1001_1 x1002_1 from by repeat (first | (with_reducible first | exact HI0.out | apply IsS91.alloc | apply IsS91.drewN | apply IsS91.drew | apply IsS91.set_1 | apply IsS91.set_2) | exact HI0.out)) (zo HO_7) (by decide)) hk (fun _ h => h.2)) (fun _ h => h.1)); have n2_ := jA (KeepBut.trans (zh0 HK) hk (.inl rfl)); have n3_ := jA (hb); have n4_ := jA (hi); clear HO_5; clear HO_7; clear HK; clear HB; clear HI0; have HO_5 := n0_; have HO_7 := n1_; have HK := n2_; have HB := n3_; have HI0 := n4_; clear n0_ n1_ n2_ n3_ n4_; (try clear hb); (try clear hb2); (try clear hk); (try clear hi); have p305 : 0 ≤ (t302 : Int) := jB za; have q305 : t302 < (t291.length : Int) := jB za; obtain ⟨ad305, e305, hx305_0, hx305_1⟩ := at_T63 (jJ HO_5.out).2.2 t302 p305 q305; cases e305; replace p305 := eq_true p305; replace q305 := eq_true q305) | ((with_reducible refine jN (f := 66) rfl ?_); refine goesL_ (some 34) rfl rfl Try.func66 zr rfl #[.pointer (some ⟨g, 0, none⟩), .int .i64 ((rd_T63 t291 t302).f1)] rfl zm ?_; (with_reducible refine (spec_l01Next.calls g s0_0 t303 t304 ((rd_T63 t291 t302).f1) t306 t307 t308 w0 _ ?side1 ?side2 A12.out).mono ?_); (case side1 => repeat (first | (with_reducible first | exact HI0.out | apply IsS91.alloc | apply IsS91.drewN | apply IsS91.drew | apply IsS91.set_1 | apply IsS91.set_2) | exact HI0.out)); (case side2 => repeat (first | (with_reducible first | exact HB.out | apply jM | apply jE | apply jI | refine jL ?_ (IsS91.ge HI0.out)) | exact HB.out)); rintro e w21 ⟨rfl, hi, hb, hk⟩; refine ⟨_, rfl, ?_⟩; have n0_ := jA (Kd.R_mono (Kd.R_keep (IsS91.apart (show IsS91 w0 _ g s0_0 t303 t304 from by repeat (first | (with_reducible first | exact HI0.out | apply IsS91.alloc | apply IsS91.drewN | apply IsS91.drew | apply IsS91.set_1 | apply IsS91.set_2) | exact HI0.out)) (zo HO_5) (by decide)) hk (fun _ h => h.2)) (fun _ h => h.1)); have n1_ := jA (Kd.R_mono (Kd.R_keep (IsS91.apart (show IsS91 w0 _ g s0_0 t303 t304 from by repeat (first | (with_reducible first | exact HI0.out | apply IsS91.alloc | apply IsS91.drewN | apply IsS91.drew | apply IsS91.set_1 | apply IsS91.set_2) | exact HI0.out)) (zo HO_7) (by decide)) hk (fun _ h => h.2)) (fun _ h => h.1)); have n2_ := jA (KeepBut.trans (zh0 HK) hk (.inl rfl)); have n3_ := jA (hb); have n4_ := jA (hi); clear HO_5; clear HO_7; clear HK; clear HB; clear HI0; have HO_5 := n0_; have HO_7 := n1_; have HK := n2_; have HB := n3_; have HI0 := n4_; clear n0_ n1_ n2_ n3_ n4_; (try clear hb); (try clear hb2); (try clear hk); (try clear hi)) | ((with_reducible refine gate_dst (N := 10) rfl ?_); refine box_event ?hg (N := 10) ?hd (cs := #[.int .i64 0, .int .i64 0, .int .i64 0]) (t := 59) ?hr ?_; (case hd => rfl); (case hg => rfl); (case hr => first | (go_simp; done) | (go_simp; rfl)); intro gb309 hg w22 hbox hb; have n0_ := jA (jZ (zo HO_5) hb); have n1_ := jA (jZ (Kd.R_elderB (zo HO_7) gb309 (Nat.le_of_eq hg.symm)) hb); have n2_ := jA (IsS91.below (by repeat (first | (with_reducible first | exact HI0.out | apply IsS91.alloc | apply IsS91.drewN | apply IsS91.drew | apply IsS91.set_1 | apply IsS91.set_2) | exact HI0.out)) hb); have n3_ := jA (KeepBut.trans (zh0 HK) (KeepBut.of_below hb g none) (.inl rfl)); have n4_ := jA (jV (by repeat (first | (with_reducible first | exact HB.out | apply jM | apply jE | apply jI | refine jL ?_ (IsS91.ge HI0.out)) | exact HB.out)) hb); have n5_ := jA (hbox); have n6_ := jA ((by rw [hg]; exact (keep_size (w := w) (g := g) (row := none) (zh0 HK)) : w.heap.size ≤ gb309)); have n7_ := jA ((Nat.le_trans HW0.out (by rw [hg]; exact (keep_size (w := w) (g := g) (row := none) (zh0 HK)) : w.heap.size ≤ gb309) : w0.heap.size ≤ gb309)); have n8_ := jA ((by rw [hg]; exact Nat.ne_of_lt (IsS91.lt (show IsS91 w0 _ g s0_0 t307 t308 from by repeat (first | (with_reducible first | exact HI0.out | apply IsS91.alloc | apply IsS91.drewN | apply IsS91.drew | apply IsS91.set_1 | apply IsS91.set_2) | exact HI0.out))) : g ≠ gb309)); have n9_ := jA ((by rw [hg]; exact Nat.ne_of_gt (IsS91.lt (show IsS91 w0 _ g s0_0 t307 t308 from by repeat (first | (with_reducible first | exact HI0.out | apply IsS91.alloc | apply IsS91.drewN | apply IsS91.drew | apply IsS91.set_1 | apply IsS91.set_2) | exact HI0.out))) : gb309 ≠ g)); clear HO_5; clear HO_7; clear HI0; clear HK; clear HB; have HO_5 := n0_; have HO_7 := n1_; have HI0 := n2_; have HK := n3_; have HB := n4_; have BK309 := n5_; have GW309 := n6_; have GE309 := n7_; have NB0_309 := n8_; have NB309_0 := n9_; clear n0_ n1_ n2_ n3_ n4_ n5_ n6_ n7_ n8_ n9_; clear hb hbox hg; have hnb23 := NB309_0.out; have hnc23 := NB0_309.out; have hcz24_0 : w22.cell? ⟨gb309, 0, none⟩ = some (.int .i64 0) := (jF BK309.out 0).trans rfl; have hcz24_1 : w22.cell? ⟨gb309, 1, none⟩ = some (.int .i64 0) := (jF BK309.out 1).trans rfl; have hcz24_2 : w22.cell? ⟨gb309, 2, none⟩ = some (.int .i64 0) := (jF BK309.out 2).trans rfl; have hfz24_0 := jX BK309.out 0; have hfz24_1 := jX BK309.out 1; have hfz24_2 := jX BK309.out 2; obtain ⟨Ao25, co25, eo25⟩ := Kd.R_slice HO_7.out; subst eo25))
          have n0_ : Aside0 (Kd.R k63 63 (((w22.setCell ⟨gb309, 0, none⟩ (.int .i64 x8_1)).setCell ⟨gb309, 1, none⟩ (.int .i64 t302)).setCell ⟨gb309, 2, none⟩ (.int .i64 t306)) w.heap.size (fun _ => True) (.slice (some ad305) t291.length co19) t291) := ⟨by (with_reducible repeat (first | apply jH | apply jG | apply jK)); exact Kd.R_mono (Kd.R_far (p := ⟨gb309, 2, none⟩) (Kd.R_far (p := ⟨gb309, 1, none⟩) (Kd.R_far (p := ⟨gb309, 0, none⟩) (Kd.R_types HO_5.out BK309.out (by decide)) (fun _ hk => hk.2) (.int .i64 x8_1)) (fun _ hk => hk.2) (.int .i64 t302)) (fun _ hk => hk.2) (.int .i64 t306)) (fun _ hk => trivial)⟩
          have n1_ : Aside0 (Kd.R k59 59 (((w22.setCell ⟨gb309, 0, none⟩ (.int .i64 x8_1)).setCell ⟨gb309, 1, none⟩ (.int .i64 t302)).setCell ⟨gb309, 2, none⟩ (.int .i64 t306)) w.heap.size (fun k_ => k_ ≠ gb309) (.slice Ao25 x7_1.length co25) x7_1) := ⟨by (with_reducible repeat (first | apply jH | apply jG | apply jK)); exact Kd.R_mono (Kd.R_far (p := ⟨gb309, 2, none⟩) (Kd.R_far (p := ⟨gb309, 1, none⟩) (Kd.R_far (p := ⟨gb309, 0, none⟩) (Kd.R_mono HO_7.out (fun k_ hk => (⟨hk, hk.2⟩ : _ ∧ k_ ≠ gb309))) (fun _ hk => hk.2) (.int .i64 x8_1)) (fun _ hk => hk.2) (.int .i64 t302)) (fun _ hk => hk.2) (.int .i64 t306)) (fun _ hk => hk.1.2)⟩
          have n2_ : Aside0 ((((w22.setCell ⟨gb309, 0, none⟩ (.int .i64 x8_1)).setCell ⟨gb309, 1, none⟩ (.int .i64 t302)).setCell ⟨gb309, 2, none⟩ (.int .i64 t306)).heap[gb309]? = some (.cells #[.int .i64 x8_1, .int .i64 t302, .int .i64 t306] 59 (0, 0))) := ⟨by (with_reducible repeat (first | refine jc ?_ _ | refine jb ?_ | refine jd ?_ _)); refine blk_put (cs := #[.int .i64 x8_1, .int .i64 t302, .int .i64 0]) ?_ 2 _ rfl; (with_reducible repeat (first | refine jc ?_ _ | refine jb ?_ | refine jd ?_ _)); refine blk_put (cs := #[.int .i64 x8_1, .int .i64 0, .int .i64 0]) ?_ 1 _ rfl; (with_reducible repeat (first | refine jc ?_ _ | refine jb ?_ | refine jd ?_ _)); refine blk_put (cs := #[.int .i64 0, .int .i64 0, .int .i64 0]) ?_ 0 _ rfl; (with_reducible repeat (first | refine jc ?_ _ | refine jb ?_ | refine jd ?_ _)); exact BK309.out⟩
          have n3_ : Aside0 (IsS91 w0 (((w22.setCell ⟨gb309, 0, none⟩ (.int .i64 x8_1)).setCell ⟨gb309, 1, none⟩ (.int .i64 t302)).setCell ⟨gb309, 2, none⟩ (.int .i64 t306)) g s0_0 t307 t308) := ⟨by repeat (first | (with_reducible first | exact HI0.out | apply IsS91.alloc | apply IsS91.drewN | apply IsS91.drew | apply IsS91.set_1 | apply IsS91.set_2 | refine IsS91.far ?_ NB0_309.out _) | exact HI0.out)⟩
          have n4_ : Aside0 (KeepBut w (((w22.setCell ⟨gb309, 0, none⟩ (.int .i64 x8_1)).setCell ⟨gb309, 1, none⟩ (.int .i64 t302)).setCell ⟨gb309, 2, none⟩ (.int .i64 t306)) g none) := ⟨zh1 HK GW309⟩
          have n5_ : Aside0 (Below w0.heap.size w0 (((w22.setCell ⟨gb309, 0, none⟩ (.int .i64 x8_1)).setCell ⟨gb309, 1, none⟩ (.int .i64 t302)).setCell ⟨gb309, 2, none⟩ (.int .i64 t306))) := ⟨by repeat (first | (with_reducible first | exact HB.out | apply jM | apply jE | apply jI | refine jL ?_ (IsS91.ge HI0.out) | refine jL ?_ GE309.out) | exact HB.out)⟩
          (try clear HO_5)
          (try clear HO_7)
          (try clear BK309)
          (try clear HI0)
          (try clear HK)
          (try clear HB)
          generalize (((w22.setCell ⟨gb309, 0, none⟩ (.int .i64 x8_1)).setCell ⟨gb309, 1, none⟩ (.int .i64 t302)).setCell ⟨gb309, 2, none⟩ (.int .i64 t306)) = w26 at n0_ n1_ n2_ n3_ n4_ n5_ ⊢
          have HO_5 := n0_
          have HO_7 := n1_
          have BK309 := n2_
          have HI0 := n3_
          have HK := n4_
          have HB := n5_
          clear n0_ n1_ n2_ n3_ n4_ n5_
          have n0_ := jA (jK HO_5.out)
          have n1_ := jA (jK HO_7.out)
          have n2_ := jA (jb BK309.out)
          have n3_ := jA (IsS91.drew HI0.out)
          have n4_ := jA (keep_drew HK.out)
          have n5_ := jA (jI HB.out)
          clear HO_5
          clear HO_7
          clear BK309
          clear HI0
          clear HK
          clear HB
          have HO_5 := n0_
          have HO_7 := n1_
          have BK309 := n2_
          have HI0 := n3_
          have HK := n4_
          have HB := n5_
          clear n0_ n1_ n2_ n3_ n4_ n5_
          refine start_ (n := 7) (S := fun w' => w'.cell? ⟨gb309, 0, none⟩ = some (.int .i64 x8_1) ∧ w'.cell? ⟨gb309, 1, none⟩ = some (.int .i64 t302) ∧ w'.cell? ⟨gb309, 2, none⟩ = some (.int .i64 t306)) (ds := []) m7_0 zr rfl rfl ⟨(jF BK309.out 0).trans rfl, (jF BK309.out 1).trans rfl, (jF BK309.out 2).trans rfl⟩ (fun hHeld => ?_)
          generalize w26.drew = w27 at HO_5 HO_7 BK309 HI0 HK HB hHeld ⊢
          refine pure_ (i := 1) (N := some 37) (v := ?_) (a' := ?_) m7_20 rfl rfl zr (fun _ _ _ h => h) (Or.inl ⟨by rfl, ?_⟩) ?_ ?_
          rotate_left
          ·intro w'
           go_simp
           with_reducible rfl
          rotate_left
          ·simp only [Act.put, jO, jT, jU, i64_w, i32_w]
           rfl
          refine take_ (i := 3) (N := some 39) (v := ?_) (a' := ?_) m7_28 rfl rfl zr (fun _ _ _ h => h) (Or.inl ⟨by rfl, ?_⟩) hHeld ?_ ?_
          rotate_left
          ·rintro w' ⟨s0, s1, s2⟩
           go_simp
           with_reducible rfl
          rotate_left
          ·simp only [Act.put, jO, jT, jU, i64_w, i32_w]
           rfl
          refine join_ (σ := Value × Value × Value) 2 m7_7c (fun s_ => [(36, s_.1), (38, s_.2.1), (40, s_.2.2)]) (fun s_ w' => (w'.cell? ⟨gb309, 0, none⟩ = some (.int .i64 x8_1) ∧ w'.cell? ⟨gb309, 1, none⟩ = some (.int .i64 t302) ∧ w'.cell? ⟨gb309, 2, none⟩ = some (.int .i64 t306)) ∧ (Kd.R k59 59 w' w.heap.size (fun k_ => some k_ ≠ (s_.2.2 : Value).ownBlock ∧ some k_ ≠ (.slice Ao25 x7_1.length co25 : Value).ownBlock ∧ k_ ≠ gb309) s_.2.1 y313) ∧ (Kd.R k59 59 w' w.heap.size (fun k_ => some k_ ≠ (s_.2.1 : Value).ownBlock ∧ some k_ ≠ (.slice Ao25 x7_1.length co25 : Value).ownBlock ∧ k_ ≠ gb309) s_.2.2 y316) ∧ (Kd.R k63 63 w' w.heap.size (fun _ => True) (.slice (some ad305) t291.length co19) t291) ∧ (Kd.R k59 59 w' w.heap.size (fun k_ => some k_ ≠ (s_.2.1 : Value).ownBlock ∧ some k_ ≠ (s_.2.2 : Value).ownBlock ∧ k_ ≠ gb309) (.slice Ao25 x7_1.length co25) x7_1) ∧ (w'.heap[gb309]? = some (.cells #[.int .i64 x8_1, .int .i64 t302, .int .i64 t306] 59 (0, 0))) ∧ (IsS91 w0 w' g s0_0 t307 t308) ∧ (KeepBut w w' g none) ∧ (Below w0.heap.size w0 w')) ?_ ?_
          rotate_left
          ·intro hCont
           refine two_ (i := 0) (j := 4) (Ni := some 36) (Nj := some 40) m7_68 m7_2c rfl rfl rfl rfl zr (by decide) (by decide) (fun K hK => ?_) (fun K hK => ?_)
           ·skip
            refine Kd.R_lit_step k59 _ 59 ?hg (N := 36) ?hd (xs := ([] : List (S59))) (inner := []) (ok := fun _ => True) (okp := fun _ => True) ?hr ?hp (fun _ hk => hk) trivial (Below.refl _ _) (Nat.le_refl _) (by simp) ?_; (case hd => rfl); (case hg => rfl); (case hr => first | (go_simp; done) | (go_simp; rfl)); (case hp => exact (Reps.none _ _))
            intro v311 w28 ho29 hb hg_ hnew_
            clear hg_ hnew_
            (first | rw [← Ny310.out] at ho29 | (simp only [Int.reduceToNat] at ho29; rw [← Ny310.out] at ho29))
            have n0_ := jA (jZ (zo HO_5) hb)
            have n1_ := jA (Kd.R_elder' (zo HO_7) (Kd.R_base ho29) hb)
            have n2_ := jA (jf (Kd.R_newB (Kd.R_new' ho29 (Kd.R_lt (zo HO_7))) (g := gb309) (o := .cells #[.int .i64 x8_1, .int .i64 t302, .int .i64 t306] 59 (0, 0)) (zk BK309)) (keep_size (w := w) (g := g) (row := none) (zh1 HK GW309)))
            have n3_ := jA (IsS91.below (by repeat (first | (with_reducible first | exact HI0.out | apply IsS91.alloc | apply IsS91.drewN | apply IsS91.drew | apply IsS91.set_1 | apply IsS91.set_2 | refine IsS91.far ?_ NB0_309.out _) | exact HI0.out)) hb)
            have n4_ := jA (blk_below (g := gb309) (o := .cells #[.int .i64 x8_1, .int .i64 t302, .int .i64 t306] 59 (0, 0)) (zk BK309) hb)
            have n5_ := jA (KeepBut.trans (zh1 HK GW309) (KeepBut.of_below hb g none) (.inl rfl))
            have n6_ := jA (jV (by repeat (first | (with_reducible first | exact HB.out | apply jM | apply jE | apply jI | refine jL ?_ (IsS91.ge HI0.out) | refine jL ?_ GE309.out) | exact HB.out)) hb)
            clear HO_5
            clear HO_7
            clear HI0
            clear BK309
            clear HK
            clear HB
            have HO_5 := n0_
            have HO_7 := n1_
            have HO312 := n2_
            have HI0 := n3_
            have BK309 := n4_
            have HK := n5_
            have HB := n6_
            clear n0_ n1_ n2_ n3_ n4_ n5_ n6_
            clear hb ho29
            refine hK.out _ _ ⟨(jF BK309.out 0).trans rfl, (jF BK309.out 1).trans rfl, (jF BK309.out 2).trans rfl⟩ (fun hHeld => ?_)
            clear hK K
            refine norm_ (a' := ?_) ?_ ?_
            rotate_left
            ·show Act.put _ (some 36) _ = _
             simp only [Act.put, jO, jT, jU, i64_w, i32_w]
             rfl
            refine two_ (i := 2) (j := 4) (Ni := some 38) (Nj := some 40) m7_78 m7_6c rfl rfl rfl rfl zr (by decide) (by decide) (fun K hK => ?_) (fun K hK => ?_)
            ·skip
             refine Kd.R_append_rows_step k59 w.heap.size (by rfl) (.tmp 36) (.tmp 37) 50 59 (.agg #[(.int .i64 0), (.int .i64 0), (.int .i64 0)]) 24 rfl Try.underlying50 info59 rfl (by decide) (by omega) v311 y310 x7_1 _ _ _ (fun k_ => some k_ ≠ (.slice Ao25 x7_1.length co25 : Value).ownBlock ∧ k_ ≠ gb309) (fun _ => False) rfl rfl ?aO ?aR (fun _ _ h => h) (fun _ h => h.elim) ?aF (Below.refl _ _) ?aS ?aL ?_
             (case aR => repeat (first | exact (jJ HO_7.out).2.2 | (with_reducible refine jR ?_ _) | (with_reducible refine jQ ?_ _) | (with_reducible refine jS ?_)))
             (case aF => exact (fun k_ hk => ⟨Kd.fresh' (Kd.R_lt (zo HO_7)) k_ hk, Kd.freshB (g := gb309) (o := .cells #[.int .i64 x8_1, .int .i64 t302, .int .i64 t306] 59 (0, 0)) (zk BK309) k_ hk⟩))
             (case aO => exact (by (with_reducible repeat (first | apply jH | apply jG | apply jK)); exact Kd.R_mono HO312.out (fun _ hk => ⟨hk.1.2, hk.2⟩)))
             (case aS => exact (keep_size (w := w) (g := g) (row := none) (zh1 HK GW309)))
             (case aL => have := LMc13.out; omega)
             intro v314 w30 ho hb hg hat
             rw [← Ny313.out] at ho
             have n0_ := jA (Kd.R_over' (zo HO_5) (Kd.R_typed (zo HO312)) (by decide) hg)
             have n1_ := jA (Kd.R_after (ok := (fun k_ => k_ ≠ gb309)) (zo HO_7) hg hat)
             have n2_ := jA (IsS91.grown (by repeat (first | (with_reducible first | exact HI0.out | apply IsS91.alloc | apply IsS91.drewN | apply IsS91.drew | apply IsS91.set_1 | apply IsS91.set_2 | refine IsS91.far ?_ NB0_309.out _) | exact HI0.out)) hg (IsS91.own_ne HI0.out HO312.out (by decide)))
             have n3_ := jA (blk_grown (g := gb309) (o := .cells #[.int .i64 x8_1, .int .i64 t302, .int .i64 t306] 59 (0, 0)) (zk BK309) hg (Kd.R_away HO312.out (fun _ hk => hk.2)))
             have n4_ := jA (below_weaken (by repeat (first | (with_reducible first | exact HB.out | apply jM | apply jE | apply jI | refine jL ?_ (IsS91.ge HI0.out) | refine jL ?_ GE309.out) | exact HB.out)) HL.out hb)
             have n5_ := jA (KeepBut.trans (zh1 HK GW309) (KeepBut.of_grown hg g) (Kd.R_base2 HO312.out))
             have n6_ := jA (ho)
             clear HO_5
             clear HO_7
             clear HI0
             clear BK309
             clear HB
             clear HK
             clear HO312
             have HO_5 := n0_
             have HO_7 := n1_
             have HI0 := n2_
             have BK309 := n3_
             have HB := n4_
             have HK := n5_
             have HO315 := n6_
             clear n0_ n1_ n2_ n3_ n4_ n5_ n6_
             clear ho hb hg hat
             refine hK.out _ _ ⟨(jF BK309.out 0).trans rfl, (jF BK309.out 1).trans rfl, (jF BK309.out 2).trans rfl⟩ (fun hHeld => ?_)
             clear hK K
             refine norm_ (a' := ?_) ?_ ?_
             rotate_left
             ·show Act.put _ (some 38) _ = _
              simp only [Act.put, jO, jT, jU, i64_w, i32_w]
              rfl
             refine one_ (i := 4) (N := some 40) m7_7c rfl rfl zr (by decide) (fun K hK => ?_)
             refine Kd.R_lit_step k59 _ 59 ?hg (N := 40) ?hd (xs := ([(⟨x8_1, t302, t306⟩ : S59)] : List (S59))) (inner := [.int .i64 x8_1, .int .i64 t302, .int .i64 t306]) (ok := fun _ => True) (okp := fun _ => True) ?hr ?hp (fun _ hk => hk) trivial (Below.refl _ _) (Nat.le_refl _) (by simp) ?_; (case hd => rfl); (case hg => rfl); (case hr => first | (go_simp; done) | (go_simp; rfl)); (case hp => exact (Reps.c3 (show Kd.M k59 _ _ _ (⟨x8_1, t302, t306⟩ : S59) [.int .i64 x8_1, .int .i64 t302, .int .i64 t306] from (k59_mkM _ _ _ (⟨x8_1, t302, t306⟩ : S59) )) (Reps.none _ _)))
             intro v317 w31 ho32 hb hg_ hnew_
             clear hg_ hnew_
             (first | rw [← Ny316.out] at ho32 | (simp only [Int.reduceToNat] at ho32; rw [← Ny316.out] at ho32))
             have n0_ := jA (jZ (zo HO_5) hb)
             have n1_ := jA (Kd.R_elder' (zo HO_7) (Kd.R_base ho32) hb)
             have n2_ := jA (Kd.R_elder' (zo HO315) (Kd.R_base ho32) hb)
             have n3_ := jA (jf (Kd.R_newB (Kd.R_new' (Kd.R_new' ho32 (Kd.R_lt (zo HO_7))) (Kd.R_lt (zo HO315))) (g := gb309) (o := .cells #[.int .i64 x8_1, .int .i64 t302, .int .i64 t306] 59 (0, 0)) (zk BK309)) (keep_size (w := w) (g := g) (row := none) (zh1 HK GW309)))
             have n4_ := jA (IsS91.below (by repeat (first | (with_reducible first | exact HI0.out | apply IsS91.alloc | apply IsS91.drewN | apply IsS91.drew | apply IsS91.set_1 | apply IsS91.set_2 | refine IsS91.far ?_ NB0_309.out _) | exact HI0.out)) hb)
             have n5_ := jA (blk_below (g := gb309) (o := .cells #[.int .i64 x8_1, .int .i64 t302, .int .i64 t306] 59 (0, 0)) (zk BK309) hb)
             have n6_ := jA (KeepBut.trans (zh1 HK GW309) (KeepBut.of_below hb g none) (.inl rfl))
             have n7_ := jA (jV (by repeat (first | (with_reducible first | exact HB.out | apply jM | apply jE | apply jI | refine jL ?_ (IsS91.ge HI0.out) | refine jL ?_ GE309.out) | exact HB.out)) hb)
             clear HO_5
             clear HO_7
             clear HO315
             clear HI0
             clear BK309
             clear HK
             clear HB
             have HO_5 := n0_
             have HO_7 := n1_
             have HO315 := n2_
             have HO318 := n3_
             have HI0 := n4_
             have BK309 := n5_
             have HK := n6_
             have HB := n7_
             clear n0_ n1_ n2_ n3_ n4_ n5_ n6_ n7_
             clear hb ho32
             refine hK.out _ _ ⟨(jF BK309.out 0).trans rfl, (jF BK309.out 1).trans rfl, (jF BK309.out 2).trans rfl⟩ (fun hHeld => ?_)
             clear hK K
             refine norm_ (a' := ?_) ?_ ?_
             rotate_left
             ·show Act.put _ (some 40) _ = _
              simp only [Act.put, jO, jT, jU, i64_w, i32_w]
              rfl
             exact norm_ (by simp only [putAll, Act.put, jO, jT, jU]) (hCont (v311, v314, v317) _ ⟨hHeld, (by (with_reducible repeat (first | apply jH | apply jG | apply jK)); exact Kd.R_mono HO315.out (fun _ hk => ⟨hk.2, ⟨hk.1.1, hk.1.2⟩⟩)), (by (with_reducible repeat (first | apply jH | apply jG | apply jK)); exact Kd.R_mono HO318.out (fun _ hk => ⟨hk.1.2, ⟨hk.1.1.2, hk.2⟩⟩)), (zo HO_5), (by (with_reducible repeat (first | apply jH | apply jG | apply jK)); exact Kd.R_mono HO_7.out (fun _ hk => ⟨hk.1.2, ⟨hk.2, hk.1.1⟩⟩)), (zk BK309), (by repeat (first | (with_reducible first | exact HI0.out | apply IsS91.alloc | apply IsS91.drewN | apply IsS91.drew | apply IsS91.set_1 | apply IsS91.set_2 | refine IsS91.far ?_ NB0_309.out _) | exact HI0.out)), (zh1 HK GW309), (by repeat (first | (with_reducible first | exact HB.out | apply jM | apply jE | apply jI | refine jL ?_ (IsS91.ge HI0.out) | refine jL ?_ GE309.out) | exact HB.out))⟩)
            ·skip
             refine Kd.R_lit_step k59 _ 59 ?hg (N := 40) ?hd (xs := ([(⟨x8_1, t302, t306⟩ : S59)] : List (S59))) (inner := [.int .i64 x8_1, .int .i64 t302, .int .i64 t306]) (ok := fun _ => True) (okp := fun _ => True) ?hr ?hp (fun _ hk => hk) trivial (Below.refl _ _) (Nat.le_refl _) (by simp) ?_; (case hd => rfl); (case hg => rfl); (case hr => first | (go_simp; done) | (go_simp; rfl)); (case hp => exact (Reps.c3 (show Kd.M k59 _ _ _ (⟨x8_1, t302, t306⟩ : S59) [.int .i64 x8_1, .int .i64 t302, .int .i64 t306] from (k59_mkM _ _ _ (⟨x8_1, t302, t306⟩ : S59) )) (Reps.none _ _)))
             intro v317 w30 ho31 hb hg_ hnew_
             clear hg_ hnew_
             (first | rw [← Ny316.out] at ho31 | (simp only [Int.reduceToNat] at ho31; rw [← Ny316.out] at ho31))
             have n0_ := jA (jZ (zo HO_5) hb)
             have n1_ := jA (Kd.R_elder' (zo HO_7) (Kd.R_base ho31) hb)
             have n2_ := jA (Kd.R_elder' (zo HO312) (Kd.R_base ho31) hb)
             have n3_ := jA (jf (Kd.R_newB (Kd.R_new' (Kd.R_new' ho31 (Kd.R_lt (zo HO_7))) (Kd.R_lt (zo HO312))) (g := gb309) (o := .cells #[.int .i64 x8_1, .int .i64 t302, .int .i64 t306] 59 (0, 0)) (zk BK309)) (keep_size (w := w) (g := g) (row := none) (zh1 HK GW309)))
             have n4_ := jA (IsS91.below (by repeat (first | (with_reducible first | exact HI0.out | apply IsS91.alloc | apply IsS91.drewN | apply IsS91.drew | apply IsS91.set_1 | apply IsS91.set_2 | refine IsS91.far ?_ NB0_309.out _) | exact HI0.out)) hb)
             have n5_ := jA (blk_below (g := gb309) (o := .cells #[.int .i64 x8_1, .int .i64 t302, .int .i64 t306] 59 (0, 0)) (zk BK309) hb)
             have n6_ := jA (KeepBut.trans (zh1 HK GW309) (KeepBut.of_below hb g none) (.inl rfl))
             have n7_ := jA (jV (by repeat (first | (with_reducible first | exact HB.out | apply jM | apply jE | apply jI | refine jL ?_ (IsS91.ge HI0.out) | refine jL ?_ GE309.out) | exact HB.out)) hb)
             clear HO_5
             clear HO_7
             clear HO312
             clear HI0
             clear BK309
             clear HK
             clear HB
             have HO_5 := n0_
             have HO_7 := n1_
             have HO312 := n2_
             have HO318 := n3_
             have HI0 := n4_
             have BK309 := n5_
             have HK := n6_
             have HB := n7_
             clear n0_ n1_ n2_ n3_ n4_ n5_ n6_ n7_
             clear hb ho31
             refine hK.out _ _ ⟨(jF BK309.out 0).trans rfl, (jF BK309.out 1).trans rfl, (jF BK309.out 2).trans rfl⟩ (fun hHeld => ?_)
             clear hK K
             refine norm_ (a' := ?_) ?_ ?_
             rotate_left
             ·show Act.put _ (some 40) _ = _
              simp only [Act.put, jO, jT, jU, i64_w, i32_w]
              rfl
             refine one_ (i := 2) (N := some 38) m7_7c rfl rfl zr (by decide) (fun K hK => ?_)
             refine Kd.R_append_rows_step k59 w.heap.size (by rfl) (.tmp 36) (.tmp 37) 50 59 (.agg #[(.int .i64 0), (.int .i64 0), (.int .i64 0)]) 24 rfl Try.underlying50 info59 rfl (by decide) (by omega) v311 y310 x7_1 _ _ _ (fun k_ => some k_ ≠ (.slice Ao25 x7_1.length co25 : Value).ownBlock ∧ some k_ ≠ (v317 : Value).ownBlock ∧ k_ ≠ gb309) (fun _ => False) rfl rfl ?aO ?aR (fun _ _ h => h) (fun _ h => h.elim) ?aF (Below.refl _ _) ?aS ?aL ?_
             (case aR => repeat (first | exact (jJ HO_7.out).2.2 | (with_reducible refine jR ?_ _) | (with_reducible refine jQ ?_ _) | (with_reducible refine jS ?_)))
             (case aF => exact (fun k_ hk => ⟨Kd.fresh' (Kd.R_lt (zo HO_7)) k_ hk, Kd.fresh' (Kd.R_lt (zo HO318)) k_ hk, Kd.freshB (g := gb309) (o := .cells #[.int .i64 x8_1, .int .i64 t302, .int .i64 t306] 59 (0, 0)) (zk BK309) k_ hk⟩))
             (case aO => exact (by (with_reducible repeat (first | apply jH | apply jG | apply jK)); exact Kd.R_mono HO312.out (fun _ hk => ⟨hk.1.1.2, ⟨hk.2, hk.1.2⟩⟩)))
             (case aS => exact (keep_size (w := w) (g := g) (row := none) (zh1 HK GW309)))
             (case aL => have := LMc13.out; omega)
             intro v314 w32 ho hb hg hat
             rw [← Ny313.out] at ho
             have n0_ := jA (Kd.R_over' (zo HO_5) (Kd.R_typed (zo HO312)) (by decide) hg)
             have n1_ := jA (Kd.R_after (ok := (fun k_ => some k_ ≠ (v317 : Value).ownBlock ∧ k_ ≠ gb309)) (by (with_reducible repeat (first | apply jH | apply jG | apply jK)); exact Kd.R_mono HO_7.out (fun _ hk => ⟨⟨hk.2, hk.1.1⟩, hk.1.2⟩)) hg hat)
             have n2_ := jA (IsS91.grown (by repeat (first | (with_reducible first | exact HI0.out | apply IsS91.alloc | apply IsS91.drewN | apply IsS91.drew | apply IsS91.set_1 | apply IsS91.set_2 | refine IsS91.far ?_ NB0_309.out _) | exact HI0.out)) hg (IsS91.own_ne HI0.out HO312.out (by decide)))
             have n3_ := jA (blk_grown (g := gb309) (o := .cells #[.int .i64 x8_1, .int .i64 t302, .int .i64 t306] 59 (0, 0)) (zk BK309) hg (Kd.R_away HO312.out (fun _ hk => hk.1.2)))
             have n4_ := jA (Kd.R_after (ok := (fun k_ => some k_ ≠ (.slice Ao25 x7_1.length co25 : Value).ownBlock ∧ k_ ≠ gb309)) (by (with_reducible repeat (first | apply jH | apply jG | apply jK)); exact Kd.R_mono HO318.out (fun _ hk => ⟨⟨hk.1.1.2, hk.2⟩, hk.1.2⟩)) hg hat)
             have n5_ := jA (below_weaken (by repeat (first | (with_reducible first | exact HB.out | apply jM | apply jE | apply jI | refine jL ?_ (IsS91.ge HI0.out) | refine jL ?_ GE309.out) | exact HB.out)) HL.out hb)
             have n6_ := jA (KeepBut.trans (zh1 HK GW309) (KeepBut.of_grown hg g) (Kd.R_base2 HO312.out))
             have n7_ := jA (ho)
             clear HO_5
             clear HO_7
             clear HI0
             clear BK309
             clear HO318
             clear HB
             clear HK
             clear HO312
             have HO_5 := n0_
             have HO_7 := n1_
             have HI0 := n2_
             have BK309 := n3_
             have HO318 := n4_
             have HB := n5_
             have HK := n6_
             have HO315 := n7_
             clear n0_ n1_ n2_ n3_ n4_ n5_ n6_ n7_
             clear ho hb hg hat
             refine hK.out _ _ ⟨(jF BK309.out 0).trans rfl, (jF BK309.out 1).trans rfl, (jF BK309.out 2).trans rfl⟩ (fun hHeld => ?_)
             clear hK K
             refine norm_ (a' := ?_) ?_ ?_
             rotate_left
             ·show Act.put _ (some 38) _ = _
              simp only [Act.put, jO, jT, jU, i64_w, i32_w]
              rfl
             exact norm_ (by simp only [putAll, Act.put, jO, jT, jU]) (hCont (v311, v314, v317) _ ⟨hHeld, (by (with_reducible repeat (first | apply jH | apply jG | apply jK)); exact Kd.R_mono HO315.out (fun _ hk => ⟨hk.2.1, ⟨hk.1, hk.2.2⟩⟩)), (by (with_reducible repeat (first | apply jH | apply jG | apply jK)); exact Kd.R_mono HO318.out (fun _ hk => ⟨hk.2, ⟨hk.1.1, hk.1.2⟩⟩)), (zo HO_5), (by (with_reducible repeat (first | apply jH | apply jG | apply jK)); exact Kd.R_mono HO_7.out (fun _ hk => ⟨hk.2, ⟨hk.1.1, hk.1.2⟩⟩)), (zk BK309), (by repeat (first | (with_reducible first | exact HI0.out | apply IsS91.alloc | apply IsS91.drewN | apply IsS91.drew | apply IsS91.set_1 | apply IsS91.set_2 | refine IsS91.far ?_ NB0_309.out _) | exact HI0.out)), (zh1 HK GW309), (by repeat (first | (with_reducible first | exact HB.out | apply jM | apply jE | apply jI | refine jL ?_ (IsS91.ge HI0.out) | refine jL ?_ GE309.out) | exact HB.out))⟩)
           ·skip
            refine Kd.R_lit_step k59 _ 59 ?hg (N := 40) ?hd (xs := ([(⟨x8_1, t302, t306⟩ : S59)] : List (S59))) (inner := [.int .i64 x8_1, .int .i64 t302, .int .i64 t306]) (ok := fun _ => True) (okp := fun _ => True) ?hr ?hp (fun _ hk => hk) trivial (Below.refl _ _) (Nat.le_refl _) (by simp) ?_; (case hd => rfl); (case hg => rfl); (case hr => first | (go_simp; done) | (go_simp; rfl)); (case hp => exact (Reps.c3 (show Kd.M k59 _ _ _ (⟨x8_1, t302, t306⟩ : S59) [.int .i64 x8_1, .int .i64 t302, .int .i64 t306] from (k59_mkM _ _ _ (⟨x8_1, t302, t306⟩ : S59) )) (Reps.none _ _)))
            intro v317 w28 ho29 hb hg_ hnew_
            clear hg_ hnew_
            (first | rw [← Ny316.out] at ho29 | (simp only [Int.reduceToNat] at ho29; rw [← Ny316.out] at ho29))
            have n0_ := jA (jZ (zo HO_5) hb)
            have n1_ := jA (Kd.R_elder' (zo HO_7) (Kd.R_base ho29) hb)
            have n2_ := jA (jf (Kd.R_newB (Kd.R_new' ho29 (Kd.R_lt (zo HO_7))) (g := gb309) (o := .cells #[.int .i64 x8_1, .int .i64 t302, .int .i64 t306] 59 (0, 0)) (zk BK309)) (keep_size (w := w) (g := g) (row := none) (zh1 HK GW309)))
            have n3_ := jA (IsS91.below (by repeat (first | (with_reducible first | exact HI0.out | apply IsS91.alloc | apply IsS91.drewN | apply IsS91.drew | apply IsS91.set_1 | apply IsS91.set_2 | refine IsS91.far ?_ NB0_309.out _) | exact HI0.out)) hb)
            have n4_ := jA (blk_below (g := gb309) (o := .cells #[.int .i64 x8_1, .int .i64 t302, .int .i64 t306] 59 (0, 0)) (zk BK309) hb)
            have n5_ := jA (KeepBut.trans (zh1 HK GW309) (KeepBut.of_below hb g none) (.inl rfl))
            have n6_ := jA (jV (by repeat (first | (with_reducible first | exact HB.out | apply jM | apply jE | apply jI | refine jL ?_ (IsS91.ge HI0.out) | refine jL ?_ GE309.out) | exact HB.out)) hb)
            clear HO_5
            clear HO_7
            clear HI0
            clear BK309
            clear HK
            clear HB
            have HO_5 := n0_
            have HO_7 := n1_
            have HO318 := n2_
            have HI0 := n3_
            have BK309 := n4_
            have HK := n5_
            have HB := n6_
            clear n0_ n1_ n2_ n3_ n4_ n5_ n6_
            clear hb ho29
            refine hK.out _ _ ⟨(jF BK309.out 0).trans rfl, (jF BK309.out 1).trans rfl, (jF BK309.out 2).trans rfl⟩ (fun hHeld => ?_)
            clear hK K
            refine norm_ (a' := ?_) ?_ ?_
            rotate_left
            ·show Act.put _ (some 40) _ = _
             simp only [Act.put, jO, jT, jU, i64_w, i32_w]
             rfl
            refine one_ (i := 0) (N := some 36) m7_6c rfl rfl zr (by decide) (fun K hK => ?_)
            refine Kd.R_lit_step k59 _ 59 ?hg (N := 36) ?hd (xs := ([] : List (S59))) (inner := []) (ok := fun _ => True) (okp := fun _ => True) ?hr ?hp (fun _ hk => hk) trivial (Below.refl _ _) (Nat.le_refl _) (by simp) ?_; (case hd => rfl); (case hg => rfl); (case hr => first | (go_simp; done) | (go_simp; rfl)); (case hp => exact (Reps.none _ _))
            intro v311 w30 ho31 hb hg_ hnew_
            clear hg_ hnew_
            (first | rw [← Ny310.out] at ho31 | (simp only [Int.reduceToNat] at ho31; rw [← Ny310.out] at ho31))
            have n0_ := jA (jZ (zo HO_5) hb)
            have n1_ := jA (Kd.R_elder' (zo HO_7) (Kd.R_base ho31) hb)
            have n2_ := jA (Kd.R_elder' (zo HO318) (Kd.R_base ho31) hb)
            have n3_ := jA (jf (Kd.R_newB (Kd.R_new' (Kd.R_new' ho31 (Kd.R_lt (zo HO_7))) (Kd.R_lt (zo HO318))) (g := gb309) (o := .cells #[.int .i64 x8_1, .int .i64 t302, .int .i64 t306] 59 (0, 0)) (zk BK309)) (keep_size (w := w) (g := g) (row := none) (zh1 HK GW309)))
            have n4_ := jA (IsS91.below (by repeat (first | (with_reducible first | exact HI0.out | apply IsS91.alloc | apply IsS91.drewN | apply IsS91.drew | apply IsS91.set_1 | apply IsS91.set_2 | refine IsS91.far ?_ NB0_309.out _) | exact HI0.out)) hb)
            have n5_ := jA (blk_below (g := gb309) (o := .cells #[.int .i64 x8_1, .int .i64 t302, .int .i64 t306] 59 (0, 0)) (zk BK309) hb)
            have n6_ := jA (KeepBut.trans (zh1 HK GW309) (KeepBut.of_below hb g none) (.inl rfl))
            have n7_ := jA (jV (by repeat (first | (with_reducible first | exact HB.out | apply jM | apply jE | apply jI | refine jL ?_ (IsS91.ge HI0.out) | refine jL ?_ GE309.out) | exact HB.out)) hb)
            clear HO_5
            clear HO_7
            clear HO318
            clear HI0
            clear BK309
            clear HK
            clear HB
            have HO_5 := n0_
            have HO_7 := n1_
            have HO318 := n2_
            have HO312 := n3_
            have HI0 := n4_
            have BK309 := n5_
            have HK := n6_
            have HB := n7_
            clear n0_ n1_ n2_ n3_ n4_ n5_ n6_ n7_
            clear hb ho31
            refine hK.out _ _ ⟨(jF BK309.out 0).trans rfl, (jF BK309.out 1).trans rfl, (jF BK309.out 2).trans rfl⟩ (fun hHeld => ?_)
            clear hK K
            refine norm_ (a' := ?_) ?_ ?_
            rotate_left
            ·show Act.put _ (some 36) _ = _
             simp only [Act.put, jO, jT, jU, i64_w, i32_w]
             rfl
            refine one_ (i := 2) (N := some 38) m7_7c rfl rfl zr (by decide) (fun K hK => ?_)
            refine Kd.R_append_rows_step k59 w.heap.size (by rfl) (.tmp 36) (.tmp 37) 50 59 (.agg #[(.int .i64 0), (.int .i64 0), (.int .i64 0)]) 24 rfl Try.underlying50 info59 rfl (by decide) (by omega) v311 y310 x7_1 _ _ _ (fun k_ => some k_ ≠ (.slice Ao25 x7_1.length co25 : Value).ownBlock ∧ some k_ ≠ (v317 : Value).ownBlock ∧ k_ ≠ gb309) (fun _ => False) rfl rfl ?aO ?aR (fun _ _ h => h) (fun _ h => h.elim) ?aF (Below.refl _ _) ?aS ?aL ?_
            (case aR => repeat (first | exact (jJ HO_7.out).2.2 | (with_reducible refine jR ?_ _) | (with_reducible refine jQ ?_ _) | (with_reducible refine jS ?_)))
            (case aF => exact (fun k_ hk => ⟨Kd.fresh' (Kd.R_lt (zo HO_7)) k_ hk, Kd.fresh' (Kd.R_lt (zo HO318)) k_ hk, Kd.freshB (g := gb309) (o := .cells #[.int .i64 x8_1, .int .i64 t302, .int .i64 t306] 59 (0, 0)) (zk BK309) k_ hk⟩))
            (case aO => exact (by (with_reducible repeat (first | apply jH | apply jG | apply jK)); exact Kd.R_mono HO312.out (fun _ hk => ⟨hk.1.1.2, ⟨hk.1.2, hk.2⟩⟩)))
            (case aS => exact (keep_size (w := w) (g := g) (row := none) (zh1 HK GW309)))
            (case aL => have := LMc13.out; omega)
            intro v314 w32 ho hb hg hat
            rw [← Ny313.out] at ho
            have n0_ := jA (Kd.R_over' (zo HO_5) (Kd.R_typed (zo HO312)) (by decide) hg)
            have n1_ := jA (Kd.R_after (ok := (fun k_ => some k_ ≠ (v317 : Value).ownBlock ∧ k_ ≠ gb309)) (by (with_reducible repeat (first | apply jH | apply jG | apply jK)); exact Kd.R_mono HO_7.out (fun _ hk => ⟨⟨hk.1.2, hk.1.1⟩, hk.2⟩)) hg hat)
            have n2_ := jA (IsS91.grown (by repeat (first | (with_reducible first | exact HI0.out | apply IsS91.alloc | apply IsS91.drewN | apply IsS91.drew | apply IsS91.set_1 | apply IsS91.set_2 | refine IsS91.far ?_ NB0_309.out _) | exact HI0.out)) hg (IsS91.own_ne HI0.out HO312.out (by decide)))
            have n3_ := jA (blk_grown (g := gb309) (o := .cells #[.int .i64 x8_1, .int .i64 t302, .int .i64 t306] 59 (0, 0)) (zk BK309) hg (Kd.R_away HO312.out (fun _ hk => hk.2)))
            have n4_ := jA (Kd.R_after (ok := (fun k_ => some k_ ≠ (.slice Ao25 x7_1.length co25 : Value).ownBlock ∧ k_ ≠ gb309)) (by (with_reducible repeat (first | apply jH | apply jG | apply jK)); exact Kd.R_mono HO318.out (fun _ hk => ⟨⟨hk.1.1.2, hk.1.2⟩, hk.2⟩)) hg hat)
            have n5_ := jA (below_weaken (by repeat (first | (with_reducible first | exact HB.out | apply jM | apply jE | apply jI | refine jL ?_ (IsS91.ge HI0.out) | refine jL ?_ GE309.out) | exact HB.out)) HL.out hb)
            have n6_ := jA (KeepBut.trans (zh1 HK GW309) (KeepBut.of_grown hg g) (Kd.R_base2 HO312.out))
            have n7_ := jA (ho)
            clear HO_5
            clear HO_7
            clear HI0
            clear BK309
            clear HO318
            clear HB
            clear HK
            clear HO312
            have HO_5 := n0_
            have HO_7 := n1_
            have HI0 := n2_
            have BK309 := n3_
            have HO318 := n4_
            have HB := n5_
            have HK := n6_
            have HO315 := n7_
            clear n0_ n1_ n2_ n3_ n4_ n5_ n6_ n7_
            clear ho hb hg hat
            refine hK.out _ _ ⟨(jF BK309.out 0).trans rfl, (jF BK309.out 1).trans rfl, (jF BK309.out 2).trans rfl⟩ (fun hHeld => ?_)
            clear hK K
            refine norm_ (a' := ?_) ?_ ?_
            rotate_left
            ·show Act.put _ (some 38) _ = _
             simp only [Act.put, jO, jT, jU, i64_w, i32_w]
             rfl
            exact norm_ (by simp only [putAll, Act.put, jO, jT, jU]) (hCont (v311, v314, v317) _ ⟨hHeld, (by (with_reducible repeat (first | apply jH | apply jG | apply jK)); exact Kd.R_mono HO315.out (fun _ hk => ⟨hk.2.1, ⟨hk.1, hk.2.2⟩⟩)), (by (with_reducible repeat (first | apply jH | apply jG | apply jK)); exact Kd.R_mono HO318.out (fun _ hk => ⟨hk.2, ⟨hk.1.1, hk.1.2⟩⟩)), (zo HO_5), (by (with_reducible repeat (first | apply jH | apply jG | apply jK)); exact Kd.R_mono HO_7.out (fun _ hk => ⟨hk.2, ⟨hk.1.1, hk.1.2⟩⟩)), (zk BK309), (by repeat (first | (with_reducible first | exact HI0.out | apply IsS91.alloc | apply IsS91.drewN | apply IsS91.drew | apply IsS91.set_1 | apply IsS91.set_2 | refine IsS91.far ?_ NB0_309.out _) | exact HI0.out)), (zh1 HK GW309), (by repeat (first | (with_reducible first | exact HB.out | apply jM | apply jE | apply jI | refine jL ?_ (IsS91.ge HI0.out) | refine jL ?_ GE309.out) | exact HB.out))⟩)
          rintro ⟨v311, v314, v317⟩ w33 ⟨hS_, h0_, h1_, h2_, h3_, h4_, h5_, h6_, h7_⟩
          have n0_ : Aside0 (Kd.R k59 59 w33 w.heap.size (fun k_ => some k_ ≠ (v317 : Value).ownBlock ∧ some k_ ≠ (.slice Ao25 x7_1.length co25 : Value).ownBlock ∧ k_ ≠ gb309) v314 y313) := ⟨h0_⟩
          have n1_ : Aside0 (Kd.R k59 59 w33 w.heap.size (fun k_ => some k_ ≠ (v314 : Value).ownBlock ∧ some k_ ≠ (.slice Ao25 x7_1.length co25 : Value).ownBlock ∧ k_ ≠ gb309) v317 y316) := ⟨h1_⟩
          have n2_ : Aside0 (Kd.R k63 63 w33 w.heap.size (fun _ => True) (.slice (some ad305) t291.length co19) t291) := ⟨h2_⟩
          have n3_ : Aside0 (Kd.R k59 59 w33 w.heap.size (fun k_ => some k_ ≠ (v314 : Value).ownBlock ∧ some k_ ≠ (v317 : Value).ownBlock ∧ k_ ≠ gb309) (.slice Ao25 x7_1.length co25) x7_1) := ⟨h3_⟩
          have n4_ : Aside0 (w33.heap[gb309]? = some (.cells #[.int .i64 x8_1, .int .i64 t302, .int .i64 t306] 59 (0, 0))) := ⟨h4_⟩
          have n5_ : Aside0 (IsS91 w0 w33 g s0_0 t307 t308) := ⟨h5_⟩
          have n6_ : Aside0 (KeepBut w w33 g none) := ⟨h6_⟩
          have n7_ : Aside0 (Below w0.heap.size w0 w33) := ⟨h7_⟩
          clear HO_5
          clear HO_7
          clear BK309
          clear HI0
          clear HK
          clear HB
          clear h0_ h1_ h2_ h3_ h4_ h5_ h6_ h7_
          have HO315 := n0_
          have HO318 := n1_
          have HO_5 := n2_
          have HO_7 := n3_
          have BK309 := n4_
          have HI0 := n5_
          have HK := n6_
          have HB := n7_
          clear n0_ n1_ n2_ n3_ n4_ n5_ n6_ n7_
          have hHeld : w33.cell? ⟨gb309, 0, none⟩ = some (.int .i64 x8_1) ∧ w33.cell? ⟨gb309, 1, none⟩ = some (.int .i64 t302) ∧ w33.cell? ⟨gb309, 2, none⟩ = some (.int .i64 t306) := hS_
          obtain ⟨Ao35, co35, eo35⟩ := Kd.R_slice HO318.out
          (first | subst eo35 | (injection eo35 with f1_ f2_ f3_; have f4_ := f1_.symm; have f5_ := f3_.symm; clear f1_ f2_ f3_; subst f4_; subst f5_))
          refine norm_ (a' := ?_) ?_ ?_
          rotate_left
          ·simp only [putAll, Act.put, jO, jT, jU]
           rfl
          refine one_ (i := 5) (N := some 41) m7_7e rfl rfl zr (by decide) (fun K hK => ?_)
          refine Kd.R_append_rows_step k59 w.heap.size (by rfl) (.tmp 38) (.tmp 40) 50 59 (.agg #[(.int .i64 0), (.int .i64 0), (.int .i64 0)]) 24 rfl Try.underlying50 info59 rfl (by decide) (by omega) v314 y313 y316 _ _ _ (fun k_ => some k_ ≠ (.slice Ao25 x7_1.length co25 : Value).ownBlock ∧ some k_ ≠ (.slice Ao35 y316.length co35 : Value).ownBlock ∧ k_ ≠ gb309) (fun _ => False) rfl rfl ?aO ?aR (fun _ _ h => h) (fun _ h => h.elim) ?aF (Below.refl _ _) ?aS ?aL ?_
          (case aR => repeat (first | exact (jJ HO318.out).2.2 | (with_reducible refine jR ?_ _) | (with_reducible refine jQ ?_ _) | (with_reducible refine jS ?_)))
          (case aF => exact (fun k_ hk => ⟨Kd.fresh' (Kd.R_lt (zo HO_7)) k_ hk, Kd.fresh' (Kd.R_lt (zo HO318)) k_ hk, Kd.freshB (g := gb309) (o := .cells #[.int .i64 x8_1, .int .i64 t302, .int .i64 t306] 59 (0, 0)) (zk BK309) k_ hk⟩))
          (case aO => exact (by (with_reducible repeat (first | apply jH | apply jG | apply jK)); exact Kd.R_mono HO315.out (fun _ hk => ⟨hk.2.1, ⟨hk.1, hk.2.2⟩⟩)))
          (case aS => exact (keep_size (w := w) (g := g) (row := none) (zh1 HK GW309)))
          (case aL => have := LMc14.out; omega)
          intro v320 w34 ho hb hg hat
          rw [← Ny319.out] at ho
          have n0_ := jA (Kd.R_over' (zo HO_5) (Kd.R_typed (zo HO315)) (by decide) hg)
          have n1_ := jA (Kd.R_after (ok := (fun k_ => some k_ ≠ (.slice Ao35 y316.length co35 : Value).ownBlock ∧ k_ ≠ gb309)) (by (with_reducible repeat (first | apply jH | apply jG | apply jK)); exact Kd.R_mono HO_7.out (fun _ hk => ⟨⟨hk.2.1, hk.2.2⟩, hk.1⟩)) hg hat)
          have n2_ := jA (IsS91.grown (by repeat (first | (with_reducible first | exact HI0.out | apply IsS91.alloc | apply IsS91.drewN | apply IsS91.drew | apply IsS91.set_1 | apply IsS91.set_2 | refine IsS91.far ?_ NB0_309.out _) | exact HI0.out)) hg (IsS91.own_ne HI0.out HO315.out (by decide)))
          have n3_ := jA (blk_grown (g := gb309) (o := .cells #[.int .i64 x8_1, .int .i64 t302, .int .i64 t306] 59 (0, 0)) (zk BK309) hg (Kd.R_away HO315.out (fun _ hk => hk.2.2)))
          have n4_ := jA (Kd.R_after (ok := (fun k_ => some k_ ≠ (.slice Ao25 x7_1.length co25 : Value).ownBlock ∧ k_ ≠ gb309)) (by (with_reducible repeat (first | apply jH | apply jG | apply jK)); exact Kd.R_mono HO318.out (fun _ hk => ⟨⟨hk.2.1, hk.2.2⟩, hk.1⟩)) hg hat)
          have n5_ := jA (below_weaken (by repeat (first | (with_reducible first | exact HB.out | apply jM | apply jE | apply jI | refine jL ?_ (IsS91.ge HI0.out) | refine jL ?_ GE309.out) | exact HB.out)) HL.out hb)
          have n6_ := jA (KeepBut.trans (zh1 HK GW309) (KeepBut.of_grown hg g) (Kd.R_base2 HO315.out))
          have n7_ := jA (ho)
          clear HO_5
          clear HO_7
          clear HI0
          clear BK309
          clear HO318
          clear HB
          clear HK
          clear HO315
          have HO_5 := n0_
          have HO_7 := n1_
          have HI0 := n2_
          have BK309 := n3_
          have HO318 := n4_
          have HB := n5_
          have HK := n6_
          have HO321 := n7_
          clear n0_ n1_ n2_ n3_ n4_ n5_ n6_ n7_
          clear ho hb hg hat
          refine hK.out _ _ ⟨(jF BK309.out 0).trans rfl, (jF BK309.out 1).trans rfl, (jF BK309.out 2).trans rfl⟩ (fun hHeld => ?_)
          clear hK K
          refine norm_ (a' := ?_) ?_ ?_
          rotate_left
          ·show Act.put _ (some 41) _ = _
           simp only [Act.put, jO, jT, jU, i64_w, i32_w]
           rfl
          refine pure_ (i := 6) (N := some 11) (v := ?_) (a' := ?_) m7_7f rfl rfl zr (fun _ _ _ h => h) (Or.inl ⟨by rfl, ?_⟩) ?_ ?_
          rotate_left
          ·intro w'
           go_simp
           with_reducible rfl
          rotate_left
          ·simp only [Act.put, jO, jT, jU, i64_w, i32_w]
           rfl
          refine done_ zr ?_
          try go_wp2_with (first | ((with_reducible refine jN (f := 66) rfl ?_); refine goesL_ (some 43) rfl rfl Try.func66 zr rfl #[.pointer (some ⟨g, 0, none⟩), .int .i64 3] rfl zm ?_; (with_reducible refine (spec_l01Next.calls g s0_0 t307 t308 3 t322 t323 t324 w0 _ ?side1 ?side2 A15.out).mono ?_); (case side1 => repeat (first | (with_reducible first | exact HI0.out | apply IsS91.alloc | apply IsS91.drewN | apply IsS91.drew | apply IsS91.set_1 | apply IsS91.set_2 | refine IsS91.far ?_ NB0_309.out _) | exact HI0.out)); (case side2 => repeat (first | (with_reducible first | exact HB.out | apply jM | apply jE | apply jI | refine jL ?_ (IsS91.ge HI0.out) | refine jL ?_ GE309.out) | exact HB.out)); rintro e w36 ⟨rfl, hi, hb, hk⟩; refine ⟨_, rfl, ?_⟩; have n0_ := jA (Kd.R_mono (Kd.R_keep (IsS91.apart (show IsS91 w0 _ g s0_0 t307 t308 from by repeat (first | (with_reducible first | exact HI0.out | apply IsS91.alloc | apply IsS91.drewN | apply IsS91.drew | apply IsS91.set_1 | apply IsS91.set_2 | refine IsS91.far ?_ NB0_309.out _) | exact HI0.out)) (zo HO_5) (by decide)) hk (fun _ h => h.2)) (fun _ h => h.1)); have n1_ := jA (Kd.R_mono (Kd.R_keep (IsS91.apart (show IsS91 w0 _ g s0_0 t307 t308 from by repeat (first | (with_reducible first | exact HI0.out | apply IsS91.alloc | apply IsS91.drewN | apply IsS91.drew | apply IsS91.set_1 | apply IsS91.set_2 | refine IsS91.far ?_ NB0_309.out _) | exact HI0.out)) (zo HO_7) (by decide)) hk (fun _ h => h.2)) (fun _ h => h.1)); have n2_ := jA (KeepBut.blk hk (g' := gb309) (o := .cells #[.int .i64 x8_1, .int .i64 t302, .int .i64 t306] 59 (0, 0)) (zk BK309) NB309_0.out (by simp)); have n3_ := jA (Kd.R_mono (Kd.R_keep (IsS91.apart (show IsS91 w0 _ g s0_0 t307 t308 from by repeat (first | (with_reducible first | exact HI0.out | apply IsS91.alloc | apply IsS91.drewN | apply IsS91.drew | apply IsS91.set_1 | apply IsS91.set_2 | refine IsS91.far ?_ NB0_309.out _) | exact HI0.out)) (zo HO318) (by decide)) hk (fun _ h => h.2)) (fun _ h => h.1)); have n4_ := jA (Kd.R_mono (Kd.R_keep (IsS91.apart (show IsS91 w0 _ g s0_0 t307 t308 from by repeat (first | (with_reducible first | exact HI0.out | apply IsS91.alloc | apply IsS91.drewN | apply IsS91.drew | apply IsS91.set_1 | apply IsS91.set_2 | refine IsS91.far ?_ NB0_309.out _) | exact HI0.out)) (zo HO321) (by decide)) hk (fun _ h => h.2)) (fun _ h => h.1)); have n5_ := jA (KeepBut.trans (zh1 HK GW309) hk (.inl rfl)); have n6_ := jA (hb); have n7_ := jA (hi); clear HO_5; clear HO_7; clear BK309; clear HO318; clear HO321; clear HK; clear HB; clear HI0; have HO_5 := n0_; have HO_7 := n1_; have BK309 := n2_; have HO318 := n3_; have HO321 := n4_; have HK := n5_; have HB := n6_; have HI0 := n7_; clear n0_ n1_ n2_ n3_ n4_ n5_ n6_ n7_; (try clear hb); (try clear hb2); (try clear hk); (try clear hi); obtain ⟨Ao37, co37, eo37⟩ := Kd.R_slice HO321.out; subst eo37) | (go_at_call 85; (with_reducible refine (spec_AreWires.calls k1 _ _ t291 t296 _ _ y319 true _ ?side1 ?side2 ?side3 ?side4 A17.out).mono ?_); (case side1 => repeat (first | exact (jJ HO_5.out).2.2 | (with_reducible refine jR ?_ _) | (with_reducible refine jQ ?_ _) | (with_reducible refine jS ?_))); (case side2 => exact (jJ HO_5.out).2.1); (case side3 => repeat (first | exact (jJ HO321.out).2.2 | (with_reducible refine jR ?_ _) | (with_reducible refine jQ ?_ _) | (with_reducible refine jS ?_))); (case side4 => exact (jJ HO321.out).2.1); rintro e w38 ⟨rfl, hb⟩; have n0_ := jA (jZ (zo HO_5) hb); have n1_ := jA (jZ (zo HO_7) hb); have n2_ := jA (jZ (zo HO318) hb); have n3_ := jA (jZ (zo HO321) hb); have n4_ := jA (IsS91.below (by repeat (first | (with_reducible first | exact HI0.out | apply IsS91.alloc | apply IsS91.drewN | apply IsS91.drew | apply IsS91.set_1 | apply IsS91.set_2 | refine IsS91.far ?_ NB0_309.out _) | exact HI0.out)) hb); have n5_ := jA (blk_below (g := gb309) (o := .cells #[.int .i64 x8_1, .int .i64 t302, .int .i64 t306] 59 (0, 0)) (zk BK309) hb); have n6_ := jA (KeepBut.trans (zh1 HK GW309) (KeepBut.of_below hb g none) (.inl rfl)); have n7_ := jA (jV (by repeat (first | (with_reducible first | exact HB.out | apply jM | apply jE | apply jI | refine jL ?_ (IsS91.ge HI0.out) | refine jL ?_ GE309.out) | exact HB.out)) hb); clear HO_5; clear HO_7; clear HO318; clear HO321; clear HI0; clear BK309; clear HK; clear HB; have HO_5 := n0_; have HO_7 := n1_; have HO318 := n2_; have HO321 := n3_; have HI0 := n4_; have BK309 := n5_; have HK := n6_; have HB := n7_; clear n0_ n1_ n2_ n3_ n4_ n5_ n6_ n7_; (try clear hb); (try clear hb2); (try clear hk); (try clear hi)))
          go_roundg k1
          case measure => have := HK1.out; omega
          case rel => exact ⟨(y319), (wrap64 (x8_1 + 1)), (t323), (t324), zz, H', ⟨by have := HK1.out; omega⟩, ⟨by (with_reducible repeat (first | apply jH | apply jG | apply jK)); exact HO_5.out⟩, ⟨by (with_reducible repeat (first | apply jH | apply jG | apply jK)); exact Kd.R_mono HO321.out (fun _ hk => trivial)⟩, ⟨by repeat (first | (with_reducible first | exact HI0.out | apply IsS91.alloc | apply IsS91.drewN | apply IsS91.drew | apply IsS91.set_1 | apply IsS91.set_2 | refine IsS91.far ?_ NB0_309.out _) | exact HI0.out)⟩, ⟨zh1 HK GW309⟩, ⟨by repeat (first | (with_reducible first | exact HB.out | apply jM | apply jE | apply jI | refine jL ?_ (IsS91.ge HI0.out) | refine jL ?_ GE309.out) | exact HB.out)⟩⟩
         ·replace c18 := Bool.eq_false_iff.mpr c18
          subst c18
          have H1 : (spec_l13Good.l0 k1 t291 t296 x7_1 (wrap64 (x8_1 + 1)) s0_0 t323 t324) = some (r1, r2, r3, r4, r5) := by rw [if_neg (show ¬ (false = true) by decide)] at H; exact H
          clear H
          have H := H1
          clear H1
          have H' := jA H
          clear H
          obtain ⟨Ao39, co39, eo39⟩ := Kd.R_slice HO_5.out
          subst eo39
          try go_wp2_with (first | ((with_reducible refine jN (f := 66) rfl ?_); refine goesL_ (some 25) rfl rfl Try.func66 zr rfl #[.pointer (some ⟨g, 0, none⟩), .int .i64 (t291.length : Int)] rfl zm ?_; (with_reducible refine (spec_l01Next.calls g s0_0 x1001_1 x1002_1 (t291.length : Int) t302 t303 t304 w0 _ ?side1 ?side2 A9.out).mono ?_); (case side1 => repeat (first | (with_reducible first | exact HI0.out | apply IsS91.alloc | apply IsS91.drewN | apply IsS91.drew | apply IsS91.set_1 | apply IsS91.set_2) | exact HI0.out)); (case side2 => repeat (first | (with_reducible first | exact HB.out | apply jM | apply jE | apply jI | refine jL ?_ (IsS91.ge HI0.out)) | exact HB.out)); rintro e w40 ⟨rfl, hi, hb, hk⟩; refine ⟨_, rfl, ?_⟩; have n0_ := jA (Kd.R_mono (Kd.R_keep (IsS91.apart (show IsS91 w0 _ g s0_0 x1001_1 x1002_1 from by repeat (first | (with_reducible first | exact HI0.out | apply IsS91.alloc | apply IsS91.drewN | apply IsS91.drew | apply IsS91.set_1 | apply IsS91.set_2) | exact HI0.out)) (zo HO_5) (by decide)) hk (fun _ h => h.2)) (fun _ h => h.1)); have n1_ := jA (Kd.R_mono (Kd.R_keep (IsS91.apart (show IsS91 w0 _ g s0_0 x1001_1 x1002_1 from by repeat (first | (with_reducible first | exact HI0.out | apply IsS91.alloc | apply IsS91.drewN | apply IsS91.drew | apply IsS91.set_1 | apply IsS91.set_2) | exact HI0.out)) (zo HO_7) (by decide)) hk (fun _ h => h.2)) (fun _ h => h.1)); have n2_ := jA (KeepBut.trans (zh0 HK) hk (.inl rfl)); have n3_ := jA (hb); have n4_ := jA (hi); clear HO_5; clear HO_7; clear HK; clear HB; clear HI0; have HO_5 := n0_; have HO_7 := n1_; have HK := n2_; have HB := n3_; have HI0 := n4_; clear n0_ n1_ n2_ n3_ n4_; (try clear hb); (try clear hb2); (try clear hk); (try clear hi); have p305 : 0 ≤ (t302 : Int) := jB za; have q305 : t302 < (t291.length : Int) := jB za; obtain ⟨ad305, e305, hx305_0, hx305_1⟩ := at_T63 (jJ HO_5.out).2.2 t302 p305 q305; cases e305; replace p305 := eq_true p305; replace q305 := eq_true q305) | ((with_reducible refine jN (f := 66) rfl ?_); refine goesL_ (some 34) rfl rfl Try.func66 zr rfl #[.pointer (some ⟨g, 0, none⟩), .int .i64 ((rd_T63 t291 t302).f1)] rfl zm ?_; (with_reducible refine (spec_l01Next.calls g s0_0 t303 t304 ((rd_T63 t291 t302).f1) t306 t307 t308 w0 _ ?side1 ?side2 A12.out).mono ?_); (case side1 => repeat (first | (with_reducible first | exact HI0.out | apply IsS91.alloc | apply IsS91.drewN | apply IsS91.drew | apply IsS91.set_1 | apply IsS91.set_2) | exact HI0.out)); (case side2 => repeat (first | (with_reducible first | exact HB.out | apply jM | apply jE | apply jI | refine jL ?_ (IsS91.ge HI0.out)) | exact HB.out)); rintro e w41 ⟨rfl, hi, hb, hk⟩; refine ⟨_, rfl, ?_⟩; have n0_ := jA (Kd.R_mono (Kd.R_keep (IsS91.apart (show IsS91 w0 _ g s0_0 t303 t304 from by repeat (first | (with_reducible first | exact HI0.out | apply IsS91.alloc | apply IsS91.drewN | apply IsS91.drew | apply IsS91.set_1 | apply IsS91.set_2) | exact HI0.out)) (zo HO_5) (by decide)) hk (fun _ h => h.2)) (fun _ h => h.1)); have n1_ := jA (Kd.R_mono (Kd.R_keep (IsS91.apart (show IsS91 w0 _ g s0_0 t303 t304 from by repeat (first | (with_reducible first | exact HI0.out | apply IsS91.alloc | apply IsS91.drewN | apply IsS91.drew | apply IsS91.set_1 | apply IsS91.set_2) | exact HI0.out)) (zo HO_7) (by decide)) hk (fun _ h => h.2)) (fun _ h => h.1)); have n2_ := jA (KeepBut.trans (zh0 HK) hk (.inl rfl)); have n3_ := jA (hb); have n4_ := jA (hi); clear HO_5; clear HO_7; clear HK; clear HB; clear HI0; have HO_5 := n0_; have HO_7 := n1_; have HK := n2_; have HB := n3_; have HI0 := n4_; clear n0_ n1_ n2_ n3_ n4_; (try clear hb); (try clear hb2); (try clear hk); (try clear hi)) | ((with_reducible refine gate_dst (N := 10) rfl ?_); refine box_event ?hg (N := 10) ?hd (cs := #[.int .i64 0, .int .i64 0, .int .i64 0]) (t := 59) ?hr ?_; (case hd => rfl); (case hg => rfl); (case hr => first | (go_simp; done) | (go_simp; rfl)); intro gb309 hg w42 hbox hb; have n0_ := jA (jZ (zo HO_5) hb); have n1_ := jA (jZ (Kd.R_elderB (zo HO_7) gb309 (Nat.le_of_eq hg.symm)) hb); have n2_ := jA (IsS91.below (by repeat (first | (with_reducible first | exact HI0.out | apply IsS91.alloc | apply IsS91.drewN | apply IsS91.drew | apply IsS91.set_1 | apply IsS91.set_2) | exact HI0.out)) hb); have n3_ := jA (KeepBut.trans (zh0 HK) (KeepBut.of_below hb g none) (.inl rfl)); have n4_ := jA (jV (by repeat (first | (with_reducible first | exact HB.out | apply jM | apply jE | apply jI | refine jL ?_ (IsS91.ge HI0.out)) | exact HB.out)) hb); have n5_ := jA (hbox); have n6_ := jA ((by rw [hg]; exact (keep_size (w := w) (g := g) (row := none) (zh0 HK)) : w.heap.size ≤ gb309)); have n7_ := jA ((Nat.le_trans HW0.out (by rw [hg]; exact (keep_size (w := w) (g := g) (row := none) (zh0 HK)) : w.heap.size ≤ gb309) : w0.heap.size ≤ gb309)); have n8_ := jA ((by rw [hg]; exact Nat.ne_of_lt (IsS91.lt (show IsS91 w0 _ g s0_0 t307 t308 from by repeat (first | (with_reducible first | exact HI0.out | apply IsS91.alloc | apply IsS91.drewN | apply IsS91.drew | apply IsS91.set_1 | apply IsS91.set_2) | exact HI0.out))) : g ≠ gb309)); have n9_ := jA ((by rw [hg]; exact Nat.ne_of_gt (IsS91.lt (show IsS91 w0 _ g s0_0 t307 t308 from by repeat (first | (with_reducible first | exact HI0.out | apply IsS91.alloc | apply IsS91.drewN | apply IsS91.drew | apply IsS91.set_1 | apply IsS91.set_2) | exact HI0.out))) : gb309 ≠ g)); clear HO_5; clear HO_7; clear HI0; clear HK; clear HB; have HO_5 := n0_; have HO_7 := n1_; have HI0 := n2_; have HK := n3_; have HB := n4_; have BK309 := n5_; have GW309 := n6_; have GE309 := n7_; have NB0_309 := n8_; have NB309_0 := n9_; clear n0_ n1_ n2_ n3_ n4_ n5_ n6_ n7_ n8_ n9_; clear hb hbox hg; have hnb43 := NB309_0.out; have hnc43 := NB0_309.out; have hcz44_0 : w42.cell? ⟨gb309, 0, none⟩ = some (.int .i64 0) := (jF BK309.out 0).trans rfl; have hcz44_1 : w42.cell? ⟨gb309, 1, none⟩ = some (.int .i64 0) := (jF BK309.out 1).trans rfl; have hcz44_2 : w42.cell? ⟨gb309, 2, none⟩ = some (.int .i64 0) := (jF BK309.out 2).trans rfl; have hfz44_0 := jX BK309.out 0; have hfz44_1 := jX BK309.out 1; have hfz44_2 := jX BK309.out 2; obtain ⟨Ao45, co45, eo45⟩ := Kd.R_slice HO_7.out; subst eo45))
          have n0_ : Aside0 (Kd.R k63 63 (((w42.setCell ⟨gb309, 0, none⟩ (.int .i64 x8_1)).setCell ⟨gb309, 1, none⟩ (.int .i64 t302)).setCell ⟨gb309, 2, none⟩ (.int .i64 t306)) w.heap.size (fun _ => True) (.slice (some ad305) t291.length co39) t291) := ⟨by (with_reducible repeat (first | apply jH | apply jG | apply jK)); exact Kd.R_mono (Kd.R_far (p := ⟨gb309, 2, none⟩) (Kd.R_far (p := ⟨gb309, 1, none⟩) (Kd.R_far (p := ⟨gb309, 0, none⟩) (Kd.R_types HO_5.out BK309.out (by decide)) (fun _ hk => hk.2) (.int .i64 x8_1)) (fun _ hk => hk.2) (.int .i64 t302)) (fun _ hk => hk.2) (.int .i64 t306)) (fun _ hk => trivial)⟩
          have n1_ : Aside0 (Kd.R k59 59 (((w42.setCell ⟨gb309, 0, none⟩ (.int .i64 x8_1)).setCell ⟨gb309, 1, none⟩ (.int .i64 t302)).setCell ⟨gb309, 2, none⟩ (.int .i64 t306)) w.heap.size (fun k_ => k_ ≠ gb309) (.slice Ao45 x7_1.length co45) x7_1) := ⟨by (with_reducible repeat (first | apply jH | apply jG | apply jK)); exact Kd.R_mono (Kd.R_far (p := ⟨gb309, 2, none⟩) (Kd.R_far (p := ⟨gb309, 1, none⟩) (Kd.R_far (p := ⟨gb309, 0, none⟩) (Kd.R_mono HO_7.out (fun k_ hk => (⟨hk, hk.2⟩ : _ ∧ k_ ≠ gb309))) (fun _ hk => hk.2) (.int .i64 x8_1)) (fun _ hk => hk.2) (.int .i64 t302)) (fun _ hk => hk.2) (.int .i64 t306)) (fun _ hk => hk.1.2)⟩
          have n2_ : Aside0 ((((w42.setCell ⟨gb309, 0, none⟩ (.int .i64 x8_1)).setCell ⟨gb309, 1, none⟩ (.int .i64 t302)).setCell ⟨gb309, 2, none⟩ (.int .i64 t306)).heap[gb309]? = some (.cells #[.int .i64 x8_1, .int .i64 t302, .int .i64 t306] 59 (0, 0))) := ⟨by (with_reducible repeat (first | refine jc ?_ _ | refine jb ?_ | refine jd ?_ _)); refine blk_put (cs := #[.int .i64 x8_1, .int .i64 t302, .int .i64 0]) ?_ 2 _ rfl; (with_reducible repeat (first | refine jc ?_ _ | refine jb ?_ | refine jd ?_ _)); refine blk_put (cs := #[.int .i64 x8_1, .int .i64 0, .int .i64 0]) ?_ 1 _ rfl; (with_reducible repeat (first | refine jc ?_ _ | refine jb ?_ | refine jd ?_ _)); refine blk_put (cs := #[.int .i64 0, .int .i64 0, .int .i64 0]) ?_ 0 _ rfl; (with_reducible repeat (first | refine jc ?_ _ | refine jb ?_ | refine jd ?_ _)); exact BK309.out⟩
          have n3_ : Aside0 (IsS91 w0 (((w42.setCell ⟨gb309, 0, none⟩ (.int .i64 x8_1)).setCell ⟨gb309, 1, none⟩ (.int .i64 t302)).setCell ⟨gb309, 2, none⟩ (.int .i64 t306)) g s0_0 t307 t308) := ⟨by repeat (first | (with_reducible first | exact HI0.out | apply IsS91.alloc | apply IsS91.drewN | apply IsS91.drew | apply IsS91.set_1 | apply IsS91.set_2 | refine IsS91.far ?_ NB0_309.out _) | exact HI0.out)⟩
          have n4_ : Aside0 (KeepBut w (((w42.setCell ⟨gb309, 0, none⟩ (.int .i64 x8_1)).setCell ⟨gb309, 1, none⟩ (.int .i64 t302)).setCell ⟨gb309, 2, none⟩ (.int .i64 t306)) g none) := ⟨zh1 HK GW309⟩
          have n5_ : Aside0 (Below w0.heap.size w0 (((w42.setCell ⟨gb309, 0, none⟩ (.int .i64 x8_1)).setCell ⟨gb309, 1, none⟩ (.int .i64 t302)).setCell ⟨gb309, 2, none⟩ (.int .i64 t306))) := ⟨by repeat (first | (with_reducible first | exact HB.out | apply jM | apply jE | apply jI | refine jL ?_ (IsS91.ge HI0.out) | refine jL ?_ GE309.out) | exact HB.out)⟩
          (try clear HO_5)
          (try clear HO_7)
          (try clear BK309)
          (try clear HI0)
          (try clear HK)
          (try clear HB)
          generalize (((w42.setCell ⟨gb309, 0, none⟩ (.int .i64 x8_1)).setCell ⟨gb309, 1, none⟩ (.int .i64 t302)).setCell ⟨gb309, 2, none⟩ (.int .i64 t306)) = w46 at n0_ n1_ n2_ n3_ n4_ n5_ ⊢
          have HO_5 := n0_
          have HO_7 := n1_
          have BK309 := n2_
          have HI0 := n3_
          have HK := n4_
          have HB := n5_
          clear n0_ n1_ n2_ n3_ n4_ n5_
          have n0_ := jA (jK HO_5.out)
          have n1_ := jA (jK HO_7.out)
          have n2_ := jA (jb BK309.out)
          have n3_ := jA (IsS91.drew HI0.out)
          have n4_ := jA (keep_drew HK.out)
          have n5_ := jA (jI HB.out)
          clear HO_5
          clear HO_7
          clear BK309
          clear HI0
          clear HK
          clear HB
          have HO_5 := n0_
          have HO_7 := n1_
          have BK309 := n2_
          have HI0 := n3_
          have HK := n4_
          have HB := n5_
          clear n0_ n1_ n2_ n3_ n4_ n5_
          refine start_ (n := 7) (S := fun w' => w'.cell? ⟨gb309, 0, none⟩ = some (.int .i64 x8_1) ∧ w'.cell? ⟨gb309, 1, none⟩ = some (.int .i64 t302) ∧ w'.cell? ⟨gb309, 2, none⟩ = some (.int .i64 t306)) (ds := []) m7_0 zr rfl rfl ⟨(jF BK309.out 0).trans rfl, (jF BK309.out 1).trans rfl, (jF BK309.out 2).trans rfl⟩ (fun hHeld => ?_)
          generalize w46.drew = w47 at HO_5 HO_7 BK309 HI0 HK HB hHeld ⊢
          refine pure_ (i := 1) (N := some 37) (v := ?_) (a' := ?_) m7_20 rfl rfl zr (fun _ _ _ h => h) (Or.inl ⟨by rfl, ?_⟩) ?_ ?_
          rotate_left
          ·intro w'
           go_simp
           with_reducible rfl
          rotate_left
          ·simp only [Act.put, jO, jT, jU, i64_w, i32_w]
           rfl
          refine take_ (i := 3) (N := some 39) (v := ?_) (a' := ?_) m7_28 rfl rfl zr (fun _ _ _ h => h) (Or.inl ⟨by rfl, ?_⟩) hHeld ?_ ?_
          rotate_left
          ·rintro w' ⟨s0, s1, s2⟩
           go_simp
           with_reducible rfl
          rotate_left
          ·simp only [Act.put, jO, jT, jU, i64_w, i32_w]
           rfl
          refine join_ (σ := Value × Value × Value) 2 m7_7c (fun s_ => [(36, s_.1), (38, s_.2.1), (40, s_.2.2)]) (fun s_ w' => (w'.cell? ⟨gb309, 0, none⟩ = some (.int .i64 x8_1) ∧ w'.cell? ⟨gb309, 1, none⟩ = some (.int .i64 t302) ∧ w'.cell? ⟨gb309, 2, none⟩ = some (.int .i64 t306)) ∧ (Kd.R k59 59 w' w.heap.size (fun k_ => some k_ ≠ (s_.2.2 : Value).ownBlock ∧ some k_ ≠ (.slice Ao45 x7_1.length co45 : Value).ownBlock ∧ k_ ≠ gb309) s_.2.1 y313) ∧ (Kd.R k59 59 w' w.heap.size (fun k_ => some k_ ≠ (s_.2.1 : Value).ownBlock ∧ some k_ ≠ (.slice Ao45 x7_1.length co45 : Value).ownBlock ∧ k_ ≠ gb309) s_.2.2 y316) ∧ (Kd.R k63 63 w' w.heap.size (fun _ => True) (.slice (some ad305) t291.length co39) t291) ∧ (Kd.R k59 59 w' w.heap.size (fun k_ => some k_ ≠ (s_.2.1 : Value).ownBlock ∧ some k_ ≠ (s_.2.2 : Value).ownBlock ∧ k_ ≠ gb309) (.slice Ao45 x7_1.length co45) x7_1) ∧ (w'.heap[gb309]? = some (.cells #[.int .i64 x8_1, .int .i64 t302, .int .i64 t306] 59 (0, 0))) ∧ (IsS91 w0 w' g s0_0 t307 t308) ∧ (KeepBut w w' g none) ∧ (Below w0.heap.size w0 w')) ?_ ?_
          rotate_left
          ·intro hCont
           refine two_ (i := 0) (j := 4) (Ni := some 36) (Nj := some 40) m7_68 m7_2c rfl rfl rfl rfl zr (by decide) (by decide) (fun K hK => ?_) (fun K hK => ?_)
           ·skip
            refine Kd.R_lit_step k59 _ 59 ?hg (N := 36) ?hd (xs := ([] : List (S59))) (inner := []) (ok := fun _ => True) (okp := fun _ => True) ?hr ?hp (fun _ hk => hk) trivial (Below.refl _ _) (Nat.le_refl _) (by simp) ?_; (case hd => rfl); (case hg => rfl); (case hr => first | (go_simp; done) | (go_simp; rfl)); (case hp => exact (Reps.none _ _))
            intro v311 w48 ho49 hb hg_ hnew_
            clear hg_ hnew_
            (first | rw [← Ny310.out] at ho49 | (simp only [Int.reduceToNat] at ho49; rw [← Ny310.out] at ho49))
            have n0_ := jA (jZ (zo HO_5) hb)
            have n1_ := jA (Kd.R_elder' (zo HO_7) (Kd.R_base ho49) hb)
            have n2_ := jA (jf (Kd.R_newB (Kd.R_new' ho49 (Kd.R_lt (zo HO_7))) (g := gb309) (o := .cells #[.int .i64 x8_1, .int .i64 t302, .int .i64 t306] 59 (0, 0)) (zk BK309)) (keep_size (w := w) (g := g) (row := none) (zh1 HK GW309)))
            have n3_ := jA (IsS91.below (by repeat (first | (with_reducible first | exact HI0.out | apply IsS91.alloc | apply IsS91.drewN | apply IsS91.drew | apply IsS91.set_1 | apply IsS91.set_2 | refine IsS91.far ?_ NB0_309.out _) | exact HI0.out)) hb)
            have n4_ := jA (blk_below (g := gb309) (o := .cells #[.int .i64 x8_1, .int .i64 t302, .int .i64 t306] 59 (0, 0)) (zk BK309) hb)
            have n5_ := jA (KeepBut.trans (zh1 HK GW309) (KeepBut.of_below hb g none) (.inl rfl))
            have n6_ := jA (jV (by repeat (first | (with_reducible first | exact HB.out | apply jM | apply jE | apply jI | refine jL ?_ (IsS91.ge HI0.out) | refine jL ?_ GE309.out) | exact HB.out)) hb)
            clear HO_5
            clear HO_7
            clear HI0
            clear BK309
            clear HK
            clear HB
            have HO_5 := n0_
            have HO_7 := n1_
            have HO312 := n2_
            have HI0 := n3_
            have BK309 := n4_
            have HK := n5_
            have HB := n6_
            clear n0_ n1_ n2_ n3_ n4_ n5_ n6_
            clear hb ho49
            refine hK.out _ _ ⟨(jF BK309.out 0).trans rfl, (jF BK309.out 1).trans rfl, (jF BK309.out 2).trans rfl⟩ (fun hHeld => ?_)
            clear hK K
            refine norm_ (a' := ?_) ?_ ?_
            rotate_left
            ·show Act.put _ (some 36) _ = _
             simp only [Act.put, jO, jT, jU, i64_w, i32_w]
             rfl
            refine two_ (i := 2) (j := 4) (Ni := some 38) (Nj := some 40) m7_78 m7_6c rfl rfl rfl rfl zr (by decide) (by decide) (fun K hK => ?_) (fun K hK => ?_)
            ·skip
             refine Kd.R_append_rows_step k59 w.heap.size (by rfl) (.tmp 36) (.tmp 37) 50 59 (.agg #[(.int .i64 0), (.int .i64 0), (.int .i64 0)]) 24 rfl Try.underlying50 info59 rfl (by decide) (by omega) v311 y310 x7_1 _ _ _ (fun k_ => some k_ ≠ (.slice Ao45 x7_1.length co45 : Value).ownBlock ∧ k_ ≠ gb309) (fun _ => False) rfl rfl ?aO ?aR (fun _ _ h => h) (fun _ h => h.elim) ?aF (Below.refl _ _) ?aS ?aL ?_
             (case aR => repeat (first | exact (jJ HO_7.out).2.2 | (with_reducible refine jR ?_ _) | (with_reducible refine jQ ?_ _) | (with_reducible refine jS ?_)))
             (case aF => exact (fun k_ hk => ⟨Kd.fresh' (Kd.R_lt (zo HO_7)) k_ hk, Kd.freshB (g := gb309) (o := .cells #[.int .i64 x8_1, .int .i64 t302, .int .i64 t306] 59 (0, 0)) (zk BK309) k_ hk⟩))
             (case aO => exact (by (with_reducible repeat (first | apply jH | apply jG | apply jK)); exact Kd.R_mono HO312.out (fun _ hk => ⟨hk.1.2, hk.2⟩)))
             (case aS => exact (keep_size (w := w) (g := g) (row := none) (zh1 HK GW309)))
             (case aL => have := LMc13.out; omega)
             intro v314 w50 ho hb hg hat
             rw [← Ny313.out] at ho
             have n0_ := jA (Kd.R_over' (zo HO_5) (Kd.R_typed (zo HO312)) (by decide) hg)
             have n1_ := jA (Kd.R_after (ok := (fun k_ => k_ ≠ gb309)) (zo HO_7) hg hat)
             have n2_ := jA (IsS91.grown (by repeat (first | (with_reducible first | exact HI0.out | apply IsS91.alloc | apply IsS91.drewN | apply IsS91.drew | apply IsS91.set_1 | apply IsS91.set_2 | refine IsS91.far ?_ NB0_309.out _) | exact HI0.out)) hg (IsS91.own_ne HI0.out HO312.out (by decide)))
             have n3_ := jA (blk_grown (g := gb309) (o := .cells #[.int .i64 x8_1, .int .i64 t302, .int .i64 t306] 59 (0, 0)) (zk BK309) hg (Kd.R_away HO312.out (fun _ hk => hk.2)))
             have n4_ := jA (below_weaken (by repeat (first | (with_reducible first | exact HB.out | apply jM | apply jE | apply jI | refine jL ?_ (IsS91.ge HI0.out) | refine jL ?_ GE309.out) | exact HB.out)) HL.out hb)
             have n5_ := jA (KeepBut.trans (zh1 HK GW309) (KeepBut.of_grown hg g) (Kd.R_base2 HO312.out))
             have n6_ := jA (ho)
             clear HO_5
             clear HO_7
             clear HI0
             clear BK309
             clear HB
             clear HK
             clear HO312
             have HO_5 := n0_
             have HO_7 := n1_
             have HI0 := n2_
             have BK309 := n3_
             have HB := n4_
             have HK := n5_
             have HO315 := n6_
             clear n0_ n1_ n2_ n3_ n4_ n5_ n6_
             clear ho hb hg hat
             refine hK.out _ _ ⟨(jF BK309.out 0).trans rfl, (jF BK309.out 1).trans rfl, (jF BK309.out 2).trans rfl⟩ (fun hHeld => ?_)
             clear hK K
             refine norm_ (a' := ?_) ?_ ?_
             rotate_left
             ·show Act.put _ (some 38) _ = _
              simp only [Act.put, jO, jT, jU, i64_w, i32_w]
              rfl
             refine one_ (i := 4) (N := some 40) m7_7c rfl rfl zr (by decide) (fun K hK => ?_)
             refine Kd.R_lit_step k59 _ 59 ?hg (N := 40) ?hd (xs := ([(⟨x8_1, t302, t306⟩ : S59)] : List (S59))) (inner := [.int .i64 x8_1, .int .i64 t302, .int .i64 t306]) (ok := fun _ => True) (okp := fun _ => True) ?hr ?hp (fun _ hk => hk) trivial (Below.refl _ _) (Nat.le_refl _) (by simp) ?_; (case hd => rfl); (case hg => rfl); (case hr => first | (go_simp; done) | (go_simp; rfl)); (case hp => exact (Reps.c3 (show Kd.M k59 _ _ _ (⟨x8_1, t302, t306⟩ : S59) [.int .i64 x8_1, .int .i64 t302, .int .i64 t306] from (k59_mkM _ _ _ (⟨x8_1, t302, t306⟩ : S59) )) (Reps.none _ _)))
             intro v317 w51 ho52 hb hg_ hnew_
             clear hg_ hnew_
             (first | rw [← Ny316.out] at ho52 | (simp only [Int.reduceToNat] at ho52; rw [← Ny316.out] at ho52))
             have n0_ := jA (jZ (zo HO_5) hb)
             have n1_ := jA (Kd.R_elder' (zo HO_7) (Kd.R_base ho52) hb)
             have n2_ := jA (Kd.R_elder' (zo HO315) (Kd.R_base ho52) hb)
             have n3_ := jA (jf (Kd.R_newB (Kd.R_new' (Kd.R_new' ho52 (Kd.R_lt (zo HO_7))) (Kd.R_lt (zo HO315))) (g := gb309) (o := .cells #[.int .i64 x8_1, .int .i64 t302, .int .i64 t306] 59 (0, 0)) (zk BK309)) (keep_size (w := w) (g := g) (row := none) (zh1 HK GW309)))
             have n4_ := jA (IsS91.below (by repeat (first | (with_reducible first | exact HI0.out | apply IsS91.alloc | apply IsS91.drewN | apply IsS91.drew | apply IsS91.set_1 | apply IsS91.set_2 | refine IsS91.far ?_ NB0_309.out _) | exact HI0.out)) hb)
             have n5_ := jA (blk_below (g := gb309) (o := .cells #[.int .i64 x8_1, .int .i64 t302, .int .i64 t306] 59 (0, 0)) (zk BK309) hb)
             have n6_ := jA (KeepBut.trans (zh1 HK GW309) (KeepBut.of_below hb g none) (.inl rfl))
             have n7_ := jA (jV (by repeat (first | (with_reducible first | exact HB.out | apply jM | apply jE | apply jI | refine jL ?_ (IsS91.ge HI0.out) | refine jL ?_ GE309.out) | exact HB.out)) hb)
             clear HO_5
             clear HO_7
             clear HO315
             clear HI0
             clear BK309
             clear HK
             clear HB
             have HO_5 := n0_
             have HO_7 := n1_
             have HO315 := n2_
             have HO318 := n3_
             have HI0 := n4_
             have BK309 := n5_
             have HK := n6_
             have HB := n7_
             clear n0_ n1_ n2_ n3_ n4_ n5_ n6_ n7_
             clear hb ho52
             refine hK.out _ _ ⟨(jF BK309.out 0).trans rfl, (jF BK309.out 1).trans rfl, (jF BK309.out 2).trans rfl⟩ (fun hHeld => ?_)
             clear hK K
             refine norm_ (a' := ?_) ?_ ?_
             rotate_left
             ·show Act.put _ (some 40) _ = _
              simp only [Act.put, jO, jT, jU, i64_w, i32_w]
              rfl
             exact norm_ (by simp only [putAll, Act.put, jO, jT, jU]) (hCont (v311, v314, v317) _ ⟨hHeld, (by (with_reducible repeat (first | apply jH | apply jG | apply jK)); exact Kd.R_mono HO315.out (fun _ hk => ⟨hk.2, ⟨hk.1.1, hk.1.2⟩⟩)), (by (with_reducible repeat (first | apply jH | apply jG | apply jK)); exact Kd.R_mono HO318.out (fun _ hk => ⟨hk.1.2, ⟨hk.1.1.2, hk.2⟩⟩)), (zo HO_5), (by (with_reducible repeat (first | apply jH | apply jG | apply jK)); exact Kd.R_mono HO_7.out (fun _ hk => ⟨hk.1.2, ⟨hk.2, hk.1.1⟩⟩)), (zk BK309), (by repeat (first | (with_reducible first | exact HI0.out | apply IsS91.alloc | apply IsS91.drewN | apply IsS91.drew | apply IsS91.set_1 | apply IsS91.set_2 | refine IsS91.far ?_ NB0_309.out _) | exact HI0.out)), (zh1 HK GW309), (by repeat (first | (with_reducible first | exact HB.out | apply jM | apply jE | apply jI | refine jL ?_ (IsS91.ge HI0.out) | refine jL ?_ GE309.out) | exact HB.out))⟩)
            ·skip
             refine Kd.R_lit_step k59 _ 59 ?hg (N := 40) ?hd (xs := ([(⟨x8_1, t302, t306⟩ : S59)] : List (S59))) (inner := [.int .i64 x8_1, .int .i64 t302, .int .i64 t306]) (ok := fun _ => True) (okp := fun _ => True) ?hr ?hp (fun _ hk => hk) trivial (Below.refl _ _) (Nat.le_refl _) (by simp) ?_; (case hd => rfl); (case hg => rfl); (case hr => first | (go_simp; done) | (go_simp; rfl)); (case hp => exact (Reps.c3 (show Kd.M k59 _ _ _ (⟨x8_1, t302, t306⟩ : S59) [.int .i64 x8_1, .int .i64 t302, .int .i64 t306] from (k59_mkM _ _ _ (⟨x8_1, t302, t306⟩ : S59) )) (Reps.none _ _)))
             intro v317 w50 ho51 hb hg_ hnew_
             clear hg_ hnew_
             (first | rw [← Ny316.out] at ho51 | (simp only [Int.reduceToNat] at ho51; rw [← Ny316.out] at ho51))
             have n0_ := jA (jZ (zo HO_5) hb)
             have n1_ := jA (Kd.R_elder' (zo HO_7) (Kd.R_base ho51) hb)
             have n2_ := jA (Kd.R_elder' (zo HO312) (Kd.R_base ho51) hb)
             have n3_ := jA (jf (Kd.R_newB (Kd.R_new' (Kd.R_new' ho51 (Kd.R_lt (zo HO_7))) (Kd.R_lt (zo HO312))) (g := gb309) (o := .cells #[.int .i64 x8_1, .int .i64 t302, .int .i64 t306] 59 (0, 0)) (zk BK309)) (keep_size (w := w) (g := g) (row := none) (zh1 HK GW309)))
             have n4_ := jA (IsS91.below (by repeat (first | (with_reducible first | exact HI0.out | apply IsS91.alloc | apply IsS91.drewN | apply IsS91.drew | apply IsS91.set_1 | apply IsS91.set_2 | refine IsS91.far ?_ NB0_309.out _) | exact HI0.out)) hb)
             have n5_ := jA (blk_below (g := gb309) (o := .cells #[.int .i64 x8_1, .int .i64 t302, .int .i64 t306] 59 (0, 0)) (zk BK309) hb)
             have n6_ := jA (KeepBut.trans (zh1 HK GW309) (KeepBut.of_below hb g none) (.inl rfl))
             have n7_ := jA (jV (by repeat (first | (with_reducible first | exact HB.out | apply jM | apply jE | apply jI | refine jL ?_ (IsS91.ge HI0.out) | refine jL ?_ GE309.out) | exact HB.out)) hb)
             clear HO_5
             clear HO_7
             clear HO312
             clear HI0
             clear BK309
             clear HK
             clear HB
             have HO_5 := n0_
             have HO_7 := n1_
             have HO312 := n2_
             have HO318 := n3_
             have HI0 := n4_
             have BK309 := n5_
             have HK := n6_
             have HB := n7_
             clear n0_ n1_ n2_ n3_ n4_ n5_ n6_ n7_
             clear hb ho51
             refine hK.out _ _ ⟨(jF BK309.out 0).trans rfl, (jF BK309.out 1).trans rfl, (jF BK309.out 2).trans rfl⟩ (fun hHeld => ?_)
             clear hK K
             refine norm_ (a' := ?_) ?_ ?_
             rotate_left
             ·show Act.put _ (some 40) _ = _
              simp only [Act.put, jO, jT, jU, i64_w, i32_w]
              rfl
             refine one_ (i := 2) (N := some 38) m7_7c rfl rfl zr (by decide) (fun K hK => ?_)
             refine Kd.R_append_rows_step k59 w.heap.size (by rfl) (.tmp 36) (.tmp 37) 50 59 (.agg #[(.int .i64 0), (.int .i64 0), (.int .i64 0)]) 24 rfl Try.underlying50 info59 rfl (by decide) (by omega) v311 y310 x7_1 _ _ _ (fun k_ => some k_ ≠ (.slice Ao45 x7_1.length co45 : Value).ownBlock ∧ some k_ ≠ (v317 : Value).ownBlock ∧ k_ ≠ gb309) (fun _ => False) rfl rfl ?aO ?aR (fun _ _ h => h) (fun _ h => h.elim) ?aF (Below.refl _ _) ?aS ?aL ?_
             (case aR => repeat (first | exact (jJ HO_7.out).2.2 | (with_reducible refine jR ?_ _) | (with_reducible refine jQ ?_ _) | (with_reducible refine jS ?_)))
             (case aF => exact (fun k_ hk => ⟨Kd.fresh' (Kd.R_lt (zo HO_7)) k_ hk, Kd.fresh' (Kd.R_lt (zo HO318)) k_ hk, Kd.freshB (g := gb309) (o := .cells #[.int .i64 x8_1, .int .i64 t302, .int .i64 t306] 59 (0, 0)) (zk BK309) k_ hk⟩))
             (case aO => exact (by (with_reducible repeat (first | apply jH | apply jG | apply jK)); exact Kd.R_mono HO312.out (fun _ hk => ⟨hk.1.1.2, ⟨hk.2, hk.1.2⟩⟩)))
             (case aS => exact (keep_size (w := w) (g := g) (row := none) (zh1 HK GW309)))
             (case aL => have := LMc13.out; omega)
             intro v314 w52 ho hb hg hat
             rw [← Ny313.out] at ho
             have n0_ := jA (Kd.R_over' (zo HO_5) (Kd.R_typed (zo HO312)) (by decide) hg)
             have n1_ := jA (Kd.R_after (ok := (fun k_ => some k_ ≠ (v317 : Value).ownBlock ∧ k_ ≠ gb309)) (by (with_reducible repeat (first | apply jH | apply jG | apply jK)); exact Kd.R_mono HO_7.out (fun _ hk => ⟨⟨hk.2, hk.1.1⟩, hk.1.2⟩)) hg hat)
             have n2_ := jA (IsS91.grown (by repeat (first | (with_reducible first | exact HI0.out | apply IsS91.alloc | apply IsS91.drewN | apply IsS91.drew | apply IsS91.set_1 | apply IsS91.set_2 | refine IsS91.far ?_ NB0_309.out _) | exact HI0.out)) hg (IsS91.own_ne HI0.out HO312.out (by decide)))
             have n3_ := jA (blk_grown (g := gb309) (o := .cells #[.int .i64 x8_1, .int .i64 t302, .int .i64 t306] 59 (0, 0)) (zk BK309) hg (Kd.R_away HO312.out (fun _ hk => hk.1.2)))
             have n4_ := jA (Kd.R_after (ok := (fun k_ => some k_ ≠ (.slice Ao45 x7_1.length co45 : Value).ownBlock ∧ k_ ≠ gb309)) (by (with_reducible repeat (first | apply jH | apply jG | apply jK)); exact Kd.R_mono HO318.out (fun _ hk => ⟨⟨hk.1.1.2, hk.2⟩, hk.1.2⟩)) hg hat)
             have n5_ := jA (below_weaken (by repeat (first | (with_reducible first | exact HB.out | apply jM | apply jE | apply jI | refine jL ?_ (IsS91.ge HI0.out) | refine jL ?_ GE309.out) | exact HB.out)) HL.out hb)
             have n6_ := jA (KeepBut.trans (zh1 HK GW309) (KeepBut.of_grown hg g) (Kd.R_base2 HO312.out))
             have n7_ := jA (ho)
             clear HO_5
             clear HO_7
             clear HI0
             clear BK309
             clear HO318
             clear HB
             clear HK
             clear HO312
             have HO_5 := n0_
             have HO_7 := n1_
             have HI0 := n2_
             have BK309 := n3_
             have HO318 := n4_
             have HB := n5_
             have HK := n6_
             have HO315 := n7_
             clear n0_ n1_ n2_ n3_ n4_ n5_ n6_ n7_
             clear ho hb hg hat
             refine hK.out _ _ ⟨(jF BK309.out 0).trans rfl, (jF BK309.out 1).trans rfl, (jF BK309.out 2).trans rfl⟩ (fun hHeld => ?_)
             clear hK K
             refine norm_ (a' := ?_) ?_ ?_
             rotate_left
             ·show Act.put _ (some 38) _ = _
              simp only [Act.put, jO, jT, jU, i64_w, i32_w]
              rfl
             exact norm_ (by simp only [putAll, Act.put, jO, jT, jU]) (hCont (v311, v314, v317) _ ⟨hHeld, (by (with_reducible repeat (first | apply jH | apply jG | apply jK)); exact Kd.R_mono HO315.out (fun _ hk => ⟨hk.2.1, ⟨hk.1, hk.2.2⟩⟩)), (by (with_reducible repeat (first | apply jH | apply jG | apply jK)); exact Kd.R_mono HO318.out (fun _ hk => ⟨hk.2, ⟨hk.1.1, hk.1.2⟩⟩)), (zo HO_5), (by (with_reducible repeat (first | apply jH | apply jG | apply jK)); exact Kd.R_mono HO_7.out (fun _ hk => ⟨hk.2, ⟨hk.1.1, hk.1.2⟩⟩)), (zk BK309), (by repeat (first | (with_reducible first | exact HI0.out | apply IsS91.alloc | apply IsS91.drewN | apply IsS91.drew | apply IsS91.set_1 | apply IsS91.set_2 | refine IsS91.far ?_ NB0_309.out _) | exact HI0.out)), (zh1 HK GW309), (by repeat (first | (with_reducible first | exact HB.out | apply jM | apply jE | apply jI | refine jL ?_ (IsS91.ge HI0.out) | refine jL ?_ GE309.out) | exact HB.out))⟩)
           ·skip
            refine Kd.R_lit_step k59 _ 59 ?hg (N := 40) ?hd (xs := ([(⟨x8_1, t302, t306⟩ : S59)] : List (S59))) (inner := [.int .i64 x8_1, .int .i64 t302, .int .i64 t306]) (ok := fun _ => True) (okp := fun _ => True) ?hr ?hp (fun _ hk => hk) trivial (Below.refl _ _) (Nat.le_refl _) (by simp) ?_; (case hd => rfl); (case hg => rfl); (case hr => first | (go_simp; done) | (go_simp; rfl)); (case hp => exact (Reps.c3 (show Kd.M k59 _ _ _ (⟨x8_1, t302, t306⟩ : S59) [.int .i64 x8_1, .int .i64 t302, .int .i64 t306] from (k59_mkM _ _ _ (⟨x8_1, t302, t306⟩ : S59) )) (Reps.none _ _)))
            intro v317 w48 ho49 hb hg_ hnew_
            clear hg_ hnew_
            (first | rw [← Ny316.out] at ho49 | (simp only [Int.reduceToNat] at ho49; rw [← Ny316.out] at ho49))
            have n0_ := jA (jZ (zo HO_5) hb)
            have n1_ := jA (Kd.R_elder' (zo HO_7) (Kd.R_base ho49) hb)
            have n2_ := jA (jf (Kd.R_newB (Kd.R_new' ho49 (Kd.R_lt (zo HO_7))) (g := gb309) (o := .cells #[.int .i64 x8_1, .int .i64 t302, .int .i64 t306] 59 (0, 0)) (zk BK309)) (keep_size (w := w) (g := g) (row := none) (zh1 HK GW309)))
            have n3_ := jA (IsS91.below (by repeat (first | (with_reducible first | exact HI0.out | apply IsS91.alloc | apply IsS91.drewN | apply IsS91.drew | apply IsS91.set_1 | apply IsS91.set_2 | refine IsS91.far ?_ NB0_309.out _) | exact HI0.out)) hb)
            have n4_ := jA (blk_below (g := gb309) (o := .cells #[.int .i64 x8_1, .int .i64 t302, .int .i64 t306] 59 (0, 0)) (zk BK309) hb)
            have n5_ := jA (KeepBut.trans (zh1 HK GW309) (KeepBut.of_below hb g none) (.inl rfl))
            have n6_ := jA (jV (by repeat (first | (with_reducible first | exact HB.out | apply jM | apply jE | apply jI | refine jL ?_ (IsS91.ge HI0.out) | refine jL ?_ GE309.out) | exact HB.out)) hb)
            clear HO_5
            clear HO_7
            clear HI0
            clear BK309
            clear HK
            clear HB
            have HO_5 := n0_
            have HO_7 := n1_
            have HO318 := n2_
            have HI0 := n3_
            have BK309 := n4_
            have HK := n5_
            have HB := n6_
            clear n0_ n1_ n2_ n3_ n4_ n5_ n6_
            clear hb ho49
            refine hK.out _ _ ⟨(jF BK309.out 0).trans rfl, (jF BK309.out 1).trans rfl, (jF BK309.out 2).trans rfl⟩ (fun hHeld => ?_)
            clear hK K
            refine norm_ (a' := ?_) ?_ ?_
            rotate_left
            ·show Act.put _ (some 40) _ = _
             simp only [Act.put, jO, jT, jU, i64_w, i32_w]
             rfl
            refine one_ (i := 0) (N := some 36) m7_6c rfl rfl zr (by decide) (fun K hK => ?_)
            refine Kd.R_lit_step k59 _ 59 ?hg (N := 36) ?hd (xs := ([] : List (S59))) (inner := []) (ok := fun _ => True) (okp := fun _ => True) ?hr ?hp (fun _ hk => hk) trivial (Below.refl _ _) (Nat.le_refl _) (by simp) ?_; (case hd => rfl); (case hg => rfl); (case hr => first | (go_simp; done) | (go_simp; rfl)); (case hp => exact (Reps.none _ _))
            intro v311 w50 ho51 hb hg_ hnew_
            clear hg_ hnew_
            (first | rw [← Ny310.out] at ho51 | (simp only [Int.reduceToNat] at ho51; rw [← Ny310.out] at ho51))
            have n0_ := jA (jZ (zo HO_5) hb)
            have n1_ := jA (Kd.R_elder' (zo HO_7) (Kd.R_base ho51) hb)
            have n2_ := jA (Kd.R_elder' (zo HO318) (Kd.R_base ho51) hb)
            have n3_ := jA (jf (Kd.R_newB (Kd.R_new' (Kd.R_new' ho51 (Kd.R_lt (zo HO_7))) (Kd.R_lt (zo HO318))) (g := gb309) (o := .cells #[.int .i64 x8_1, .int .i64 t302, .int .i64 t306] 59 (0, 0)) (zk BK309)) (keep_size (w := w) (g := g) (row := none) (zh1 HK GW309)))
            have n4_ := jA (IsS91.below (by repeat (first | (with_reducible first | exact HI0.out | apply IsS91.alloc | apply IsS91.drewN | apply IsS91.drew | apply IsS91.set_1 | apply IsS91.set_2 | refine IsS91.far ?_ NB0_309.out _) | exact HI0.out)) hb)
            have n5_ := jA (blk_below (g := gb309) (o := .cells #[.int .i64 x8_1, .int .i64 t302, .int .i64 t306] 59 (0, 0)) (zk BK309) hb)
            have n6_ := jA (KeepBut.trans (zh1 HK GW309) (KeepBut.of_below hb g none) (.inl rfl))
            have n7_ := jA (jV (by repeat (first | (with_reducible first | exact HB.out | apply jM | apply jE | apply jI | refine jL ?_ (IsS91.ge HI0.out) | refine jL ?_ GE309.out) | exact HB.out)) hb)
            clear HO_5
            clear HO_7
            clear HO318
            clear HI0
            clear BK309
            clear HK
            clear HB
            have HO_5 := n0_
            have HO_7 := n1_
            have HO318 := n2_
            have HO312 := n3_
            have HI0 := n4_
            have BK309 := n5_
            have HK := n6_
            have HB := n7_
            clear n0_ n1_ n2_ n3_ n4_ n5_ n6_ n7_
            clear hb ho51
            refine hK.out _ _ ⟨(jF BK309.out 0).trans rfl, (jF BK309.out 1).trans rfl, (jF BK309.out 2).trans rfl⟩ (fun hHeld => ?_)
            clear hK K
            refine norm_ (a' := ?_) ?_ ?_
            rotate_left
            ·show Act.put _ (some 36) _ = _
             simp only [Act.put, jO, jT, jU, i64_w, i32_w]
             rfl
            refine one_ (i := 2) (N := some 38) m7_7c rfl rfl zr (by decide) (fun K hK => ?_)
            refine Kd.R_append_rows_step k59 w.heap.size (by rfl) (.tmp 36) (.tmp 37) 50 59 (.agg #[(.int .i64 0), (.int .i64 0), (.int .i64 0)]) 24 rfl Try.underlying50 info59 rfl (by decide) (by omega) v311 y310 x7_1 _ _ _ (fun k_ => some k_ ≠ (.slice Ao45 x7_1.length co45 : Value).ownBlock ∧ some k_ ≠ (v317 : Value).ownBlock ∧ k_ ≠ gb309) (fun _ => False) rfl rfl ?aO ?aR (fun _ _ h => h) (fun _ h => h.elim) ?aF (Below.refl _ _) ?aS ?aL ?_
            (case aR => repeat (first | exact (jJ HO_7.out).2.2 | (with_reducible refine jR ?_ _) | (with_reducible refine jQ ?_ _) | (with_reducible refine jS ?_)))
            (case aF => exact (fun k_ hk => ⟨Kd.fresh' (Kd.R_lt (zo HO_7)) k_ hk, Kd.fresh' (Kd.R_lt (zo HO318)) k_ hk, Kd.freshB (g := gb309) (o := .cells #[.int .i64 x8_1, .int .i64 t302, .int .i64 t306] 59 (0, 0)) (zk BK309) k_ hk⟩))
            (case aO => exact (by (with_reducible repeat (first | apply jH | apply jG | apply jK)); exact Kd.R_mono HO312.out (fun _ hk => ⟨hk.1.1.2, ⟨hk.1.2, hk.2⟩⟩)))
            (case aS => exact (keep_size (w := w) (g := g) (row := none) (zh1 HK GW309)))
            (case aL => have := LMc13.out; omega)
            intro v314 w52 ho hb hg hat
            rw [← Ny313.out] at ho
            have n0_ := jA (Kd.R_over' (zo HO_5) (Kd.R_typed (zo HO312)) (by decide) hg)
            have n1_ := jA (Kd.R_after (ok := (fun k_ => some k_ ≠ (v317 : Value).ownBlock ∧ k_ ≠ gb309)) (by (with_reducible repeat (first | apply jH | apply jG | apply jK)); exact Kd.R_mono HO_7.out (fun _ hk => ⟨⟨hk.1.2, hk.1.1⟩, hk.2⟩)) hg hat)
            have n2_ := jA (IsS91.grown (by repeat (first | (with_reducible first | exact HI0.out | apply IsS91.alloc | apply IsS91.drewN | apply IsS91.drew | apply IsS91.set_1 | apply IsS91.set_2 | refine IsS91.far ?_ NB0_309.out _) | exact HI0.out)) hg (IsS91.own_ne HI0.out HO312.out (by decide)))
            have n3_ := jA (blk_grown (g := gb309) (o := .cells #[.int .i64 x8_1, .int .i64 t302, .int .i64 t306] 59 (0, 0)) (zk BK309) hg (Kd.R_away HO312.out (fun _ hk => hk.2)))
            have n4_ := jA (Kd.R_after (ok := (fun k_ => some k_ ≠ (.slice Ao45 x7_1.length co45 : Value).ownBlock ∧ k_ ≠ gb309)) (by (with_reducible repeat (first | apply jH | apply jG | apply jK)); exact Kd.R_mono HO318.out (fun _ hk => ⟨⟨hk.1.1.2, hk.1.2⟩, hk.2⟩)) hg hat)
            have n5_ := jA (below_weaken (by repeat (first | (with_reducible first | exact HB.out | apply jM | apply jE | apply jI | refine jL ?_ (IsS91.ge HI0.out) | refine jL ?_ GE309.out) | exact HB.out)) HL.out hb)
            have n6_ := jA (KeepBut.trans (zh1 HK GW309) (KeepBut.of_grown hg g) (Kd.R_base2 HO312.out))
            have n7_ := jA (ho)
            clear HO_5
            clear HO_7
            clear HI0
            clear BK309
            clear HO318
            clear HB
            clear HK
            clear HO312
            have HO_5 := n0_
            have HO_7 := n1_
            have HI0 := n2_
            have BK309 := n3_
            have HO318 := n4_
            have HB := n5_
            have HK := n6_
            have HO315 := n7_
            clear n0_ n1_ n2_ n3_ n4_ n5_ n6_ n7_
            clear ho hb hg hat
            refine hK.out _ _ ⟨(jF BK309.out 0).trans rfl, (jF BK309.out 1).trans rfl, (jF BK309.out 2).trans rfl⟩ (fun hHeld => ?_)
            clear hK K
            refine norm_ (a' := ?_) ?_ ?_
            rotate_left
            ·show Act.put _ (some 38) _ = _
             simp only [Act.put, jO, jT, jU, i64_w, i32_w]
             rfl
            exact norm_ (by simp only [putAll, Act.put, jO, jT, jU]) (hCont (v311, v314, v317) _ ⟨hHeld, (by (with_reducible repeat (first | apply jH | apply jG | apply jK)); exact Kd.R_mono HO315.out (fun _ hk => ⟨hk.2.1, ⟨hk.1, hk.2.2⟩⟩)), (by (with_reducible repeat (first | apply jH | apply jG | apply jK)); exact Kd.R_mono HO318.out (fun _ hk => ⟨hk.2, ⟨hk.1.1, hk.1.2⟩⟩)), (zo HO_5), (by (with_reducible repeat (first | apply jH | apply jG | apply jK)); exact Kd.R_mono HO_7.out (fun _ hk => ⟨hk.2, ⟨hk.1.1, hk.1.2⟩⟩)), (zk BK309), (by repeat (first | (with_reducible first | exact HI0.out | apply IsS91.alloc | apply IsS91.drewN | apply IsS91.drew | apply IsS91.set_1 | apply IsS91.set_2 | refine IsS91.far ?_ NB0_309.out _) | exact HI0.out)), (zh1 HK GW309), (by repeat (first | (with_reducible first | exact HB.out | apply jM | apply jE | apply jI | refine jL ?_ (IsS91.ge HI0.out) | refine jL ?_ GE309.out) | exact HB.out))⟩)
          rintro ⟨v311, v314, v317⟩ w53 ⟨hS_, h0_, h1_, h2_, h3_, h4_, h5_, h6_, h7_⟩
          have n0_ : Aside0 (Kd.R k59 59 w53 w.heap.size (fun k_ => some k_ ≠ (v317 : Value).ownBlock ∧ some k_ ≠ (.slice Ao45 x7_1.length co45 : Value).ownBlock ∧ k_ ≠ gb309) v314 y313) := ⟨h0_⟩
          have n1_ : Aside0 (Kd.R k59 59 w53 w.heap.size (fun k_ => some k_ ≠ (v314 : Value).ownBlock ∧ some k_ ≠ (.slice Ao45 x7_1.length co45 : Value).ownBlock ∧ k_ ≠ gb309) v317 y316) := ⟨h1_⟩
          have n2_ : Aside0 (Kd.R k63 63 w53 w.heap.size (fun _ => True) (.slice (some ad305) t291.length co39) t291) := ⟨h2_⟩
          have n3_ : Aside0 (Kd.R k59 59 w53 w.heap.size (fun k_ => some k_ ≠ (v314 : Value).ownBlock ∧ some k_ ≠ (v317 : Value).ownBlock ∧ k_ ≠ gb309) (.slice Ao45 x7_1.length co45) x7_1) := ⟨h3_⟩
          have n4_ : Aside0 (w53.heap[gb309]? = some (.cells #[.int .i64 x8_1, .int .i64 t302, .int .i64 t306] 59 (0, 0))) := ⟨h4_⟩
          have n5_ : Aside0 (IsS91 w0 w53 g s0_0 t307 t308) := ⟨h5_⟩
          have n6_ : Aside0 (KeepBut w w53 g none) := ⟨h6_⟩
          have n7_ : Aside0 (Below w0.heap.size w0 w53) := ⟨h7_⟩
          clear HO_5
          clear HO_7
          clear BK309
          clear HI0
          clear HK
          clear HB
          clear h0_ h1_ h2_ h3_ h4_ h5_ h6_ h7_
          have HO315 := n0_
          have HO318 := n1_
          have HO_5 := n2_
          have HO_7 := n3_
          have BK309 := n4_
          have HI0 := n5_
          have HK := n6_
          have HB := n7_
          clear n0_ n1_ n2_ n3_ n4_ n5_ n6_ n7_
          have hHeld : w53.cell? ⟨gb309, 0, none⟩ = some (.int .i64 x8_1) ∧ w53.cell? ⟨gb309, 1, none⟩ = some (.int .i64 t302) ∧ w53.cell? ⟨gb309, 2, none⟩ = some (.int .i64 t306) := hS_
          obtain ⟨Ao55, co55, eo55⟩ := Kd.R_slice HO318.out
          (first | subst eo55 | (injection eo55 with f1_ f2_ f3_; have f4_ := f1_.symm; have f5_ := f3_.symm; clear f1_ f2_ f3_; subst f4_; subst f5_))
          refine norm_ (a' := ?_) ?_ ?_
          rotate_left
          ·simp only [putAll, Act.put, jO, jT, jU]
           rfl
          refine one_ (i := 5) (N := some 41) m7_7e rfl rfl zr (by decide) (fun K hK => ?_)
          refine Kd.R_append_rows_step k59 w.heap.size (by rfl) (.tmp 38) (.tmp 40) 50 59 (.agg #[(.int .i64 0), (.int .i64 0), (.int .i64 0)]) 24 rfl Try.underlying50 info59 rfl (by decide) (by omega) v314 y313 y316 _ _ _ (fun k_ => some k_ ≠ (.slice Ao45 x7_1.length co45 : Value).ownBlock ∧ some k_ ≠ (.slice Ao55 y316.length co55 : Value).ownBlock ∧ k_ ≠ gb309) (fun _ => False) rfl rfl ?aO ?aR (fun _ _ h => h) (fun _ h => h.elim) ?aF (Below.refl _ _) ?aS ?aL ?_
          (case aR => repeat (first | exact (jJ HO318.out).2.2 | (with_reducible refine jR ?_ _) | (with_reducible refine jQ ?_ _) | (with_reducible refine jS ?_)))
          (case aF => exact (fun k_ hk => ⟨Kd.fresh' (Kd.R_lt (zo HO_7)) k_ hk, Kd.fresh' (Kd.R_lt (zo HO318)) k_ hk, Kd.freshB (g := gb309) (o := .cells #[.int .i64 x8_1, .int .i64 t302, .int .i64 t306] 59 (0, 0)) (zk BK309) k_ hk⟩))
          (case aO => exact (by (with_reducible repeat (first | apply jH | apply jG | apply jK)); exact Kd.R_mono HO315.out (fun _ hk => ⟨hk.2.1, ⟨hk.1, hk.2.2⟩⟩)))
          (case aS => exact (keep_size (w := w) (g := g) (row := none) (zh1 HK GW309)))
          (case aL => have := LMc14.out; omega)
          intro v320 w54 ho hb hg hat
          rw [← Ny319.out] at ho
          have n0_ := jA (Kd.R_over' (zo HO_5) (Kd.R_typed (zo HO315)) (by decide) hg)
          have n1_ := jA (Kd.R_after (ok := (fun k_ => some k_ ≠ (.slice Ao55 y316.length co55 : Value).ownBlock ∧ k_ ≠ gb309)) (by (with_reducible repeat (first | apply jH | apply jG | apply jK)); exact Kd.R_mono HO_7.out (fun _ hk => ⟨⟨hk.2.1, hk.2.2⟩, hk.1⟩)) hg hat)
          have n2_ := jA (IsS91.grown (by repeat (first | (with_reducible first | exact HI0.out | apply IsS91.alloc | apply IsS91.drewN | apply IsS91.drew | apply IsS91.set_1 | apply IsS91.set_2 | refine IsS91.far ?_ NB0_309.out _) | exact HI0.out)) hg (IsS91.own_ne HI0.out HO315.out (by decide)))
          have n3_ := jA (blk_grown (g := gb309) (o := .cells #[.int .i64 x8_1, .int .i64 t302, .int .i64 t306] 59 (0, 0)) (zk BK309) hg (Kd.R_away HO315.out (fun _ hk => hk.2.2)))
          have n4_ := jA (Kd.R_after (ok := (fun k_ => some k_ ≠ (.slice Ao45 x7_1.length co45 : Value).ownBlock ∧ k_ ≠ gb309)) (by (with_reducible repeat (first | apply jH | apply jG | apply jK)); exact Kd.R_mono HO318.out (fun _ hk => ⟨⟨hk.2.1, hk.2.2⟩, hk.1⟩)) hg hat)
          have n5_ := jA (below_weaken (by repeat (first | (with_reducible first | exact HB.out | apply jM | apply jE | apply jI | refine jL ?_ (IsS91.ge HI0.out) | refine jL ?_ GE309.out) | exact HB.out)) HL.out hb)
          have n6_ := jA (KeepBut.trans (zh1 HK GW309) (KeepBut.of_grown hg g) (Kd.R_base2 HO315.out))
          have n7_ := jA (ho)
          clear HO_5
          clear HO_7
          clear HI0
          clear BK309
          clear HO318
          clear HB
          clear HK
          clear HO315
          have HO_5 := n0_
          have HO_7 := n1_
          have HI0 := n2_
          have BK309 := n3_
          have HO318 := n4_
          have HB := n5_
          have HK := n6_
          have HO321 := n7_
          clear n0_ n1_ n2_ n3_ n4_ n5_ n6_ n7_
          clear ho hb hg hat
          refine hK.out _ _ ⟨(jF BK309.out 0).trans rfl, (jF BK309.out 1).trans rfl, (jF BK309.out 2).trans rfl⟩ (fun hHeld => ?_)
          clear hK K
          refine norm_ (a' := ?_) ?_ ?_
          rotate_left
          ·show Act.put _ (some 41) _ = _
           simp only [Act.put, jO, jT, jU, i64_w, i32_w]
           rfl
          refine pure_ (i := 6) (N := some 11) (v := ?_) (a' := ?_) m7_7f rfl rfl zr (fun _ _ _ h => h) (Or.inl ⟨by rfl, ?_⟩) ?_ ?_
          rotate_left
          ·intro w'
           go_simp
           with_reducible rfl
          rotate_left
          ·simp only [Act.put, jO, jT, jU, i64_w, i32_w]
           rfl
          refine done_ zr ?_
          try go_wp2_with (first | ((with_reducible refine jN (f := 66) rfl ?_); refine goesL_ (some 43) rfl rfl Try.func66 zr rfl #[.pointer (some ⟨g, 0, none⟩), .int .i64 3] rfl zm ?_; (with_reducible refine (spec_l01Next.calls g s0_0 t307 t308 3 t322 t323 t324 w0 _ ?side1 ?side2 A15.out).mono ?_); (case side1 => repeat (first | (with_reducible first | exact HI0.out | apply IsS91.alloc | apply IsS91.drewN | apply IsS91.drew | apply IsS91.set_1 | apply IsS91.set_2 | refine IsS91.far ?_ NB0_309.out _) | exact HI0.out)); (case side2 => repeat (first | (with_reducible first | exact HB.out | apply jM | apply jE | apply jI | refine jL ?_ (IsS91.ge HI0.out) | refine jL ?_ GE309.out) | exact HB.out)); rintro e w56 ⟨rfl, hi, hb, hk⟩; refine ⟨_, rfl, ?_⟩; have n0_ := jA (Kd.R_mono (Kd.R_keep (IsS91.apart (show IsS91 w0 _ g s0_0 t307 t308 from by repeat (first | (with_reducible first | exact HI0.out | apply IsS91.alloc | apply IsS91.drewN | apply IsS91.drew | apply IsS91.set_1 | apply IsS91.set_2 | refine IsS91.far ?_ NB0_309.out _) | exact HI0.out)) (zo HO_5) (by decide)) hk (fun _ h => h.2)) (fun _ h => h.1)); have n1_ := jA (Kd.R_mono (Kd.R_keep (IsS91.apart (show IsS91 w0 _ g s0_0 t307 t308 from by repeat (first | (with_reducible first | exact HI0.out | apply IsS91.alloc | apply IsS91.drewN | apply IsS91.drew | apply IsS91.set_1 | apply IsS91.set_2 | refine IsS91.far ?_ NB0_309.out _) | exact HI0.out)) (zo HO_7) (by decide)) hk (fun _ h => h.2)) (fun _ h => h.1)); have n2_ := jA (KeepBut.blk hk (g' := gb309) (o := .cells #[.int .i64 x8_1, .int .i64 t302, .int .i64 t306] 59 (0, 0)) (zk BK309) NB309_0.out (by simp)); have n3_ := jA (Kd.R_mono (Kd.R_keep (IsS91.apart (show IsS91 w0 _ g s0_0 t307 t308 from by repeat (first | (with_reducible first | exact HI0.out | apply IsS91.alloc | apply IsS91.drewN | apply IsS91.drew | apply IsS91.set_1 | apply IsS91.set_2 | refine IsS91.far ?_ NB0_309.out _) | exact HI0.out)) (zo HO318) (by decide)) hk (fun _ h => h.2)) (fun _ h => h.1)); have n4_ := jA (Kd.R_mono (Kd.R_keep (IsS91.apart (show IsS91 w0 _ g s0_0 t307 t308 from by repeat (first | (with_reducible first | exact HI0.out | apply IsS91.alloc | apply IsS91.drewN | apply IsS91.drew | apply IsS91.set_1 | apply IsS91.set_2 | refine IsS91.far ?_ NB0_309.out _) | exact HI0.out)) (zo HO321) (by decide)) hk (fun _ h => h.2)) (fun _ h => h.1)); have n5_ := jA (KeepBut.trans (zh1 HK GW309) hk (.inl rfl)); have n6_ := jA (hb); have n7_ := jA (hi); clear HO_5; clear HO_7; clear BK309; clear HO318; clear HO321; clear HK; clear HB; clear HI0; have HO_5 := n0_; have HO_7 := n1_; have BK309 := n2_; have HO318 := n3_; have HO321 := n4_; have HK := n5_; have HB := n6_; have HI0 := n7_; clear n0_ n1_ n2_ n3_ n4_ n5_ n6_ n7_; (try clear hb); (try clear hb2); (try clear hk); (try clear hi); obtain ⟨Ao57, co57, eo57⟩ := Kd.R_slice HO321.out; subst eo57) | (go_at_call 85; (with_reducible refine (spec_AreWires.calls k1 _ _ t291 t296 _ _ y319 false _ ?side1 ?side2 ?side3 ?side4 A17.out).mono ?_); (case side1 => repeat (first | exact (jJ HO_5.out).2.2 | (with_reducible refine jR ?_ _) | (with_reducible refine jQ ?_ _) | (with_reducible refine jS ?_))); (case side2 => exact (jJ HO_5.out).2.1); (case side3 => repeat (first | exact (jJ HO321.out).2.2 | (with_reducible refine jR ?_ _) | (with_reducible refine jQ ?_ _) | (with_reducible refine jS ?_))); (case side4 => exact (jJ HO321.out).2.1); rintro e w58 ⟨rfl, hb⟩; have n0_ := jA (jZ (zo HO_5) hb); have n1_ := jA (jZ (zo HO_7) hb); have n2_ := jA (jZ (zo HO318) hb); have n3_ := jA (jZ (zo HO321) hb); have n4_ := jA (IsS91.below (by repeat (first | (with_reducible first | exact HI0.out | apply IsS91.alloc | apply IsS91.drewN | apply IsS91.drew | apply IsS91.set_1 | apply IsS91.set_2 | refine IsS91.far ?_ NB0_309.out _) | exact HI0.out)) hb); have n5_ := jA (blk_below (g := gb309) (o := .cells #[.int .i64 x8_1, .int .i64 t302, .int .i64 t306] 59 (0, 0)) (zk BK309) hb); have n6_ := jA (KeepBut.trans (zh1 HK GW309) (KeepBut.of_below hb g none) (.inl rfl)); have n7_ := jA (jV (by repeat (first | (with_reducible first | exact HB.out | apply jM | apply jE | apply jI | refine jL ?_ (IsS91.ge HI0.out) | refine jL ?_ GE309.out) | exact HB.out)) hb); clear HO_5; clear HO_7; clear HO318; clear HO321; clear HI0; clear BK309; clear HK; clear HB; have HO_5 := n0_; have HO_7 := n1_; have HO318 := n2_; have HO321 := n3_; have HI0 := n4_; have BK309 := n5_; have HK := n6_; have HB := n7_; clear n0_ n1_ n2_ n3_ n4_ n5_ n6_ n7_; (try clear hb); (try clear hb2); (try clear hk); (try clear hi)))
          go_roundg k1
          case measure => have := HK1.out; omega
          case rel => exact ⟨(x7_1), (wrap64 (x8_1 + 1)), (t323), (t324), zz, H', ⟨by have := HK1.out; omega⟩, ⟨by (with_reducible repeat (first | apply jH | apply jG | apply jK)); exact HO_5.out⟩, ⟨by (with_reducible repeat (first | apply jH | apply jG | apply jK)); exact Kd.R_mono HO_7.out (fun _ hk => trivial)⟩, ⟨by repeat (first | (with_reducible first | exact HI0.out | apply IsS91.alloc | apply IsS91.drewN | apply IsS91.drew | apply IsS91.set_1 | apply IsS91.set_2 | refine IsS91.far ?_ NB0_309.out _) | exact HI0.out)⟩, ⟨zh1 HK GW309⟩, ⟨by repeat (first | (with_reducible first | exact HB.out | apply jM | apply jE | apply jI | refine jL ?_ (IsS91.ge HI0.out) | refine jL ?_ GE309.out) | exact HB.out)⟩⟩
        ·rw [if_neg c16] at H
         have c16b0 : decide (0 < t322) = false := ja c16
         clear c16
         have H' := jA H
         clear H
         obtain ⟨Ao59, co59, eo59⟩ := Kd.R_slice HO_5.out
         subst eo59
         try go_wp2_with (first | ((with_reducible refine jN (f := 66) rfl ?_); refine goesL_ (some 25) rfl rfl Try.func66 zr rfl #[.pointer (some ⟨g, 0, none⟩), .int .i64 (t291.length : Int)] rfl zm ?_; (with_reducible refine (spec_l01Next.calls g s0_0 x1001_1 x1002_1 (t291.length : Int) t302 t303 t304 w0 _ ?side1 ?side2 A9.out).mono ?_); (case side1 => repeat (first | (with_reducible first | exact HI0.out | apply IsS91.alloc | apply IsS91.drewN | apply IsS91.drew | apply IsS91.set_1 | apply IsS91.set_2) | exact HI0.out)); (case side2 => repeat (first | (with_reducible first | exact HB.out | apply jM | apply jE | apply jI | refine jL ?_ (IsS91.ge HI0.out)) | exact HB.out)); rintro e w60 ⟨rfl, hi, hb, hk⟩; refine ⟨_, rfl, ?_⟩; have n0_ := jA (Kd.R_mono (Kd.R_keep (IsS91.apart (show IsS91 w0 _ g s0_0 x1001_1 x1002_1 from by repeat (first | (with_reducible first | exact HI0.out | apply IsS91.alloc | apply IsS91.drewN | apply IsS91.drew | apply IsS91.set_1 | apply IsS91.set_2) | exact HI0.out)) (zo HO_5) (by decide)) hk (fun _ h => h.2)) (fun _ h => h.1)); have n1_ := jA (Kd.R_mono (Kd.R_keep (IsS91.apart (show IsS91 w0 _ g s0_0 x1001_1 x1002_1 from by repeat (first | (with_reducible first | exact HI0.out | apply IsS91.alloc | apply IsS91.drewN | apply IsS91.drew | apply IsS91.set_1 | apply IsS91.set_2) | exact HI0.out)) (zo HO_7) (by decide)) hk (fun _ h => h.2)) (fun _ h => h.1)); have n2_ := jA (KeepBut.trans (zh0 HK) hk (.inl rfl)); have n3_ := jA (hb); have n4_ := jA (hi); clear HO_5; clear HO_7; clear HK; clear HB; clear HI0; have HO_5 := n0_; have HO_7 := n1_; have HK := n2_; have HB := n3_; have HI0 := n4_; clear n0_ n1_ n2_ n3_ n4_; (try clear hb); (try clear hb2); (try clear hk); (try clear hi); have p305 : 0 ≤ (t302 : Int) := jB za; have q305 : t302 < (t291.length : Int) := jB za; obtain ⟨ad305, e305, hx305_0, hx305_1⟩ := at_T63 (jJ HO_5.out).2.2 t302 p305 q305; cases e305; replace p305 := eq_true p305; replace q305 := eq_true q305) | ((with_reducible refine jN (f := 66) rfl ?_); refine goesL_ (some 34) rfl rfl Try.func66 zr rfl #[.pointer (some ⟨g, 0, none⟩), .int .i64 ((rd_T63 t291 t302).f1)] rfl zm ?_; (with_reducible refine (spec_l01Next.calls g s0_0 t303 t304 ((rd_T63 t291 t302).f1) t306 t307 t308 w0 _ ?side1 ?side2 A12.out).mono ?_); (case side1 => repeat (first | (with_reducible first | exact HI0.out | apply IsS91.alloc | apply IsS91.drewN | apply IsS91.drew | apply IsS91.set_1 | apply IsS91.set_2) | exact HI0.out)); (case side2 => repeat (first | (with_reducible first | exact HB.out | apply jM | apply jE | apply jI | refine jL ?_ (IsS91.ge HI0.out)) | exact HB.out)); rintro e w61 ⟨rfl, hi, hb, hk⟩; refine ⟨_, rfl, ?_⟩; have n0_ := jA (Kd.R_mono (Kd.R_keep (IsS91.apart (show IsS91 w0 _ g s0_0 t303 t304 from by repeat (first | (with_reducible first | exact HI0.out | apply IsS91.alloc | apply IsS91.drewN | apply IsS91.drew | apply IsS91.set_1 | apply IsS91.set_2) | exact HI0.out)) (zo HO_5) (by decide)) hk (fun _ h => h.2)) (fun _ h => h.1)); have n1_ := jA (Kd.R_mono (Kd.R_keep (IsS91.apart (show IsS91 w0 _ g s0_0 t303 t304 from by repeat (first | (with_reducible first | exact HI0.out | apply IsS91.alloc | apply IsS91.drewN | apply IsS91.drew | apply IsS91.set_1 | apply IsS91.set_2) | exact HI0.out)) (zo HO_7) (by decide)) hk (fun _ h => h.2)) (fun _ h => h.1)); have n2_ := jA (KeepBut.trans (zh0 HK) hk (.inl rfl)); have n3_ := jA (hb); have n4_ := jA (hi); clear HO_5; clear HO_7; clear HK; clear HB; clear HI0; have HO_5 := n0_; have HO_7 := n1_; have HK := n2_; have HB := n3_; have HI0 := n4_; clear n0_ n1_ n2_ n3_ n4_; (try clear hb); (try clear hb2); (try clear hk); (try clear hi)) | ((with_reducible refine gate_dst (N := 10) rfl ?_); refine box_event ?hg (N := 10) ?hd (cs := #[.int .i64 0, .int .i64 0, .int .i64 0]) (t := 59) ?hr ?_; (case hd => rfl); (case hg => rfl); (case hr => first | (go_simp; done) | (go_simp; rfl)); intro gb309 hg w62 hbox hb; have n0_ := jA (jZ (zo HO_5) hb); have n1_ := jA (jZ (Kd.R_elderB (zo HO_7) gb309 (Nat.le_of_eq hg.symm)) hb); have n2_ := jA (IsS91.below (by repeat (first | (with_reducible first | exact HI0.out | apply IsS91.alloc | apply IsS91.drewN | apply IsS91.drew | apply IsS91.set_1 | apply IsS91.set_2) | exact HI0.out)) hb); have n3_ := jA (KeepBut.trans (zh0 HK) (KeepBut.of_below hb g none) (.inl rfl)); have n4_ := jA (jV (by repeat (first | (with_reducible first | exact HB.out | apply jM | apply jE | apply jI | refine jL ?_ (IsS91.ge HI0.out)) | exact HB.out)) hb); have n5_ := jA (hbox); have n6_ := jA ((by rw [hg]; exact (keep_size (w := w) (g := g) (row := none) (zh0 HK)) : w.heap.size ≤ gb309)); have n7_ := jA ((Nat.le_trans HW0.out (by rw [hg]; exact (keep_size (w := w) (g := g) (row := none) (zh0 HK)) : w.heap.size ≤ gb309) : w0.heap.size ≤ gb309)); have n8_ := jA ((by rw [hg]; exact Nat.ne_of_lt (IsS91.lt (show IsS91 w0 _ g s0_0 t307 t308 from by repeat (first | (with_reducible first | exact HI0.out | apply IsS91.alloc | apply IsS91.drewN | apply IsS91.drew | apply IsS91.set_1 | apply IsS91.set_2) | exact HI0.out))) : g ≠ gb309)); have n9_ := jA ((by rw [hg]; exact Nat.ne_of_gt (IsS91.lt (show IsS91 w0 _ g s0_0 t307 t308 from by repeat (first | (with_reducible first | exact HI0.out | apply IsS91.alloc | apply IsS91.drewN | apply IsS91.drew | apply IsS91.set_1 | apply IsS91.set_2) | exact HI0.out))) : gb309 ≠ g)); clear HO_5; clear HO_7; clear HI0; clear HK; clear HB; have HO_5 := n0_; have HO_7 := n1_; have HI0 := n2_; have HK := n3_; have HB := n4_; have BK309 := n5_; have GW309 := n6_; have GE309 := n7_; have NB0_309 := n8_; have NB309_0 := n9_; clear n0_ n1_ n2_ n3_ n4_ n5_ n6_ n7_ n8_ n9_; clear hb hbox hg; have hnb63 := NB309_0.out; have hnc63 := NB0_309.out; have hcz64_0 : w62.cell? ⟨gb309, 0, none⟩ = some (.int .i64 0) := (jF BK309.out 0).trans rfl; have hcz64_1 : w62.cell? ⟨gb309, 1, none⟩ = some (.int .i64 0) := (jF BK309.out 1).trans rfl; have hcz64_2 : w62.cell? ⟨gb309, 2, none⟩ = some (.int .i64 0) := (jF BK309.out 2).trans rfl; have hfz64_0 := jX BK309.out 0; have hfz64_1 := jX BK309.out 1; have hfz64_2 := jX BK309.out 2; obtain ⟨Ao65, co65, eo65⟩ := Kd.R_slice HO_7.out; subst eo65))
         have n0_ : Aside0 (Kd.R k63 63 (((w62.setCell ⟨gb309, 0, none⟩ (.int .i64 x8_1)).setCell ⟨gb309, 1, none⟩ (.int .i64 t302)).setCell ⟨gb309, 2, none⟩ (.int .i64 t306)) w.heap.size (fun _ => True) (.slice (some ad305) t291.length co59) t291) := ⟨by (with_reducible repeat (first | apply jH | apply jG | apply jK)); exact Kd.R_mono (Kd.R_far (p := ⟨gb309, 2, none⟩) (Kd.R_far (p := ⟨gb309, 1, none⟩) (Kd.R_far (p := ⟨gb309, 0, none⟩) (Kd.R_types HO_5.out BK309.out (by decide)) (fun _ hk => hk.2) (.int .i64 x8_1)) (fun _ hk => hk.2) (.int .i64 t302)) (fun _ hk => hk.2) (.int .i64 t306)) (fun _ hk => trivial)⟩
         have n1_ : Aside0 (Kd.R k59 59 (((w62.setCell ⟨gb309, 0, none⟩ (.int .i64 x8_1)).setCell ⟨gb309, 1, none⟩ (.int .i64 t302)).setCell ⟨gb309, 2, none⟩ (.int .i64 t306)) w.heap.size (fun k_ => k_ ≠ gb309) (.slice Ao65 x7_1.length co65) x7_1) := ⟨by (with_reducible repeat (first | apply jH | apply jG | apply jK)); exact Kd.R_mono (Kd.R_far (p := ⟨gb309, 2, none⟩) (Kd.R_far (p := ⟨gb309, 1, none⟩) (Kd.R_far (p := ⟨gb309, 0, none⟩) (Kd.R_mono HO_7.out (fun k_ hk => (⟨hk, hk.2⟩ : _ ∧ k_ ≠ gb309))) (fun _ hk => hk.2) (.int .i64 x8_1)) (fun _ hk => hk.2) (.int .i64 t302)) (fun _ hk => hk.2) (.int .i64 t306)) (fun _ hk => hk.1.2)⟩
         have n2_ : Aside0 ((((w62.setCell ⟨gb309, 0, none⟩ (.int .i64 x8_1)).setCell ⟨gb309, 1, none⟩ (.int .i64 t302)).setCell ⟨gb309, 2, none⟩ (.int .i64 t306)).heap[gb309]? = some (.cells #[.int .i64 x8_1, .int .i64 t302, .int .i64 t306] 59 (0, 0))) := ⟨by (with_reducible repeat (first | refine jc ?_ _ | refine jb ?_ | refine jd ?_ _)); refine blk_put (cs := #[.int .i64 x8_1, .int .i64 t302, .int .i64 0]) ?_ 2 _ rfl; (with_reducible repeat (first | refine jc ?_ _ | refine jb ?_ | refine jd ?_ _)); refine blk_put (cs := #[.int .i64 x8_1, .int .i64 0, .int .i64 0]) ?_ 1 _ rfl; (with_reducible repeat (first | refine jc ?_ _ | refine jb ?_ | refine jd ?_ _)); refine blk_put (cs := #[.int .i64 0, .int .i64 0, .int .i64 0]) ?_ 0 _ rfl; (with_reducible repeat (first | refine jc ?_ _ | refine jb ?_ | refine jd ?_ _)); exact BK309.out⟩
         have n3_ : Aside0 (IsS91 w0 (((w62.setCell ⟨gb309, 0, none⟩ (.int .i64 x8_1)).setCell ⟨gb309, 1, none⟩ (.int .i64 t302)).setCell ⟨gb309, 2, none⟩ (.int .i64 t306)) g s0_0 t307 t308) := ⟨by repeat (first | (with_reducible first | exact HI0.out | apply IsS91.alloc | apply IsS91.drewN | apply IsS91.drew | apply IsS91.set_1 | apply IsS91.set_2 | refine IsS91.far ?_ NB0_309.out _) | exact HI0.out)⟩
         have n4_ : Aside0 (KeepBut w (((w62.setCell ⟨gb309, 0, none⟩ (.int .i64 x8_1)).setCell ⟨gb309, 1, none⟩ (.int .i64 t302)).setCell ⟨gb309, 2, none⟩ (.int .i64 t306)) g none) := ⟨zh1 HK GW309⟩
         have n5_ : Aside0 (Below w0.heap.size w0 (((w62.setCell ⟨gb309, 0, none⟩ (.int .i64 x8_1)).setCell ⟨gb309, 1, none⟩ (.int .i64 t302)).setCell ⟨gb309, 2, none⟩ (.int .i64 t306))) := ⟨by repeat (first | (with_reducible first | exact HB.out | apply jM | apply jE | apply jI | refine jL ?_ (IsS91.ge HI0.out) | refine jL ?_ GE309.out) | exact HB.out)⟩
         (try clear HO_5)
         (try clear HO_7)
         (try clear BK309)
         (try clear HI0)
         (try clear HK)
         (try clear HB)
         generalize (((w62.setCell ⟨gb309, 0, none⟩ (.int .i64 x8_1)).setCell ⟨gb309, 1, none⟩ (.int .i64 t302)).setCell ⟨gb309, 2, none⟩ (.int .i64 t306)) = w66 at n0_ n1_ n2_ n3_ n4_ n5_ ⊢
         have HO_5 := n0_
         have HO_7 := n1_
         have BK309 := n2_
         have HI0 := n3_
         have HK := n4_
         have HB := n5_
         clear n0_ n1_ n2_ n3_ n4_ n5_
         have n0_ := jA (jK HO_5.out)
         have n1_ := jA (jK HO_7.out)
         have n2_ := jA (jb BK309.out)
         have n3_ := jA (IsS91.drew HI0.out)
         have n4_ := jA (keep_drew HK.out)
         have n5_ := jA (jI HB.out)
         clear HO_5
         clear HO_7
         clear BK309
         clear HI0
         clear HK
         clear HB
         have HO_5 := n0_
         have HO_7 := n1_
         have BK309 := n2_
         have HI0 := n3_
         have HK := n4_
         have HB := n5_
         clear n0_ n1_ n2_ n3_ n4_ n5_
         refine start_ (n := 7) (S := fun w' => w'.cell? ⟨gb309, 0, none⟩ = some (.int .i64 x8_1) ∧ w'.cell? ⟨gb309, 1, none⟩ = some (.int .i64 t302) ∧ w'.cell? ⟨gb309, 2, none⟩ = some (.int .i64 t306)) (ds := []) m7_0 zr rfl rfl ⟨(jF BK309.out 0).trans rfl, (jF BK309.out 1).trans rfl, (jF BK309.out 2).trans rfl⟩ (fun hHeld => ?_)
         generalize w66.drew = w67 at HO_5 HO_7 BK309 HI0 HK HB hHeld ⊢
         refine pure_ (i := 1) (N := some 37) (v := ?_) (a' := ?_) m7_20 rfl rfl zr (fun _ _ _ h => h) (Or.inl ⟨by rfl, ?_⟩) ?_ ?_
         rotate_left
         ·intro w'
          go_simp
          with_reducible rfl
         rotate_left
         ·simp only [Act.put, jO, jT, jU, i64_w, i32_w]
          rfl
         refine take_ (i := 3) (N := some 39) (v := ?_) (a' := ?_) m7_28 rfl rfl zr (fun _ _ _ h => h) (Or.inl ⟨by rfl, ?_⟩) hHeld ?_ ?_
         rotate_left
         ·rintro w' ⟨s0, s1, s2⟩
          go_simp
          with_reducible rfl
         rotate_left
         ·simp only [Act.put, jO, jT, jU, i64_w, i32_w]
          rfl
         refine join_ (σ := Value × Value × Value) 2 m7_7c (fun s_ => [(36, s_.1), (38, s_.2.1), (40, s_.2.2)]) (fun s_ w' => (w'.cell? ⟨gb309, 0, none⟩ = some (.int .i64 x8_1) ∧ w'.cell? ⟨gb309, 1, none⟩ = some (.int .i64 t302) ∧ w'.cell? ⟨gb309, 2, none⟩ = some (.int .i64 t306)) ∧ (Kd.R k59 59 w' w.heap.size (fun k_ => some k_ ≠ (s_.2.2 : Value).ownBlock ∧ some k_ ≠ (.slice Ao65 x7_1.length co65 : Value).ownBlock ∧ k_ ≠ gb309) s_.2.1 y313) ∧ (Kd.R k59 59 w' w.heap.size (fun k_ => some k_ ≠ (s_.2.1 : Value).ownBlock ∧ some k_ ≠ (.slice Ao65 x7_1.length co65 : Value).ownBlock ∧ k_ ≠ gb309) s_.2.2 y316) ∧ (Kd.R k63 63 w' w.heap.size (fun _ => True) (.slice (some ad305) t291.length co59) t291) ∧ (Kd.R k59 59 w' w.heap.size (fun k_ => some k_ ≠ (s_.2.1 : Value).ownBlock ∧ some k_ ≠ (s_.2.2 : Value).ownBlock ∧ k_ ≠ gb309) (.slice Ao65 x7_1.length co65) x7_1) ∧ (w'.heap[gb309]? = some (.cells #[.int .i64 x8_1, .int .i64 t302, .int .i64 t306] 59 (0, 0))) ∧ (IsS91 w0 w' g s0_0 t307 t308) ∧ (KeepBut w w' g none) ∧ (Below w0.heap.size w0 w')) ?_ ?_
         rotate_left
         ·intro hCont
          refine two_ (i := 0) (j := 4) (Ni := some 36) (Nj := some 40) m7_68 m7_2c rfl rfl rfl rfl zr (by decide) (by decide) (fun K hK => ?_) (fun K hK => ?_)
          ·skip
           refine Kd.R_lit_step k59 _ 59 ?hg (N := 36) ?hd (xs := ([] : List (S59))) (inner := []) (ok := fun _ => True) (okp := fun _ => True) ?hr ?hp (fun _ hk => hk) trivial (Below.refl _ _) (Nat.le_refl _) (by simp) ?_; (case hd => rfl); (case hg => rfl); (case hr => first | (go_simp; done) | (go_simp; rfl)); (case hp => exact (Reps.none _ _))
           intro v311 w68 ho69 hb hg_ hnew_
           clear hg_ hnew_
           (first | rw [← Ny310.out] at ho69 | (simp only [Int.reduceToNat] at ho69; rw [← Ny310.out] at ho69))
           have n0_ := jA (jZ (zo HO_5) hb)
           have n1_ := jA (Kd.R_elder' (zo HO_7) (Kd.R_base ho69) hb)
           have n2_ := jA (jf (Kd.R_newB (Kd.R_new' ho69 (Kd.R_lt (zo HO_7))) (g := gb309) (o := .cells #[.int .i64 x8_1, .int .i64 t302, .int .i64 t306] 59 (0, 0)) (zk BK309)) (keep_size (w := w) (g := g) (row := none) (zh1 HK GW309)))
           have n3_ := jA (IsS91.below (by repeat (first | (with_reducible first | exact HI0.out | apply IsS91.alloc | apply IsS91.drewN | apply IsS91.drew | apply IsS91.set_1 | apply IsS91.set_2 | refine IsS91.far ?_ NB0_309.out _) | exact HI0.out)) hb)
           have n4_ := jA (blk_below (g := gb309) (o := .cells #[.int .i64 x8_1, .int .i64 t302, .int .i64 t306] 59 (0, 0)) (zk BK309) hb)
           have n5_ := jA (KeepBut.trans (zh1 HK GW309) (KeepBut.of_below hb g none) (.inl rfl))
           have n6_ := jA (jV (by repeat (first | (with_reducible first | exact HB.out | apply jM | apply jE | apply jI | refine jL ?_ (IsS91.ge HI0.out) | refine jL ?_ GE309.out) | exact HB.out)) hb)
           clear HO_5
           clear HO_7
           clear HI0
           clear BK309
           clear HK
           clear HB
           have HO_5 := n0_
           have HO_7 := n1_
           have HO312 := n2_
           have HI0 := n3_
           have BK309 := n4_
           have HK := n5_
           have HB := n6_
           clear n0_ n1_ n2_ n3_ n4_ n5_ n6_
           clear hb ho69
           refine hK.out _ _ ⟨(jF BK309.out 0).trans rfl, (jF BK309.out 1).trans rfl, (jF BK309.out 2).trans rfl⟩ (fun hHeld => ?_)
           clear hK K
           refine norm_ (a' := ?_) ?_ ?_
           rotate_left
           ·show Act.put _ (some 36) _ = _
            simp only [Act.put, jO, jT, jU, i64_w, i32_w]
            rfl
           refine two_ (i := 2) (j := 4) (Ni := some 38) (Nj := some 40) m7_78 m7_6c rfl rfl rfl rfl zr (by decide) (by decide) (fun K hK => ?_) (fun K hK => ?_)
           ·skip
            refine Kd.R_append_rows_step k59 w.heap.size (by rfl) (.tmp 36) (.tmp 37) 50 59 (.agg #[(.int .i64 0), (.int .i64 0), (.int .i64 0)]) 24 rfl Try.underlying50 info59 rfl (by decide) (by omega) v311 y310 x7_1 _ _ _ (fun k_ => some k_ ≠ (.slice Ao65 x7_1.length co65 : Value).ownBlock ∧ k_ ≠ gb309) (fun _ => False) rfl rfl ?aO ?aR (fun _ _ h => h) (fun _ h => h.elim) ?aF (Below.refl _ _) ?aS ?aL ?_
            (case aR => repeat (first | exact (jJ HO_7.out).2.2 | (with_reducible refine jR ?_ _) | (with_reducible refine jQ ?_ _) | (with_reducible refine jS ?_)))
            (case aF => exact (fun k_ hk => ⟨Kd.fresh' (Kd.R_lt (zo HO_7)) k_ hk, Kd.freshB (g := gb309) (o := .cells #[.int .i64 x8_1, .int .i64 t302, .int .i64 t306] 59 (0, 0)) (zk BK309) k_ hk⟩))
            (case aO => exact (by (with_reducible repeat (first | apply jH | apply jG | apply jK)); exact Kd.R_mono HO312.out (fun _ hk => ⟨hk.1.2, hk.2⟩)))
            (case aS => exact (keep_size (w := w) (g := g) (row := none) (zh1 HK GW309)))
            (case aL => have := LMc13.out; omega)
            intro v314 w70 ho hb hg hat
            rw [← Ny313.out] at ho
            have n0_ := jA (Kd.R_over' (zo HO_5) (Kd.R_typed (zo HO312)) (by decide) hg)
            have n1_ := jA (Kd.R_after (ok := (fun k_ => k_ ≠ gb309)) (zo HO_7) hg hat)
            have n2_ := jA (IsS91.grown (by repeat (first | (with_reducible first | exact HI0.out | apply IsS91.alloc | apply IsS91.drewN | apply IsS91.drew | apply IsS91.set_1 | apply IsS91.set_2 | refine IsS91.far ?_ NB0_309.out _) | exact HI0.out)) hg (IsS91.own_ne HI0.out HO312.out (by decide)))
            have n3_ := jA (blk_grown (g := gb309) (o := .cells #[.int .i64 x8_1, .int .i64 t302, .int .i64 t306] 59 (0, 0)) (zk BK309) hg (Kd.R_away HO312.out (fun _ hk => hk.2)))
            have n4_ := jA (below_weaken (by repeat (first | (with_reducible first | exact HB.out | apply jM | apply jE | apply jI | refine jL ?_ (IsS91.ge HI0.out) | refine jL ?_ GE309.out) | exact HB.out)) HL.out hb)
            have n5_ := jA (KeepBut.trans (zh1 HK GW309) (KeepBut.of_grown hg g) (Kd.R_base2 HO312.out))
            have n6_ := jA (ho)
            clear HO_5
            clear HO_7
            clear HI0
            clear BK309
            clear HB
            clear HK
            clear HO312
            have HO_5 := n0_
            have HO_7 := n1_
            have HI0 := n2_
            have BK309 := n3_
            have HB := n4_
            have HK := n5_
            have HO315 := n6_
            clear n0_ n1_ n2_ n3_ n4_ n5_ n6_
            clear ho hb hg hat
            refine hK.out _ _ ⟨(jF BK309.out 0).trans rfl, (jF BK309.out 1).trans rfl, (jF BK309.out 2).trans rfl⟩ (fun hHeld => ?_)
            clear hK K
            refine norm_ (a' := ?_) ?_ ?_
            rotate_left
            ·show Act.put _ (some 38) _ = _
             simp only [Act.put, jO, jT, jU, i64_w, i32_w]
             rfl
            refine one_ (i := 4) (N := some 40) m7_7c rfl rfl zr (by decide) (fun K hK => ?_)
            refine Kd.R_lit_step k59 _ 59 ?hg (N := 40) ?hd (xs := ([(⟨x8_1, t302, t306⟩ : S59)] : List (S59))) (inner := [.int .i64 x8_1, .int .i64 t302, .int .i64 t306]) (ok := fun _ => True) (okp := fun _ => True) ?hr ?hp (fun _ hk => hk) trivial (Below.refl _ _) (Nat.le_refl _) (by simp) ?_; (case hd => rfl); (case hg => rfl); (case hr => first | (go_simp; done) | (go_simp; rfl)); (case hp => exact (Reps.c3 (show Kd.M k59 _ _ _ (⟨x8_1, t302, t306⟩ : S59) [.int .i64 x8_1, .int .i64 t302, .int .i64 t306] from (k59_mkM _ _ _ (⟨x8_1, t302, t306⟩ : S59) )) (Reps.none _ _)))
            intro v317 w71 ho72 hb hg_ hnew_
            clear hg_ hnew_
            (first | rw [← Ny316.out] at ho72 | (simp only [Int.reduceToNat] at ho72; rw [← Ny316.out] at ho72))
            have n0_ := jA (jZ (zo HO_5) hb)
            have n1_ := jA (Kd.R_elder' (zo HO_7) (Kd.R_base ho72) hb)
            have n2_ := jA (Kd.R_elder' (zo HO315) (Kd.R_base ho72) hb)
            have n3_ := jA (jf (Kd.R_newB (Kd.R_new' (Kd.R_new' ho72 (Kd.R_lt (zo HO_7))) (Kd.R_lt (zo HO315))) (g := gb309) (o := .cells #[.int .i64 x8_1, .int .i64 t302, .int .i64 t306] 59 (0, 0)) (zk BK309)) (keep_size (w := w) (g := g) (row := none) (zh1 HK GW309)))
            have n4_ := jA (IsS91.below (by repeat (first | (with_reducible first | exact HI0.out | apply IsS91.alloc | apply IsS91.drewN | apply IsS91.drew | apply IsS91.set_1 | apply IsS91.set_2 | refine IsS91.far ?_ NB0_309.out _) | exact HI0.out)) hb)
            have n5_ := jA (blk_below (g := gb309) (o := .cells #[.int .i64 x8_1, .int .i64 t302, .int .i64 t306] 59 (0, 0)) (zk BK309) hb)
            have n6_ := jA (KeepBut.trans (zh1 HK GW309) (KeepBut.of_below hb g none) (.inl rfl))
            have n7_ := jA (jV (by repeat (first | (with_reducible first | exact HB.out | apply jM | apply jE | apply jI | refine jL ?_ (IsS91.ge HI0.out) | refine jL ?_ GE309.out) | exact HB.out)) hb)
            clear HO_5
            clear HO_7
            clear HO315
            clear HI0
            clear BK309
            clear HK
            clear HB
            have HO_5 := n0_
            have HO_7 := n1_
            have HO315 := n2_
            have HO318 := n3_
            have HI0 := n4_
            have BK309 := n5_
            have HK := n6_
            have HB := n7_
            clear n0_ n1_ n2_ n3_ n4_ n5_ n6_ n7_
            clear hb ho72
            refine hK.out _ _ ⟨(jF BK309.out 0).trans rfl, (jF BK309.out 1).trans rfl, (jF BK309.out 2).trans rfl⟩ (fun hHeld => ?_)
            clear hK K
            refine norm_ (a' := ?_) ?_ ?_
            rotate_left
            ·show Act.put _ (some 40) _ = _
             simp only [Act.put, jO, jT, jU, i64_w, i32_w]
             rfl
            exact norm_ (by simp only [putAll, Act.put, jO, jT, jU]) (hCont (v311, v314, v317) _ ⟨hHeld, (by (with_reducible repeat (first | apply jH | apply jG | apply jK)); exact Kd.R_mono HO315.out (fun _ hk => ⟨hk.2, ⟨hk.1.1, hk.1.2⟩⟩)), (by (with_reducible repeat (first | apply jH | apply jG | apply jK)); exact Kd.R_mono HO318.out (fun _ hk => ⟨hk.1.2, ⟨hk.1.1.2, hk.2⟩⟩)), (zo HO_5), (by (with_reducible repeat (first | apply jH | apply jG | apply jK)); exact Kd.R_mono HO_7.out (fun _ hk => ⟨hk.1.2, ⟨hk.2, hk.1.1⟩⟩)), (zk BK309), (by repeat (first | (with_reducible first | exact HI0.out | apply IsS91.alloc | apply IsS91.drewN | apply IsS91.drew | apply IsS91.set_1 | apply IsS91.set_2 | refine IsS91.far ?_ NB0_309.out _) | exact HI0.out)), (zh1 HK GW309), (by repeat (first | (with_reducible first | exact HB.out | apply jM | apply jE | apply jI | refine jL ?_ (IsS91.ge HI0.out) | refine jL ?_ GE309.out) | exact HB.out))⟩)
           ·skip
            refine Kd.R_lit_step k59 _ 59 ?hg (N := 40) ?hd (xs := ([(⟨x8_1, t302, t306⟩ : S59)] : List (S59))) (inner := [.int .i64 x8_1, .int .i64 t302, .int .i64 t306]) (ok := fun _ => True) (okp := fun _ => True) ?hr ?hp (fun _ hk => hk) trivial (Below.refl _ _) (Nat.le_refl _) (by simp) ?_; (case hd => rfl); (case hg => rfl); (case hr => first | (go_simp; done) | (go_simp; rfl)); (case hp => exact (Reps.c3 (show Kd.M k59 _ _ _ (⟨x8_1, t302, t306⟩ : S59) [.int .i64 x8_1, .int .i64 t302, .int .i64 t306] from (k59_mkM _ _ _ (⟨x8_1, t302, t306⟩ : S59) )) (Reps.none _ _)))
            intro v317 w70 ho71 hb hg_ hnew_
            clear hg_ hnew_
            (first | rw [← Ny316.out] at ho71 | (simp only [Int.reduceToNat] at ho71; rw [← Ny316.out] at ho71))
            have n0_ := jA (jZ (zo HO_5) hb)
            have n1_ := jA (Kd.R_elder' (zo HO_7) (Kd.R_base ho71) hb)
            have n2_ := jA (Kd.R_elder' (zo HO312) (Kd.R_base ho71) hb)
            have n3_ := jA (jf (Kd.R_newB (Kd.R_new' (Kd.R_new' ho71 (Kd.R_lt (zo HO_7))) (Kd.R_lt (zo HO312))) (g := gb309) (o := .cells #[.int .i64 x8_1, .int .i64 t302, .int .i64 t306] 59 (0, 0)) (zk BK309)) (keep_size (w := w) (g := g) (row := none) (zh1 HK GW309)))
            have n4_ := jA (IsS91.below (by repeat (first | (with_reducible first | exact HI0.out | apply IsS91.alloc | apply IsS91.drewN | apply IsS91.drew | apply IsS91.set_1 | apply IsS91.set_2 | refine IsS91.far ?_ NB0_309.out _) | exact HI0.out)) hb)
            have n5_ := jA (blk_below (g := gb309) (o := .cells #[.int .i64 x8_1, .int .i64 t302, .int .i64 t306] 59 (0, 0)) (zk BK309) hb)
            have n6_ := jA (KeepBut.trans (zh1 HK GW309) (KeepBut.of_below hb g none) (.inl rfl))
            have n7_ := jA (jV (by repeat (first | (with_reducible first | exact HB.out | apply jM | apply jE | apply jI | refine jL ?_ (IsS91.ge HI0.out) | refine jL ?_ GE309.out) | exact HB.out)) hb)
            clear HO_5
            clear HO_7
            clear HO312
            clear HI0
            clear BK309
            clear HK
            clear HB
            have HO_5 := n0_
            have HO_7 := n1_
            have HO312 := n2_
            have HO318 := n3_
            have HI0 := n4_
            have BK309 := n5_
            have HK := n6_
            have HB := n7_
            clear n0_ n1_ n2_ n3_ n4_ n5_ n6_ n7_
            clear hb ho71
            refine hK.out _ _ ⟨(jF BK309.out 0).trans rfl, (jF BK309.out 1).trans rfl, (jF BK309.out 2).trans rfl⟩ (fun hHeld => ?_)
            clear hK K
            refine norm_ (a' := ?_) ?_ ?_
            rotate_left
            ·show Act.put _ (some 40) _ = _
             simp only [Act.put, jO, jT, jU, i64_w, i32_w]
             rfl
            refine one_ (i := 2) (N := some 38) m7_7c rfl rfl zr (by decide) (fun K hK => ?_)
            refine Kd.R_append_rows_step k59 w.heap.size (by rfl) (.tmp 36) (.tmp 37) 50 59 (.agg #[(.int .i64 0), (.int .i64 0), (.int .i64 0)]) 24 rfl Try.underlying50 info59 rfl (by decide) (by omega) v311 y310 x7_1 _ _ _ (fun k_ => some k_ ≠ (.slice Ao65 x7_1.length co65 : Value).ownBlock ∧ some k_ ≠ (v317 : Value).ownBlock ∧ k_ ≠ gb309) (fun _ => False) rfl rfl ?aO ?aR (fun _ _ h => h) (fun _ h => h.elim) ?aF (Below.refl _ _) ?aS ?aL ?_
            (case aR => repeat (first | exact (jJ HO_7.out).2.2 | (with_reducible refine jR ?_ _) | (with_reducible refine jQ ?_ _) | (with_reducible refine jS ?_)))
            (case aF => exact (fun k_ hk => ⟨Kd.fresh' (Kd.R_lt (zo HO_7)) k_ hk, Kd.fresh' (Kd.R_lt (zo HO318)) k_ hk, Kd.freshB (g := gb309) (o := .cells #[.int .i64 x8_1, .int .i64 t302, .int .i64 t306] 59 (0, 0)) (zk BK309) k_ hk⟩))
            (case aO => exact (by (with_reducible repeat (first | apply jH | apply jG | apply jK)); exact Kd.R_mono HO312.out (fun _ hk => ⟨hk.1.1.2, ⟨hk.2, hk.1.2⟩⟩)))
            (case aS => exact (keep_size (w := w) (g := g) (row := none) (zh1 HK GW309)))
            (case aL => have := LMc13.out; omega)
            intro v314 w72 ho hb hg hat
            rw [← Ny313.out] at ho
            have n0_ := jA (Kd.R_over' (zo HO_5) (Kd.R_typed (zo HO312)) (by decide) hg)
            have n1_ := jA (Kd.R_after (ok := (fun k_ => some k_ ≠ (v317 : Value).ownBlock ∧ k_ ≠ gb309)) (by (with_reducible repeat (first | apply jH | apply jG | apply jK)); exact Kd.R_mono HO_7.out (fun _ hk => ⟨⟨hk.2, hk.1.1⟩, hk.1.2⟩)) hg hat)
            have n2_ := jA (IsS91.grown (by repeat (first | (with_reducible first | exact HI0.out | apply IsS91.alloc | apply IsS91.drewN | apply IsS91.drew | apply IsS91.set_1 | apply IsS91.set_2 | refine IsS91.far ?_ NB0_309.out _) | exact HI0.out)) hg (IsS91.own_ne HI0.out HO312.out (by decide)))
            have n3_ := jA (blk_grown (g := gb309) (o := .cells #[.int .i64 x8_1, .int .i64 t302, .int .i64 t306] 59 (0, 0)) (zk BK309) hg (Kd.R_away HO312.out (fun _ hk => hk.1.2)))
            have n4_ := jA (Kd.R_after (ok := (fun k_ => some k_ ≠ (.slice Ao65 x7_1.length co65 : Value).ownBlock ∧ k_ ≠ gb309)) (by (with_reducible repeat (first | apply jH | apply jG | apply jK)); exact Kd.R_mono HO318.out (fun _ hk => ⟨⟨hk.1.1.2, hk.2⟩, hk.1.2⟩)) hg hat)
            have n5_ := jA (below_weaken (by repeat (first | (with_reducible first | exact HB.out | apply jM | apply jE | apply jI | refine jL ?_ (IsS91.ge HI0.out) | refine jL ?_ GE309.out) | exact HB.out)) HL.out hb)
            have n6_ := jA (KeepBut.trans (zh1 HK GW309) (KeepBut.of_grown hg g) (Kd.R_base2 HO312.out))
            have n7_ := jA (ho)
            clear HO_5
            clear HO_7
            clear HI0
            clear BK309
            clear HO318
            clear HB
            clear HK
            clear HO312
            have HO_5 := n0_
            have HO_7 := n1_
            have HI0 := n2_
            have BK309 := n3_
            have HO318 := n4_
            have HB := n5_
            have HK := n6_
            have HO315 := n7_
            clear n0_ n1_ n2_ n3_ n4_ n5_ n6_ n7_
            clear ho hb hg hat
            refine hK.out _ _ ⟨(jF BK309.out 0).trans rfl, (jF BK309.out 1).trans rfl, (jF BK309.out 2).trans rfl⟩ (fun hHeld => ?_)
            clear hK K
            refine norm_ (a' := ?_) ?_ ?_
            rotate_left
            ·show Act.put _ (some 38) _ = _
             simp only [Act.put, jO, jT, jU, i64_w, i32_w]
             rfl
            exact norm_ (by simp only [putAll, Act.put, jO, jT, jU]) (hCont (v311, v314, v317) _ ⟨hHeld, (by (with_reducible repeat (first | apply jH | apply jG | apply jK)); exact Kd.R_mono HO315.out (fun _ hk => ⟨hk.2.1, ⟨hk.1, hk.2.2⟩⟩)), (by (with_reducible repeat (first | apply jH | apply jG | apply jK)); exact Kd.R_mono HO318.out (fun _ hk => ⟨hk.2, ⟨hk.1.1, hk.1.2⟩⟩)), (zo HO_5), (by (with_reducible repeat (first | apply jH | apply jG | apply jK)); exact Kd.R_mono HO_7.out (fun _ hk => ⟨hk.2, ⟨hk.1.1, hk.1.2⟩⟩)), (zk BK309), (by repeat (first | (with_reducible first | exact HI0.out | apply IsS91.alloc | apply IsS91.drewN | apply IsS91.drew | apply IsS91.set_1 | apply IsS91.set_2 | refine IsS91.far ?_ NB0_309.out _) | exact HI0.out)), (zh1 HK GW309), (by repeat (first | (with_reducible first | exact HB.out | apply jM | apply jE | apply jI | refine jL ?_ (IsS91.ge HI0.out) | refine jL ?_ GE309.out) | exact HB.out))⟩)
          ·skip
           refine Kd.R_lit_step k59 _ 59 ?hg (N := 40) ?hd (xs := ([(⟨x8_1, t302, t306⟩ : S59)] : List (S59))) (inner := [.int .i64 x8_1, .int .i64 t302, .int .i64 t306]) (ok := fun _ => True) (okp := fun _ => True) ?hr ?hp (fun _ hk => hk) trivial (Below.refl _ _) (Nat.le_refl _) (by simp) ?_; (case hd => rfl); (case hg => rfl); (case hr => first | (go_simp; done) | (go_simp; rfl)); (case hp => exact (Reps.c3 (show Kd.M k59 _ _ _ (⟨x8_1, t302, t306⟩ : S59) [.int .i64 x8_1, .int .i64 t302, .int .i64 t306] from (k59_mkM _ _ _ (⟨x8_1, t302, t306⟩ : S59) )) (Reps.none _ _)))
           intro v317 w68 ho69 hb hg_ hnew_
           clear hg_ hnew_
           (first | rw [← Ny316.out] at ho69 | (simp only [Int.reduceToNat] at ho69; rw [← Ny316.out] at ho69))
           have n0_ := jA (jZ (zo HO_5) hb)
           have n1_ := jA (Kd.R_elder' (zo HO_7) (Kd.R_base ho69) hb)
           have n2_ := jA (jf (Kd.R_newB (Kd.R_new' ho69 (Kd.R_lt (zo HO_7))) (g := gb309) (o := .cells #[.int .i64 x8_1, .int .i64 t302, .int .i64 t306] 59 (0, 0)) (zk BK309)) (keep_size (w := w) (g := g) (row := none) (zh1 HK GW309)))
           have n3_ := jA (IsS91.below (by repeat (first | (with_reducible first | exact HI0.out | apply IsS91.alloc | apply IsS91.drewN | apply IsS91.drew | apply IsS91.set_1 | apply IsS91.set_2 | refine IsS91.far ?_ NB0_309.out _) | exact HI0.out)) hb)
           have n4_ := jA (blk_below (g := gb309) (o := .cells #[.int .i64 x8_1, .int .i64 t302, .int .i64 t306] 59 (0, 0)) (zk BK309) hb)
           have n5_ := jA (KeepBut.trans (zh1 HK GW309) (KeepBut.of_below hb g none) (.inl rfl))
           have n6_ := jA (jV (by repeat (first | (with_reducible first | exact HB.out | apply jM | apply jE | apply jI | refine jL ?_ (IsS91.ge HI0.out) | refine jL ?_ GE309.out) | exact HB.out)) hb)
           clear HO_5
           clear HO_7
           clear HI0
           clear BK309
           clear HK
           clear HB
           have HO_5 := n0_
           have HO_7 := n1_
           have HO318 := n2_
           have HI0 := n3_
           have BK309 := n4_
           have HK := n5_
           have HB := n6_
           clear n0_ n1_ n2_ n3_ n4_ n5_ n6_
           clear hb ho69
           refine hK.out _ _ ⟨(jF BK309.out 0).trans rfl, (jF BK309.out 1).trans rfl, (jF BK309.out 2).trans rfl⟩ (fun hHeld => ?_)
           clear hK K
           refine norm_ (a' := ?_) ?_ ?_
           rotate_left
           ·show Act.put _ (some 40) _ = _
            simp only [Act.put, jO, jT, jU, i64_w, i32_w]
            rfl
           refine one_ (i := 0) (N := some 36) m7_6c rfl rfl zr (by decide) (fun K hK => ?_)
           refine Kd.R_lit_step k59 _ 59 ?hg (N := 36) ?hd (xs := ([] : List (S59))) (inner := []) (ok := fun _ => True) (okp := fun _ => True) ?hr ?hp (fun _ hk => hk) trivial (Below.refl _ _) (Nat.le_refl _) (by simp) ?_; (case hd => rfl); (case hg => rfl); (case hr => first | (go_simp; done) | (go_simp; rfl)); (case hp => exact (Reps.none _ _))
           intro v311 w70 ho71 hb hg_ hnew_
           clear hg_ hnew_
           (first | rw [← Ny310.out] at ho71 | (simp only [Int.reduceToNat] at ho71; rw [← Ny310.out] at ho71))
           have n0_ := jA (jZ (zo HO_5) hb)
           have n1_ := jA (Kd.R_elder' (zo HO_7) (Kd.R_base ho71) hb)
           have n2_ := jA (Kd.R_elder' (zo HO318) (Kd.R_base ho71) hb)
           have n3_ := jA (jf (Kd.R_newB (Kd.R_new' (Kd.R_new' ho71 (Kd.R_lt (zo HO_7))) (Kd.R_lt (zo HO318))) (g := gb309) (o := .cells #[.int .i64 x8_1, .int .i64 t302, .int .i64 t306] 59 (0, 0)) (zk BK309)) (keep_size (w := w) (g := g) (row := none) (zh1 HK GW309)))
           have n4_ := jA (IsS91.below (by repeat (first | (with_reducible first | exact HI0.out | apply IsS91.alloc | apply IsS91.drewN | apply IsS91.drew | apply IsS91.set_1 | apply IsS91.set_2 | refine IsS91.far ?_ NB0_309.out _) | exact HI0.out)) hb)
           have n5_ := jA (blk_below (g := gb309) (o := .cells #[.int .i64 x8_1, .int .i64 t302, .int .i64 t306] 59 (0, 0)) (zk BK309) hb)
           have n6_ := jA (KeepBut.trans (zh1 HK GW309) (KeepBut.of_below hb g none) (.inl rfl))
           have n7_ := jA (jV (by repeat (first | (with_reducible first | exact HB.out | apply jM | apply jE | apply jI | refine jL ?_ (IsS91.ge HI0.out) | refine jL ?_ GE309.out) | exact HB.out)) hb)
           clear HO_5
           clear HO_7
           clear HO318
           clear HI0
           clear BK309
           clear HK
           clear HB
           have HO_5 := n0_
           have HO_7 := n1_
           have HO318 := n2_
           have HO312 := n3_
           have HI0 := n4_
           have BK309 := n5_
           have HK := n6_
           have HB := n7_
           clear n0_ n1_ n2_ n3_ n4_ n5_ n6_ n7_
           clear hb ho71
           refine hK.out _ _ ⟨(jF BK309.out 0).trans rfl, (jF BK309.out 1).trans rfl, (jF BK309.out 2).trans rfl⟩ (fun hHeld => ?_)
           clear hK K
           refine norm_ (a' := ?_) ?_ ?_
           rotate_left
           ·show Act.put _ (some 36) _ = _
            simp only [Act.put, jO, jT, jU, i64_w, i32_w]
            rfl
           refine one_ (i := 2) (N := some 38) m7_7c rfl rfl zr (by decide) (fun K hK => ?_)
           refine Kd.R_append_rows_step k59 w.heap.size (by rfl) (.tmp 36) (.tmp 37) 50 59 (.agg #[(.int .i64 0), (.int .i64 0), (.int .i64 0)]) 24 rfl Try.underlying50 info59 rfl (by decide) (by omega) v311 y310 x7_1 _ _ _ (fun k_ => some k_ ≠ (.slice Ao65 x7_1.length co65 : Value).ownBlock ∧ some k_ ≠ (v317 : Value).ownBlock ∧ k_ ≠ gb309) (fun _ => False) rfl rfl ?aO ?aR (fun _ _ h => h) (fun _ h => h.elim) ?aF (Below.refl _ _) ?aS ?aL ?_
           (case aR => repeat (first | exact (jJ HO_7.out).2.2 | (with_reducible refine jR ?_ _) | (with_reducible refine jQ ?_ _) | (with_reducible refine jS ?_)))
           (case aF => exact (fun k_ hk => ⟨Kd.fresh' (Kd.R_lt (zo HO_7)) k_ hk, Kd.fresh' (Kd.R_lt (zo HO318)) k_ hk, Kd.freshB (g := gb309) (o := .cells #[.int .i64 x8_1, .int .i64 t302, .int .i64 t306] 59 (0, 0)) (zk BK309) k_ hk⟩))
           (case aO => exact (by (with_reducible repeat (first | apply jH | apply jG | apply jK)); exact Kd.R_mono HO312.out (fun _ hk => ⟨hk.1.1.2, ⟨hk.1.2, hk.2⟩⟩)))
           (case aS => exact (keep_size (w := w) (g := g) (row := none) (zh1 HK GW309)))
           (case aL => have := LMc13.out; omega)
           intro v314 w72 ho hb hg hat
           rw [← Ny313.out] at ho
           have n0_ := jA (Kd.R_over' (zo HO_5) (Kd.R_typed (zo HO312)) (by decide) hg)
           have n1_ := jA (Kd.R_after (ok := (fun k_ => some k_ ≠ (v317 : Value).ownBlock ∧ k_ ≠ gb309)) (by (with_reducible repeat (first | apply jH | apply jG | apply jK)); exact Kd.R_mono HO_7.out (fun _ hk => ⟨⟨hk.1.2, hk.1.1⟩, hk.2⟩)) hg hat)
           have n2_ := jA (IsS91.grown (by repeat (first | (with_reducible first | exact HI0.out | apply IsS91.alloc | apply IsS91.drewN | apply IsS91.drew | apply IsS91.set_1 | apply IsS91.set_2 | refine IsS91.far ?_ NB0_309.out _) | exact HI0.out)) hg (IsS91.own_ne HI0.out HO312.out (by decide)))
           have n3_ := jA (blk_grown (g := gb309) (o := .cells #[.int .i64 x8_1, .int .i64 t302, .int .i64 t306] 59 (0, 0)) (zk BK309) hg (Kd.R_away HO312.out (fun _ hk => hk.2)))
           have n4_ := jA (Kd.R_after (ok := (fun k_ => some k_ ≠ (.slice Ao65 x7_1.length co65 : Value).ownBlock ∧ k_ ≠ gb309)) (by (with_reducible repeat (first | apply jH | apply jG | apply jK)); exact Kd.R_mono HO318.out (fun _ hk => ⟨⟨hk.1.1.2, hk.1.2⟩, hk.2⟩)) hg hat)
           have n5_ := jA (below_weaken (by repeat (first | (with_reducible first | exact HB.out | apply jM | apply jE | apply jI | refine jL ?_ (IsS91.ge HI0.out) | refine jL ?_ GE309.out) | exact HB.out)) HL.out hb)
           have n6_ := jA (KeepBut.trans (zh1 HK GW309) (KeepBut.of_grown hg g) (Kd.R_base2 HO312.out))
           have n7_ := jA (ho)
           clear HO_5
           clear HO_7
           clear HI0
           clear BK309
           clear HO318
           clear HB
           clear HK
           clear HO312
           have HO_5 := n0_
           have HO_7 := n1_
           have HI0 := n2_
           have BK309 := n3_
           have HO318 := n4_
           have HB := n5_
           have HK := n6_
           have HO315 := n7_
           clear n0_ n1_ n2_ n3_ n4_ n5_ n6_ n7_
           clear ho hb hg hat
           refine hK.out _ _ ⟨(jF BK309.out 0).trans rfl, (jF BK309.out 1).trans rfl, (jF BK309.out 2).trans rfl⟩ (fun hHeld => ?_)
           clear hK K
           refine norm_ (a' := ?_) ?_ ?_
           rotate_left
           ·show Act.put _ (some 38) _ = _
            simp only [Act.put, jO, jT, jU, i64_w, i32_w]
            rfl
           exact norm_ (by simp only [putAll, Act.put, jO, jT, jU]) (hCont (v311, v314, v317) _ ⟨hHeld, (by (with_reducible repeat (first | apply jH | apply jG | apply jK)); exact Kd.R_mono HO315.out (fun _ hk => ⟨hk.2.1, ⟨hk.1, hk.2.2⟩⟩)), (by (with_reducible repeat (first | apply jH | apply jG | apply jK)); exact Kd.R_mono HO318.out (fun _ hk => ⟨hk.2, ⟨hk.1.1, hk.1.2⟩⟩)), (zo HO_5), (by (with_reducible repeat (first | apply jH | apply jG | apply jK)); exact Kd.R_mono HO_7.out (fun _ hk => ⟨hk.2, ⟨hk.1.1, hk.1.2⟩⟩)), (zk BK309), (by repeat (first | (with_reducible first | exact HI0.out | apply IsS91.alloc | apply IsS91.drewN | apply IsS91.drew | apply IsS91.set_1 | apply IsS91.set_2 | refine IsS91.far ?_ NB0_309.out _) | exact HI0.out)), (zh1 HK GW309), (by repeat (first | (with_reducible first | exact HB.out | apply jM | apply jE | apply jI | refine jL ?_ (IsS91.ge HI0.out) | refine jL ?_ GE309.out) | exact HB.out))⟩)
         rintro ⟨v311, v314, v317⟩ w73 ⟨hS_, h0_, h1_, h2_, h3_, h4_, h5_, h6_, h7_⟩
         have n0_ : Aside0 (Kd.R k59 59 w73 w.heap.size (fun k_ => some k_ ≠ (v317 : Value).ownBlock ∧ some k_ ≠ (.slice Ao65 x7_1.length co65 : Value).ownBlock ∧ k_ ≠ gb309) v314 y313) := ⟨h0_⟩
         have n1_ : Aside0 (Kd.R k59 59 w73 w.heap.size (fun k_ => some k_ ≠ (v314 : Value).ownBlock ∧ some k_ ≠ (.slice Ao65 x7_1.length co65 : Value).ownBlock ∧ k_ ≠ gb309) v317 y316) := ⟨h1_⟩
         have n2_ : Aside0 (Kd.R k63 63 w73 w.heap.size (fun _ => True) (.slice (some ad305) t291.length co59) t291) := ⟨h2_⟩
         have n3_ : Aside0 (Kd.R k59 59 w73 w.heap.size (fun k_ => some k_ ≠ (v314 : Value).ownBlock ∧ some k_ ≠ (v317 : Value).ownBlock ∧ k_ ≠ gb309) (.slice Ao65 x7_1.length co65) x7_1) := ⟨h3_⟩
         have n4_ : Aside0 (w73.heap[gb309]? = some (.cells #[.int .i64 x8_1, .int .i64 t302, .int .i64 t306] 59 (0, 0))) := ⟨h4_⟩
         have n5_ : Aside0 (IsS91 w0 w73 g s0_0 t307 t308) := ⟨h5_⟩
         have n6_ : Aside0 (KeepBut w w73 g none) := ⟨h6_⟩
         have n7_ : Aside0 (Below w0.heap.size w0 w73) := ⟨h7_⟩
         clear HO_5
         clear HO_7
         clear BK309
         clear HI0
         clear HK
         clear HB
         clear h0_ h1_ h2_ h3_ h4_ h5_ h6_ h7_
         have HO315 := n0_
         have HO318 := n1_
         have HO_5 := n2_
         have HO_7 := n3_
         have BK309 := n4_
         have HI0 := n5_
         have HK := n6_
         have HB := n7_
         clear n0_ n1_ n2_ n3_ n4_ n5_ n6_ n7_
         have hHeld : w73.cell? ⟨gb309, 0, none⟩ = some (.int .i64 x8_1) ∧ w73.cell? ⟨gb309, 1, none⟩ = some (.int .i64 t302) ∧ w73.cell? ⟨gb309, 2, none⟩ = some (.int .i64 t306) := hS_
         obtain ⟨Ao75, co75, eo75⟩ := Kd.R_slice HO318.out
         (first | subst eo75 | (injection eo75 with f1_ f2_ f3_; have f4_ := f1_.symm; have f5_ := f3_.symm; clear f1_ f2_ f3_; subst f4_; subst f5_))
         refine norm_ (a' := ?_) ?_ ?_
         rotate_left
         ·simp only [putAll, Act.put, jO, jT, jU]
          rfl
         refine one_ (i := 5) (N := some 41) m7_7e rfl rfl zr (by decide) (fun K hK => ?_)
         refine Kd.R_append_rows_step k59 w.heap.size (by rfl) (.tmp 38) (.tmp 40) 50 59 (.agg #[(.int .i64 0), (.int .i64 0), (.int .i64 0)]) 24 rfl Try.underlying50 info59 rfl (by decide) (by omega) v314 y313 y316 _ _ _ (fun k_ => some k_ ≠ (.slice Ao65 x7_1.length co65 : Value).ownBlock ∧ some k_ ≠ (.slice Ao75 y316.length co75 : Value).ownBlock ∧ k_ ≠ gb309) (fun _ => False) rfl rfl ?aO ?aR (fun _ _ h => h) (fun _ h => h.elim) ?aF (Below.refl _ _) ?aS ?aL ?_
         (case aR => repeat (first | exact (jJ HO318.out).2.2 | (with_reducible refine jR ?_ _) | (with_reducible refine jQ ?_ _) | (with_reducible refine jS ?_)))
         (case aF => exact (fun k_ hk => ⟨Kd.fresh' (Kd.R_lt (zo HO_7)) k_ hk, Kd.fresh' (Kd.R_lt (zo HO318)) k_ hk, Kd.freshB (g := gb309) (o := .cells #[.int .i64 x8_1, .int .i64 t302, .int .i64 t306] 59 (0, 0)) (zk BK309) k_ hk⟩))
         (case aO => exact (by (with_reducible repeat (first | apply jH | apply jG | apply jK)); exact Kd.R_mono HO315.out (fun _ hk => ⟨hk.2.1, ⟨hk.1, hk.2.2⟩⟩)))
         (case aS => exact (keep_size (w := w) (g := g) (row := none) (zh1 HK GW309)))
         (case aL => have := LMc14.out; omega)
         intro v320 w74 ho hb hg hat
         rw [← Ny319.out] at ho
         have n0_ := jA (Kd.R_over' (zo HO_5) (Kd.R_typed (zo HO315)) (by decide) hg)
         have n1_ := jA (Kd.R_after (ok := (fun k_ => some k_ ≠ (.slice Ao75 y316.length co75 : Value).ownBlock ∧ k_ ≠ gb309)) (by (with_reducible repeat (first | apply jH | apply jG | apply jK)); exact Kd.R_mono HO_7.out (fun _ hk => ⟨⟨hk.2.1, hk.2.2⟩, hk.1⟩)) hg hat)
         have n2_ := jA (IsS91.grown (by repeat (first | (with_reducible first | exact HI0.out | apply IsS91.alloc | apply IsS91.drewN | apply IsS91.drew | apply IsS91.set_1 | apply IsS91.set_2 | refine IsS91.far ?_ NB0_309.out _) | exact HI0.out)) hg (IsS91.own_ne HI0.out HO315.out (by decide)))
         have n3_ := jA (blk_grown (g := gb309) (o := .cells #[.int .i64 x8_1, .int .i64 t302, .int .i64 t306] 59 (0, 0)) (zk BK309) hg (Kd.R_away HO315.out (fun _ hk => hk.2.2)))
         have n4_ := jA (Kd.R_after (ok := (fun k_ => some k_ ≠ (.slice Ao65 x7_1.length co65 : Value).ownBlock ∧ k_ ≠ gb309)) (by (with_reducible repeat (first | apply jH | apply jG | apply jK)); exact Kd.R_mono HO318.out (fun _ hk => ⟨⟨hk.2.1, hk.2.2⟩, hk.1⟩)) hg hat)
         have n5_ := jA (below_weaken (by repeat (first | (with_reducible first | exact HB.out | apply jM | apply jE | apply jI | refine jL ?_ (IsS91.ge HI0.out) | refine jL ?_ GE309.out) | exact HB.out)) HL.out hb)
         have n6_ := jA (KeepBut.trans (zh1 HK GW309) (KeepBut.of_grown hg g) (Kd.R_base2 HO315.out))
         have n7_ := jA (ho)
         clear HO_5
         clear HO_7
         clear HI0
         clear BK309
         clear HO318
         clear HB
         clear HK
         clear HO315
         have HO_5 := n0_
         have HO_7 := n1_
         have HI0 := n2_
         have BK309 := n3_
         have HO318 := n4_
         have HB := n5_
         have HK := n6_
         have HO321 := n7_
         clear n0_ n1_ n2_ n3_ n4_ n5_ n6_ n7_
         clear ho hb hg hat
         refine hK.out _ _ ⟨(jF BK309.out 0).trans rfl, (jF BK309.out 1).trans rfl, (jF BK309.out 2).trans rfl⟩ (fun hHeld => ?_)
         clear hK K
         refine norm_ (a' := ?_) ?_ ?_
         rotate_left
         ·show Act.put _ (some 41) _ = _
          simp only [Act.put, jO, jT, jU, i64_w, i32_w]
          rfl
         refine pure_ (i := 6) (N := some 11) (v := ?_) (a' := ?_) m7_7f rfl rfl zr (fun _ _ _ h => h) (Or.inl ⟨by rfl, ?_⟩) ?_ ?_
         rotate_left
         ·intro w'
          go_simp
          with_reducible rfl
         rotate_left
         ·simp only [Act.put, jO, jT, jU, i64_w, i32_w]
          rfl
         refine done_ zr ?_
         try go_wp2_with (first | ((with_reducible refine jN (f := 66) rfl ?_); refine goesL_ (some 43) rfl rfl Try.func66 zr rfl #[.pointer (some ⟨g, 0, none⟩), .int .i64 3] rfl zm ?_; (with_reducible refine (spec_l01Next.calls g s0_0 t307 t308 3 t322 t323 t324 w0 _ ?side1 ?side2 A15.out).mono ?_); (case side1 => repeat (first | (with_reducible first | exact HI0.out | apply IsS91.alloc | apply IsS91.drewN | apply IsS91.drew | apply IsS91.set_1 | apply IsS91.set_2 | refine IsS91.far ?_ NB0_309.out _) | exact HI0.out)); (case side2 => repeat (first | (with_reducible first | exact HB.out | apply jM | apply jE | apply jI | refine jL ?_ (IsS91.ge HI0.out) | refine jL ?_ GE309.out) | exact HB.out)); rintro e w76 ⟨rfl, hi, hb, hk⟩; refine ⟨_, rfl, ?_⟩; have n0_ := jA (Kd.R_mono (Kd.R_keep (IsS91.apart (show IsS91 w0 _ g s0_0 t307 t308 from by repeat (first | (with_reducible first | exact HI0.out | apply IsS91.alloc | apply IsS91.drewN | apply IsS91.drew | apply IsS91.set_1 | apply IsS91.set_2 | refine IsS91.far ?_ NB0_309.out _) | exact HI0.out)) (zo HO_5) (by decide)) hk (fun _ h => h.2)) (fun _ h => h.1)); have n1_ := jA (Kd.R_mono (Kd.R_keep (IsS91.apart (show IsS91 w0 _ g s0_0 t307 t308 from by repeat (first | (with_reducible first | exact HI0.out | apply IsS91.alloc | apply IsS91.drewN | apply IsS91.drew | apply IsS91.set_1 | apply IsS91.set_2 | refine IsS91.far ?_ NB0_309.out _) | exact HI0.out)) (zo HO_7) (by decide)) hk (fun _ h => h.2)) (fun _ h => h.1)); have n2_ := jA (KeepBut.blk hk (g' := gb309) (o := .cells #[.int .i64 x8_1, .int .i64 t302, .int .i64 t306] 59 (0, 0)) (zk BK309) NB309_0.out (by simp)); have n3_ := jA (Kd.R_mono (Kd.R_keep (IsS91.apart (show IsS91 w0 _ g s0_0 t307 t308 from by repeat (first | (with_reducible first | exact HI0.out | apply IsS91.alloc | apply IsS91.drewN | apply IsS91.drew | apply IsS91.set_1 | apply IsS91.set_2 | refine IsS91.far ?_ NB0_309.out _) | exact HI0.out)) (zo HO318) (by decide)) hk (fun _ h => h.2)) (fun _ h => h.1)); have n4_ := jA (Kd.R_mono (Kd.R_keep (IsS91.apart (show IsS91 w0 _ g s0_0 t307 t308 from by repeat (first | (with_reducible first | exact HI0.out | apply IsS91.alloc | apply IsS91.drewN | apply IsS91.drew | apply IsS91.set_1 | apply IsS91.set_2 | refine IsS91.far ?_ NB0_309.out _) | exact HI0.out)) (zo HO321) (by decide)) hk (fun _ h => h.2)) (fun _ h => h.1)); have n5_ := jA (KeepBut.trans (zh1 HK GW309) hk (.inl rfl)); have n6_ := jA (hb); have n7_ := jA (hi); clear HO_5; clear HO_7; clear BK309; clear HO318; clear HO321; clear HK; clear HB; clear HI0; have HO_5 := n0_; have HO_7 := n1_; have BK309 := n2_; have HO318 := n3_; have HO321 := n4_; have HK := n5_; have HB := n6_; have HI0 := n7_; clear n0_ n1_ n2_ n3_ n4_ n5_ n6_ n7_; (try clear hb); (try clear hb2); (try clear hk); (try clear hi)))
         go_roundg k1
         case measure => have := HK1.out; omega
         case rel => exact ⟨(x7_1), (wrap64 (x8_1 + 1)), (t323), (t324), zz, H', ⟨by have := HK1.out; omega⟩, ⟨by (with_reducible repeat (first | apply jH | apply jG | apply jK)); exact HO_5.out⟩, ⟨by (with_reducible repeat (first | apply jH | apply jG | apply jK)); exact Kd.R_mono HO_7.out (fun _ hk => trivial)⟩, ⟨by repeat (first | (with_reducible first | exact HI0.out | apply IsS91.alloc | apply IsS91.drewN | apply IsS91.drew | apply IsS91.set_1 | apply IsS91.set_2 | refine IsS91.far ?_ NB0_309.out _) | exact HI0.out)⟩, ⟨zh1 HK GW309⟩, ⟨by repeat (first | (with_reducible first | exact HB.out | apply jM | apply jE | apply jI | refine jL ?_ (IsS91.ge HI0.out) | refine jL ?_ GE309.out) | exact HB.out)⟩⟩
       ·rw [if_neg c14] at H
        exact absurd H (by simp)
      ·rw [if_neg c13] at H
       exact absurd H (by simp)
     ·rw [if_neg c11] at H
      exact absurd H (by simp)
    ·rw [if_neg c10] at H
     exact absurd H (by simp)
   ·rw [if_neg c8] at H
    have c8b0 : decide (x8_1 < t296) = false := ja c8
    clear c8
    simp only [je, jg] at H
    obtain ⟨rfl, rfl, rfl, rfl, rfl⟩ := H
    go_wp2
    go_ret3
    exact ⟨_, _, by first | rfl | (simp [errW_none, errW_some] <;> rfl) | (simp [*, errW_none, errW_some] <;> rfl), by (with_reducible repeat (first | apply jH | apply jG | apply jK)); exact HO_5.out, by (with_reducible repeat (first | apply jH | apply jG | apply jK)); exact HO_7.out, by repeat (first | (with_reducible first | exact HI0.out | apply IsS91.alloc | apply IsS91.drewN | apply IsS91.drew | apply IsS91.set_1 | apply IsS91.set_2) | exact HI0.out), by repeat (first | (with_reducible first | exact HB.out | apply jM | apply jE | apply jI | refine jL ?_ (IsS91.ge HI0.out)) | exact HB.out), zh0 HK⟩

end Go.Proofs.Ytddejaomlnldiaa.PFnStops
