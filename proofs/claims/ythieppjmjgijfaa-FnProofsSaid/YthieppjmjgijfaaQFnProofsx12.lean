/- Functions and contracts that FnProofs reaches (13 of 22). -/
import Derived.Test.YthieppjmjgijfaaQFnProofsx11
namespace Go.Proofs.Ythieppjmjgijfaa.PFnProofs
open Go.RowKit Go.Proofs.YthieppjmjgijfaaW.PrintWords Go.Proofs.YthieppjmjgijfaaW.PrintLast Go.Proofs.YthieppjmjgijfaaW.PrintMore
attribute [local go_sem] max2_int min2_int max_two min_two max_three min_three max_four min_four   -- for this text's walks alone
set_option linter.unusedVariables false
set_option linter.unusedSimpArgs false

/-! ### spec_DrawAreClosed: function 54 -/
mutual
def spec_DrawAreClosed.j0 : Nat → List Int → List Int → List Int → Int → Int → Option (List Int × List Int)
 | 0, _, _, _, _, _ => none
 | k + 1, x6, x7, x425000, x425001, x425002 => (spec_l01Next.f x425000 x425001 x425002 2).bind fun bt445 => (if bt445.1 = 0 then (spec_DrawAreClosed.j1 k x6 x7 (decide ((x7.length : Int) > 1)) x425000 bt445.2.1 bt445.2.2) else (spec_DrawAreClosed.j1 k x6 x7 false x425000 bt445.2.1 bt445.2.2))
def spec_DrawAreClosed.j1 : Nat → List Int → List Int → Bool → List Int → Int → Int → Option (List Int × List Int)
 | 0, _, _, _, _, _, _ => none
 | k + 1, x6, x7, x35, x425000, x425001, x425002 => if x35 = true then ((spec_l01Next.f x425000 x425001 x425002 (x7.length : Int)).bind fun bt448 => (if 0 ≤ bt448.1 then (if bt448.1 ≤ (x7.length : Int) then ((spec_l01Own.f (x7.take (bt448.1 : Int).toNat)).bind fun t455 => (if 0 ≤ (wrap64 (bt448.1 + 1)) then (if (wrap64 (bt448.1 + 1)) ≤ (x7.length : Int) then ((some (x7.drop ((wrap64 (bt448.1 + 1)) : Int).toNat : List Int)).bind fun y458 => (if t455.length + y458.length < 17592186044416 then (spec_DrawAreClosed.j2 k x6 (t455 ++ y458) x425000 bt448.2.1 bt448.2.2) else (none))) else (none)) else (none))) else (none)) else (none))) else (spec_DrawAreClosed.j2 k x6 x7 x425000 x425001 x425002)
def spec_DrawAreClosed.j2 : Nat → List Int → List Int → List Int → Int → Int → Option (List Int × List Int)
 | 0, _, _, _, _, _ => none
 | k + 1, x6, x7, x425000, x425001, x425002 => (spec_l01Next.f x425000 x425001 x425002 24).bind fun bt465 => (if bt465.1 = 0 then ((spec_l01Next.f x425000 bt465.2.1 bt465.2.2 161).bind fun bt468 => (if x7.length < 17592186044416 then (some ((x7 ++ [bt468.1]), x6)) else (none))) else (some (x7, x6)))
end
def spec_DrawAreClosed.f (k : Nat) (l0 : List Int) : Option (List Int × List Int) := (spec_l01From.f k l0).bind fun bt421 => ((spec_DrawReachedFrom.f k l0).bind fun bt425 => ((spec_ReachedFrom.f k bt425.1 bt425.2.1 bt425.2.2.1 bt425.2.2.2.1 bt425.2.2.2.2.1 bt425.2.2.2.2.2.1 bt425.2.2.2.2.2.2).bind fun bt435 => (if bt435.2 = 0 then (spec_DrawAreClosed.j0 k bt425.2.2.2.2.2.2 bt435.1 bt421.1 bt421.2.1 bt421.2.2) else ((spec_l01Next.f bt421.1 bt421.2.1 bt421.2.2 160).bind fun bt439 => (spec_DrawAreClosed.j0 k bt425.2.2.2.2.2.2 (([bt439.1] : List Int)) bt421.1 bt439.2.1 bt439.2.2)))))
theorem spec_DrawAreClosed.mono_l : ∀ k, (∀ y0 y1 y2 y3 y4, LeO (spec_DrawAreClosed.j0 k y0 y1 y2 y3 y4) (spec_DrawAreClosed.j0 (k + 1) y0 y1 y2 y3 y4)) ∧ (∀ y0 y1 y2 y3 y4 y5, LeO (spec_DrawAreClosed.j1 k y0 y1 y2 y3 y4 y5) (spec_DrawAreClosed.j1 (k + 1) y0 y1 y2 y3 y4 y5)) ∧ (∀ y0 y1 y2 y3 y4, LeO (spec_DrawAreClosed.j2 k y0 y1 y2 y3 y4) (spec_DrawAreClosed.j2 (k + 1) y0 y1 y2 y3 y4))
 | 0 => ⟨fun _ _ _ _ _ r h => by simp [spec_DrawAreClosed.j0] at h, fun _ _ _ _ _ _ r h => by simp [spec_DrawAreClosed.j1] at h, fun _ _ _ _ _ r h => by simp [spec_DrawAreClosed.j2] at h⟩
 | k + 1 => by
  obtain ⟨ih0, ih1, ih2⟩ := spec_DrawAreClosed.mono_l k
  refine ⟨?_, ?_, ?_⟩
  ·intro y0 y1 y2 y3 y4
   unfold spec_DrawAreClosed.j0
   repeat' first
   | (with_reducible exact ih0 _ _ _ _ _)
   | (with_reducible exact ih1 _ _ _ _ _ _)
   | (with_reducible exact ih2 _ _ _ _ _)
   | (with_reducible exact spec_DrawReachedFrom.mono _ _)
   | (with_reducible exact spec_ReachedFrom.mono _ _ _ _ _ _ _ _)
   | (with_reducible exact spec_l01From.mono _ _)
   | (with_reducible exact LeO.refl _)
   | (with_reducible exact LeO.none _)
   | (with_reducible refine LeO.ite ?_ ?_)
   | (with_reducible refine LeO.bind ?_ (fun _ => ?_))
   | exact ih0 _ _ _ _ _
   | exact ih1 _ _ _ _ _ _
   | exact ih2 _ _ _ _ _
   | exact spec_DrawReachedFrom.mono _ _
   | exact spec_ReachedFrom.mono _ _ _ _ _ _ _ _
   | exact spec_l01From.mono _ _
   | exact LeO.none _
   | refine LeO.ite ?_ ?_
   | refine LeO.bind ?_ (fun _ => ?_)
  ·intro y0 y1 y2 y3 y4 y5
   unfold spec_DrawAreClosed.j1
   repeat' first
   | (with_reducible exact ih0 _ _ _ _ _)
   | (with_reducible exact ih1 _ _ _ _ _ _)
   | (with_reducible exact ih2 _ _ _ _ _)
   | (with_reducible exact spec_DrawReachedFrom.mono _ _)
   | (with_reducible exact spec_ReachedFrom.mono _ _ _ _ _ _ _ _)
   | (with_reducible exact spec_l01From.mono _ _)
   | (with_reducible exact LeO.refl _)
   | (with_reducible exact LeO.none _)
   | (with_reducible refine LeO.ite ?_ ?_)
   | (with_reducible refine LeO.bind ?_ (fun _ => ?_))
   | exact ih0 _ _ _ _ _
   | exact ih1 _ _ _ _ _ _
   | exact ih2 _ _ _ _ _
   | exact spec_DrawReachedFrom.mono _ _
   | exact spec_ReachedFrom.mono _ _ _ _ _ _ _ _
   | exact spec_l01From.mono _ _
   | exact LeO.none _
   | refine LeO.ite ?_ ?_
   | refine LeO.bind ?_ (fun _ => ?_)
  ·intro y0 y1 y2 y3 y4
   unfold spec_DrawAreClosed.j2
   repeat' first
   | (with_reducible exact ih0 _ _ _ _ _)
   | (with_reducible exact ih1 _ _ _ _ _ _)
   | (with_reducible exact ih2 _ _ _ _ _)
   | (with_reducible exact spec_DrawReachedFrom.mono _ _)
   | (with_reducible exact spec_ReachedFrom.mono _ _ _ _ _ _ _ _)
   | (with_reducible exact spec_l01From.mono _ _)
   | (with_reducible exact LeO.refl _)
   | (with_reducible exact LeO.none _)
   | (with_reducible refine LeO.ite ?_ ?_)
   | (with_reducible refine LeO.bind ?_ (fun _ => ?_))
   | exact ih0 _ _ _ _ _
   | exact ih1 _ _ _ _ _ _
   | exact ih2 _ _ _ _ _
   | exact spec_DrawReachedFrom.mono _ _
   | exact spec_ReachedFrom.mono _ _ _ _ _ _ _ _
   | exact spec_l01From.mono _ _
   | exact LeO.none _
   | refine LeO.ite ?_ ?_
   | refine LeO.bind ?_ (fun _ => ?_)
theorem spec_DrawAreClosed.mono : ∀ a0 k, LeO (spec_DrawAreClosed.f k a0) (spec_DrawAreClosed.f (k + 1) a0) := by
 intro a0 k
 obtain ⟨ih0, ih1, ih2⟩ := spec_DrawAreClosed.mono_l k
 unfold spec_DrawAreClosed.f
 repeat' first
   | (with_reducible exact ih0 _ _ _ _ _)
   | (with_reducible exact ih1 _ _ _ _ _ _)
   | (with_reducible exact ih2 _ _ _ _ _)
   | (with_reducible exact spec_DrawReachedFrom.mono _ _)
   | (with_reducible exact spec_ReachedFrom.mono _ _ _ _ _ _ _ _)
   | (with_reducible exact spec_l01From.mono _ _)
   | (with_reducible exact LeO.refl _)
   | (with_reducible exact LeO.none _)
   | (with_reducible refine LeO.ite ?_ ?_)
   | (with_reducible refine LeO.bind ?_ (fun _ => ?_))
   | exact ih0 _ _ _ _ _
   | exact ih1 _ _ _ _ _ _
   | exact ih2 _ _ _ _ _
   | exact spec_DrawReachedFrom.mono _ _
   | exact spec_ReachedFrom.mono _ _ _ _ _ _ _ _
   | exact spec_l01From.mono _ _
   | exact LeO.none _
   | refine LeO.ite ?_ ?_
   | refine LeO.bind ?_ (fun _ => ?_)
def spec_DrawAreClosed.T8 : Bool × List (List Nat × List Nat) := (true, [([], []), ([], []), ([0, 1], [0, 1]), ([2], [2]), ([], []), ([], []), ([5], [5]), ([4, 6], [4, 6]), ([3, 7, 3], [3, 7]), ([8, 8, 0, 1, 2, 3, 4, 5, 6, 7, 8], [0, 4, 8])])
def spec_DrawAreClosed.B8 : List Nat := [0, 0, 3, 7, 0, 0, 32, 112, 255, 511]
theorem spec_DrawAreClosed.tab8 : rtab .any (opsOf Try.f54 8) = spec_DrawAreClosed.T8 := by kernel_rfl
theorem spec_DrawAreClosed.bits8 : waitsOk spec_DrawAreClosed.T8.2 spec_DrawAreClosed.B8 = true := by kernel_rfl
set_option maxHeartbeats 8000000 in
set_option maxRecDepth 100000 in
theorem spec_DrawAreClosed.calls (k : Nat) (A0 : Option Addr) (c0 : Nat) (l0 : List Int) (r1 : List Int) (r2 : List Int) (w : World) (hr0 : Kd.C (Kd.int .u8) w A0 l0.length l0) (hc0 : l0.length ≤ c0) (h : spec_DrawAreClosed.f k l0 = some (r1, r2)) :
  Calls Try.prog 54 #[.slice A0 l0.length c0] w fun e w' => ∃ v0_ v1_ : Value, e = .returned (.tuple #[v0_, v1_]) ∧ Kd.R (Kd.int .i64) 2 w' w.heap.size (fun k_ => some k_ ≠ (v1_ : Value).ownBlock) v0_ r1 ∧ Kd.R (Kd.int .i64) 2 w' w.heap.size (fun k_ => some k_ ≠ (v0_ : Value).ownBlock) v1_ r2 ∧ Below w.heap.size w w' := by
 have hu23 := Try.underlying23
 have HR0 := jA hr0
 have HC0 := jA hc0
 clear hr0 hc0
 have HB := jA (Below.refl w.heap.size w)
 have H := h
 unfold spec_DrawAreClosed.f at H
 clear h
 replace H := jC.mp H
 obtain ⟨⟨t421, t422, t423⟩, A20, H⟩ := H
 try dsimp only at H
 have A2 := jA A20
 clear A20
 replace H := jC.mp H
 obtain ⟨⟨t425, t426, t427, t428, t429, t430, t431⟩, A30, H⟩ := H
 try dsimp only at H
 have A3 := jA A30
 clear A30
 replace H := jC.mp H
 obtain ⟨⟨t435, t438⟩, A40, H⟩ := H
 try dsimp only at H
 have A4 := jA A40
 clear A40
 have HC5 := jA H
 clear H
 go_enter Try.func54, Try.ntmps54
 go_upto_if 24 with (first | ((with_reducible refine jG (f := 60) rfl ?_); refine zL (some 11) Try.func60 #[.slice A0 l0.length c0] ?_; (with_reducible refine (spec_l01From.calls k _ _ l0 t421 t422 t423 w _ ?side1 ?side2 ?side3 A2.out).mono ?_); (case side1 => exact zr1 HB); (case side2 => exact HR0.out); (case side3 => exact HC0.out); rintro e w6 ⟨g424, rfl, hi, hb, hb2⟩; refine ⟨_, rfl, ?_⟩; replace HB := jA (hb); have HI424 := jA (hi); (try clear hb); (try clear hb2); (try clear hk); (try clear hi)) | ((with_reducible refine jG (f := 68) rfl ?_); refine zL (some 14) Try.func68 #[.slice A0 l0.length c0] ?_; (with_reducible refine (spec_DrawReachedFrom.calls k _ _ l0 t425 t426 t427 t428 t429 t430 t431 _ ?side1 ?side2 A3.out).mono ?_); (case side1 => exact zs HR0 HB); (case side2 => exact HC0.out); rintro e w7 ⟨v432, rfl, ho0, hb⟩; refine ⟨_, rfl, ?_⟩; have HO433 := jA (jX ho0 (jT (zr4 HB HI424))); replace HB := jA (jY (zr4 HB HI424) hb); replace HI424 := jA (IsS95.below (zr3 HI424) hb); (try clear hb); (try clear hb2); (try clear hk); (try clear hi); (try clear ho0)) | ((with_reducible refine jJ (N := 5) rfl ?_); (try (refine gate_guard (by rfl) ?_; dsimp only)); refine zE 5 #[.bool false, .bool false, .bool false, .bool false, .bool false, .int .i64 0] 23 ?_; intro gb434 hg w8 hbox hb; replace HO433 := jA (jP (zo HO433) hb); have BK434 := jA (hbox); have GW434 := jA ((by rw [hg]; exact (jT (zr4 HB HI424)) : w.heap.size ≤ gb434)); replace HB := jA (jY (zr4 HB HI424) hb); have GE434 := GW434; have NB424_434 := jA ((by rw [hg]; exact Nat.ne_of_lt (IsS95.lt (show IsS95 w _ g424 t421 t422 t423 from zr3 HI424)) : g424 ≠ gb434)); have NB434_424 := jA ((by rw [hg]; exact Nat.ne_of_gt (IsS95.lt (show IsS95 w _ g424 t421 t422 t423 from zr3 HI424)) : gb434 ≠ g424)); replace HI424 := jA (IsS95.below (zr3 HI424) hb); clear hb hbox hg; have hnb9 := NB434_424.out; have hnc9 := NB424_434.out; have hcz10 := zc6 BK434; obtain ⟨Ao11, co11, eo11⟩ := Kd.R_slice HO433.out; subst eo11) | ((with_reducible refine jG (f := 36) rfl ?_); refine zL (some 20) Try.func36 #[.agg #[.bool t425, .bool t426, .bool t427, .bool t428, .bool t429, .int .i64 t430], .slice Ao11 t431.length co11] ?_; (with_reducible refine (spec_ReachedFrom.calls k t425 t426 t427 t428 t429 t430 _ _ t431 t435 t438 _ ?side1 ?side2 A4.out).mono ?_); (case side1 => refine (jO (e := 2) (base := w.heap.size) (ok := fun k_ => True) (n := t431.length) (c := co11) ?_).2.2; exact (zU HO433 BK434)); (case side2 => exact (jO HO433.out).2.1); rintro e w12 ⟨v436, rfl, ho0, hb⟩; refine ⟨_, rfl, ?_⟩; have HO437 := jA (jX (Kd.R_new' ho0 (Kd.R_lt (zU HO433 BK434))) (jT (zr6 HB HI424 GE434))); replace HO433 := jA (Kd.R_elder' (zU HO433 BK434) (Kd.R_base ho0) hb); replace BK434 := jA (jU (g := gb434) (o := .cells #[.bool t425, .bool t426, .bool t427, .bool t428, .bool t429, .int .i64 t430] 23 (0, 0)) (zP0 BK434) hb); replace HB := jA (jY (zr6 HB HI424 GE434) hb); replace HI424 := jA (IsS95.below (show IsS95 w ((((((w8.setCell ⟨gb434, 0, none⟩ (.bool t425)).setCell ⟨gb434, 1, none⟩ (.bool t426)).setCell ⟨gb434, 2, none⟩ (.bool t427)).setCell ⟨gb434, 3, none⟩ (.bool t428)).setCell ⟨gb434, 4, none⟩ (.bool t429)).setCell ⟨gb434, 5, none⟩ (.int .i64 t430)) g424 t421 t422 t423 from zr5 HI424 NB424_434) hb); (try clear hb); (try clear hb2); (try clear hk); (try clear hi); (try clear ho0)))
 (try simp only [Act.put, jD, jE, jF])
 go_cut [7] (fun v7 wc => ∃ (kq : Nat) (x7_4 : List Int) (x425001_4 : Int) (x425002_4 : Int), Aside0 (spec_DrawAreClosed.j0 kq t431 x7_4 t421 x425001_4 x425002_4 = some (r1, r2)) ∧ Aside0 (kq ≤ k) ∧ Aside0 (Kd.R (Kd.int .i64) 2 wc w.heap.size (fun k_ => some k_ ≠ (v7 : Value).ownBlock) (.slice Ao11 t431.length co11) t431) ∧ Aside0 (Kd.R (Kd.int .i64) 2 wc w.heap.size (fun k_ => some k_ ≠ ((.slice Ao11 t431.length co11) : Value).ownBlock) v7 x7_4) ∧ Aside0 (wc.heap[gb434]? = some (.cells #[.bool t425, .bool t426, .bool t427, .bool t428, .bool t429, .int .i64 t430] 23 (0, 0))) ∧ Aside0 (IsS95 w wc g424 t421 x425001_4 x425002_4) ∧ Aside0 (Below w.heap.size w wc))
 case first =>
  have H := HC5.out
  clear HC5
  by_cases c13 : t438 = 0
  ·rw [if_pos c13] at H
   have c13b0 : (t438 == 0) = true := beq_iff_eq.mpr c13
   have c13b1 : (t438 != 0) = false := bne_eq_false_iff_eq.mpr c13
   clear c13
   (first | rw [c13b0] | (simp only [i64_w, i32_w]; rw [c13b0]) | skip)
   have H' := jA H
   clear H
   go_wp2
   go_meet
   case rel => exact ⟨_, (t435), (t422), (t423), H', ⟨by first | omega | exact Nat.le_refl _⟩, ⟨by (with_reducible repeat (first | apply ja | apply jZ | apply Kd.R_drew)); exact Kd.R_mono HO433.out (fun _ hk => hk.2)⟩, ⟨by (with_reducible repeat (first | apply ja | apply jZ | apply Kd.R_drew)); exact Kd.R_mono HO437.out (fun _ hk => hk.2)⟩, ⟨zk BK434⟩, ⟨zr5 HI424 NB424_434⟩, ⟨zr6 HB HI424 GE434⟩⟩
  ·rw [if_neg c13] at H
   have c13b0 : (t438 == 0) = false := beq_eq_false_iff_ne.mpr c13
   have c13b1 : (t438 != 0) = true := bne_iff_ne.mpr c13
   (first | rw [c13b0] | (simp only [i64_w, i32_w]; rw [c13b0]) | skip)
   replace H := jC.mp H
   obtain ⟨⟨t439, t440, t441⟩, A140, H⟩ := H
   try dsimp only at H
   have A14 := jA A140
   clear A140
   obtain ⟨y442, hy442⟩ : ∃ y_ : List Int, y_ = (([t439] : List Int)) := ⟨_, rfl⟩
   replace H : (spec_DrawAreClosed.j0 k t431 y442 t421 t440 t441) = some (r1, r2) := by first | (rw [hy442]; with_reducible exact H) | (have H2_ := (Option.bind_some _ _).symm.trans H; rw [hy442]; with_reducible exact H2_) | (have H2_ := (Option.bind_some _ _).symm.trans H; with_reducible exact H2_) | with_reducible exact H | (rw [hy442]; exact H) | exact H
   have Ny442 := jA hy442
   clear hy442
   have H' := jA H
   clear H
   go_wp2_with (first | ((with_reducible refine jG (f := 62) rfl ?_); refine zL (some 26) Try.func62 #[.pointer (some ⟨g424, 0, none⟩), .int .i64 160] ?_; (with_reducible refine (spec_l01Next.calls g424 t421 t422 t423 160 t439 t440 t441 w _ ?side1 ?side2 A14.out).mono ?_); (case side1 => exact zr5 HI424 NB424_434); (case side2 => exact zr6 HB HI424 GE434); rintro e w15 ⟨rfl, hi, hb, hk⟩; refine ⟨_, rfl, ?_⟩; replace HO433 := jA (Kd.R_mono (Kd.R_keep (IsS95.apart (show IsS95 w _ g424 t421 t422 t423 from zr5 HI424 NB424_434) (zo HO433) (by decide)) hk (fun _ h => h.2)) (fun _ h => h.1)); replace BK434 := zK hk BK434 NB434_424; replace HO437 := jA (Kd.R_mono (Kd.R_keep (IsS95.apart (show IsS95 w _ g424 t421 t422 t423 from zr5 HI424 NB424_434) (zo HO437) (by decide)) hk (fun _ h => h.2)) (fun _ h => h.1)); replace HB := jA (hb); replace HI424 := jA (hi); (try clear hb); (try clear hb2); (try clear hk); (try clear hi)) | ((with_reducible refine jJ (N := 27) rfl ?_); (try (refine gate_guard (by rfl) ?_; dsimp only)); refine Kd.R_lit (Kd.int .i64) _ 2 ?hg (N := 27) ?hd (xs := ([t439] : List Int)) (inner := [.int .i64 t439]) (ok := fun _ => True) (okp := fun _ => True) ?hr ?hp (fun _ hk => hk) trivial (Below.refl _ _) (Nat.le_refl _) (by simp) ?_; (case hd => rfl); (case hg => rfl); (case hr => first | (go_simp; done) | (go_simp; rfl)); (case hp => exact (Reps.one (show Kd.M (Kd.int .i64) _ _ _ t439 [.int .i64 t439] from rfl) (Reps.none _ _))); intro v443 w16 ho17 hb hg_ hnew_; clear hg_ hnew_; (first | rw [← Ny442.out] at ho17 | (simp only [Int.reduceToNat] at ho17; rw [← Ny442.out] at ho17)); have HO444 := jA (jX (Kd.R_new' (Kd.R_new' ho17 (Kd.R_lt (zo HO433))) (Kd.R_lt (zo HO437))) (jT (zr6 HB HI424 GE434))); replace HO433 := jA (Kd.R_elder' (zo HO433) (Kd.R_base ho17) hb); replace HO437 := jA (Kd.R_elder' (zo HO437) (Kd.R_base ho17) hb); replace BK434 := zB BK434 hb; replace HB := jA (jY (zr6 HB HI424 GE434) hb); replace HI424 := jA (IsS95.below (zr5 HI424 NB424_434) hb); clear hb ho17))
   go_meet
   case rel => exact ⟨_, (y442), (t440), (t441), H', ⟨by first | omega | exact Nat.le_refl _⟩, ⟨by (with_reducible repeat (first | apply ja | apply jZ | apply Kd.R_drew)); exact Kd.R_mono HO433.out (fun _ hk => hk.2)⟩, ⟨by (with_reducible repeat (first | apply ja | apply jZ | apply Kd.R_drew)); exact Kd.R_mono HO444.out (fun _ hk => hk.1.2)⟩, ⟨zk BK434⟩, ⟨zr5 HI424 NB424_434⟩, ⟨zr6 HB HI424 GE434⟩⟩
 case rest =>
  clear HC5
  try clear c1
  try clear p2
  try clear c3
  try clear c5
  try clear c6
  try clear c9
  try clear c13
  try clear c13b0
  try clear c13b1
  try clear hcz10
  obtain ⟨kq, x7_4, x425001_4, x425002_4, HA, HJ4, HO_6, HO_7, BK434, HI424, HB⟩ := hcut
  cases kq with
  | zero => exact absurd HA.out (by simp [spec_DrawAreClosed.j0])
  | succ kj4 =>
   have H := HA.out
   clear HA
   simp only [spec_DrawAreClosed.j0] at H
   have HC18 := jA H
   clear H
   go_upto_region 6 with (fail)
   go_cut [35] (fun v35 wc => ∃ (kq : Nat) (x35_17 : Bool) (x425001_17 : Int) (x425002_17 : Int), v35 = .bool x35_17 ∧ Aside0 (spec_DrawAreClosed.j1 kq t431 x7_4 x35_17 t421 x425001_17 x425002_17 = some (r1, r2)) ∧ Aside0 (kq ≤ kj4) ∧ Aside0 (Kd.R (Kd.int .i64) 2 wc w.heap.size (fun k_ => some k_ ≠ (u7 : Value).ownBlock) (.slice Ao11 t431.length co11) t431) ∧ Aside0 (Kd.R (Kd.int .i64) 2 wc w.heap.size (fun k_ => some k_ ≠ ((.slice Ao11 t431.length co11) : Value).ownBlock) u7 x7_4) ∧ Aside0 (wc.heap[gb434]? = some (.cells #[.bool t425, .bool t426, .bool t427, .bool t428, .bool t429, .int .i64 t430] 23 (0, 0))) ∧ Aside0 (IsS95 w wc g424 t421 x425001_17 x425002_17) ∧ Aside0 (Below w.heap.size w wc))
   case first =>
    have H := HC18.out
    clear HC18
    replace H := jC.mp H
    obtain ⟨⟨t445, t446, t447⟩, A190, H⟩ := H
    try dsimp only at H
    have A19 := jA A190
    clear A190
    by_cases c20 : t445 = 0
    ·rw [if_pos c20] at H
     have c20b0 : (t445 == 0) = true := beq_iff_eq.mpr c20
     have c20b1 : (t445 != 0) = false := bne_eq_false_iff_eq.mpr c20
     clear c20
     (first | rw [c20b0] | (simp only [i64_w, i32_w]; rw [c20b0]) | skip)
     have H' := jA H
     clear H
     go_wp2_with (first | ((with_reducible refine jG (f := 62) rfl ?_); refine zL (some 29) Try.func62 #[.pointer (some ⟨g424, 0, none⟩), .int .i64 2] ?_; (with_reducible refine (spec_l01Next.calls g424 t421 x425001_4 x425002_4 2 t445 t446 t447 w _ ?side1 ?side2 A19.out).mono ?_); (case side1 => exact zr5 HI424 NB424_434); (case side2 => exact zr6 HB HI424 GE434); rintro e w21 ⟨rfl, hi, hb, hk⟩; refine ⟨_, rfl, ?_⟩; replace HO_6 := jA (Kd.R_mono (Kd.R_keep (IsS95.apart (show IsS95 w _ g424 t421 x425001_4 x425002_4 from zr5 HI424 NB424_434) (zo HO_6) (by decide)) hk (fun _ h => h.2)) (fun _ h => h.1)); replace HO_7 := jA (Kd.R_mono (Kd.R_keep (IsS95.apart (show IsS95 w _ g424 t421 x425001_4 x425002_4 from zr5 HI424 NB424_434) (zo HO_7) (by decide)) hk (fun _ h => h.2)) (fun _ h => h.1)); replace BK434 := zK hk BK434 NB434_424; replace HB := jA (hb); replace HI424 := jA (hi); (try clear hb); (try clear hb2); (try clear hk); (try clear hi); obtain ⟨Ao22, co22, eo22⟩ := Kd.R_slice HO_7.out; subst eo22))
     go_meet
     case rel => exact ⟨_, (decide ((x7_4.length : Int) > 1)), (t446), (t447), zz, H', ⟨by have := HJ4.out; first | omega | exact Nat.le_refl _⟩, ⟨zo HO_6⟩, ⟨zo HO_7⟩, ⟨zk BK434⟩, ⟨zr5 HI424 NB424_434⟩, ⟨zr6 HB HI424 GE434⟩⟩
    ·rw [if_neg c20] at H
     have c20b0 : (t445 == 0) = false := beq_eq_false_iff_ne.mpr c20
     have c20b1 : (t445 != 0) = true := bne_iff_ne.mpr c20
     (first | rw [c20b0] | (simp only [i64_w, i32_w]; rw [c20b0]) | skip)
     have H' := jA H
     clear H
     go_wp2_with (first | ((with_reducible refine jG (f := 62) rfl ?_); refine zL (some 29) Try.func62 #[.pointer (some ⟨g424, 0, none⟩), .int .i64 2] ?_; (with_reducible refine (spec_l01Next.calls g424 t421 x425001_4 x425002_4 2 t445 t446 t447 w _ ?side1 ?side2 A19.out).mono ?_); (case side1 => exact zr5 HI424 NB424_434); (case side2 => exact zr6 HB HI424 GE434); rintro e w23 ⟨rfl, hi, hb, hk⟩; refine ⟨_, rfl, ?_⟩; replace HO_6 := jA (Kd.R_mono (Kd.R_keep (IsS95.apart (show IsS95 w _ g424 t421 x425001_4 x425002_4 from zr5 HI424 NB424_434) (zo HO_6) (by decide)) hk (fun _ h => h.2)) (fun _ h => h.1)); replace HO_7 := jA (Kd.R_mono (Kd.R_keep (IsS95.apart (show IsS95 w _ g424 t421 x425001_4 x425002_4 from zr5 HI424 NB424_434) (zo HO_7) (by decide)) hk (fun _ h => h.2)) (fun _ h => h.1)); replace BK434 := zK hk BK434 NB434_424; replace HB := jA (hb); replace HI424 := jA (hi); (try clear hb); (try clear hb2); (try clear hk); (try clear hi)))
     go_meet
     case rel => exact ⟨_, (false), (t446), (t447), zz, H', ⟨by have := HJ4.out; first | omega | exact Nat.le_refl _⟩, ⟨zo HO_6⟩, ⟨zo HO_7⟩, ⟨zk BK434⟩, ⟨zr5 HI424 NB424_434⟩, ⟨zr6 HB HI424 GE434⟩⟩
   case rest =>
    clear HC18
    try clear c1
    try clear c2
    try clear p2
    try clear c3
    try clear c5
    try clear c6
    try clear c9
    try clear c13
    try clear c13b0
    try clear c13b1
    try clear c20
    try clear c20b0
    try clear c20b1
    try clear hcz10
    try clear p2
    obtain ⟨kq, x35_17, x425001_17, x425002_17, rfl, HA, HJ17, HO_6, HO_7, BK434, HI424, HB⟩ := hcut
    cases kq with
    | zero => exact absurd HA.out (by simp [spec_DrawAreClosed.j1])
    | succ kj17 =>
     have H := HA.out
     clear HA
     simp only [spec_DrawAreClosed.j1] at H
     have HC24 := jA H
     clear H
     go_upto_if 35 with (fail)
     go_cut [7] (fun v7 wc => ∃ (kq : Nat) (x7_23 : List Int) (x425001_23 : Int) (x425002_23 : Int), Aside0 (spec_DrawAreClosed.j2 kq t431 x7_23 t421 x425001_23 x425002_23 = some (r1, r2)) ∧ Aside0 (kq ≤ kj17) ∧ Aside0 (Kd.R (Kd.int .i64) 2 wc w.heap.size (fun k_ => some k_ ≠ (v7 : Value).ownBlock) (.slice Ao11 t431.length co11) t431) ∧ Aside0 (Kd.R (Kd.int .i64) 2 wc w.heap.size (fun k_ => some k_ ≠ ((.slice Ao11 t431.length co11) : Value).ownBlock) v7 x7_23) ∧ Aside0 (wc.heap[gb434]? = some (.cells #[.bool t425, .bool t426, .bool t427, .bool t428, .bool t429, .int .i64 t430] 23 (0, 0))) ∧ Aside0 (IsS95 w wc g424 t421 x425001_23 x425002_23) ∧ Aside0 (Below w.heap.size w wc))
     case first =>
      have H := HC24.out
      clear HC24
      by_cases c25 : x35_17 = true
      ·subst c25
       rw [if_pos rfl] at H
       replace H := jC.mp H
       obtain ⟨⟨t448, t449, t450⟩, A260, H⟩ := H
       replace H : (if 0 ≤ t448 then (if t448 ≤ (x7_4.length : Int) then ((spec_l01Own.f (x7_4.take (t448 : Int).toNat)).bind fun t455 => (if 0 ≤ (wrap64 (t448 + 1)) then (if (wrap64 (t448 + 1)) ≤ (x7_4.length : Int) then ((some (x7_4.drop ((wrap64 (t448 + 1)) : Int).toNat : List Int)).bind fun y458 => (if t455.length + y458.length < 17592186044416 then (spec_DrawAreClosed.j2 kj17 t431 (t455 ++ y458) t421 t449 t450) else (none))) else (none)) else (none))) else (none)) else (none)) = some (r1, r2) := H
       have A26 := jA A260
       clear A260
       by_cases c27 : 0 ≤ t448
       ·rw [if_pos c27] at H
        have c27b0 := eq_true c27
        have c27b1 : decide (0 ≤ t448) = true := jI c27
        clear c27
        by_cases c28 : t448 ≤ (x7_4.length : Int)
        ·rw [if_pos c28] at H
         have c28b0 := eq_true c28
         have c28b1 : decide (t448 ≤ (x7_4.length : Int)) = true := jI c28
         clear c28
         obtain ⟨y451, hy451⟩ : ∃ y_ : List Int, y_ = (x7_4.take (t448 : Int).toNat) := ⟨_, rfl⟩
         replace H : ((spec_l01Own.f y451).bind fun t455 => (if 0 ≤ (wrap64 (t448 + 1)) then (if (wrap64 (t448 + 1)) ≤ (x7_4.length : Int) then ((some (x7_4.drop ((wrap64 (t448 + 1)) : Int).toNat : List Int)).bind fun y458 => (if t455.length + y458.length < 17592186044416 then (spec_DrawAreClosed.j2 kj17 t431 (t455 ++ y458) t421 t449 t450) else (none))) else (none)) else (none))) = some (r1, r2) := by first | (rw [hy451]; with_reducible exact H) | (have H2_ := (Option.bind_some _ _).symm.trans H; rw [hy451]; with_reducible exact H2_) | (have H2_ := (Option.bind_some _ _).symm.trans H; with_reducible exact H2_) | with_reducible exact H | (rw [hy451]; exact H) | exact H
         have Ny451 := jA hy451
         clear hy451
         replace H := jC.mp H
         obtain ⟨t455, A290, H⟩ := H
         replace H : (if 0 ≤ (wrap64 (t448 + 1)) then (if (wrap64 (t448 + 1)) ≤ (x7_4.length : Int) then ((some (x7_4.drop ((wrap64 (t448 + 1)) : Int).toNat : List Int)).bind fun y458 => (if t455.length + y458.length < 17592186044416 then (spec_DrawAreClosed.j2 kj17 t431 (t455 ++ y458) t421 t449 t450) else (none))) else (none)) else (none)) = some (r1, r2) := H
         have A29 := jA A290
         clear A290
         obtain ⟨ji30, hji30⟩ : ∃ j_ : Int, (wrap64 (t448 + 1)) = j_ := ⟨_, rfl⟩
         replace H : (if 0 ≤ (ji30) then (if (ji30) ≤ (x7_4.length : Int) then ((some (x7_4.drop ((ji30) : Int).toNat : List Int)).bind fun y458 => (if t455.length + y458.length < 17592186044416 then (spec_DrawAreClosed.j2 kj17 t431 (t455 ++ y458) t421 t449 t450) else (none))) else (none)) else (none)) = some (r1, r2) := by first | (rw [hji30] at H; exact H) | (simp only [hji30] at H ⊢; exact H)
         (try rw [hji30] at A26)
         (try rw [hji30] at A29)
         have hji30w : (IntKind.i64.wrap (t448 + 1)) = ji30 := (i64_w _).trans hji30
         by_cases c31 : 0 ≤ (ji30)
         ·rw [if_pos c31] at H
          have c31b0 := eq_true c31
          have c31b1 : decide (0 ≤ (ji30)) = true := jI c31
          clear c31
          by_cases c32 : (ji30) ≤ (x7_4.length : Int)
          ·rw [if_pos c32] at H
           have c32b0 := eq_true c32
           have c32b1 : decide ((ji30) ≤ (x7_4.length : Int)) = true := jI c32
           clear c32
           obtain ⟨y458, hy458⟩ : ∃ y_ : List Int, y_ = (x7_4.drop ((ji30) : Int).toNat) := ⟨_, rfl⟩
           replace H : (if t455.length + y458.length < 17592186044416 then (spec_DrawAreClosed.j2 kj17 t431 (t455 ++ y458) t421 t449 t450) else (none)) = some (r1, r2) := by first | (rw [hy458]; with_reducible exact H) | (have H2_ := (Option.bind_some _ _).symm.trans H; rw [hy458]; with_reducible exact H2_) | (have H2_ := (Option.bind_some _ _).symm.trans H; with_reducible exact H2_) | with_reducible exact H | (rw [hy458]; exact H) | exact H
           have Ny458 := jA hy458
           clear hy458
           by_cases c33 : t455.length + y458.length < 17592186044416
           ·rw [if_pos c33] at H
            have LMc33 := jA c33
            clear c33
            obtain ⟨y462, hy462⟩ : ∃ y_ : List Int, y_ = (t455 ++ y458) := ⟨_, rfl⟩
            replace H : (spec_DrawAreClosed.j2 kj17 t431 y462 t421 t449 t450) = some (r1, r2) := by first | (rw [hy462]; with_reducible exact H) | (have H2_ := (Option.bind_some _ _).symm.trans H; rw [hy462]; with_reducible exact H2_) | (have H2_ := (Option.bind_some _ _).symm.trans H; with_reducible exact H2_) | with_reducible exact H | (rw [hy462]; exact H) | exact H
            have Ny462 := jA hy462
            clear hy462
            have H' := jA H
            clear H
            obtain ⟨Ao34, co34, eo34⟩ := Kd.R_slice HO_7.out
            subst eo34
            try go_wp2_with (first | ((with_reducible refine jG (f := 62) rfl ?_); refine zL (some 39) Try.func62 #[.pointer (some ⟨g424, 0, none⟩), .int .i64 (x7_4.length : Int)] ?_; (with_reducible refine (spec_l01Next.calls g424 t421 x425001_17 x425002_17 (x7_4.length : Int) t448 t449 t450 w _ ?side1 ?side2 A26.out).mono ?_); (case side1 => exact zr5 HI424 NB424_434); (case side2 => exact zr6 HB HI424 GE434); rintro e w35 ⟨rfl, hi, hb, hk⟩; refine ⟨_, rfl, ?_⟩; replace HO_6 := jA (Kd.R_mono (Kd.R_keep (IsS95.apart (show IsS95 w _ g424 t421 x425001_17 x425002_17 from zr5 HI424 NB424_434) (zo HO_6) (by decide)) hk (fun _ h => h.2)) (fun _ h => h.1)); replace HO_7 := jA (Kd.R_mono (Kd.R_keep (IsS95.apart (show IsS95 w _ g424 t421 x425001_17 x425002_17 from zr5 HI424 NB424_434) (zo HO_7) (by decide)) hk (fun _ h => h.2)) (fun _ h => h.1)); replace BK434 := zK hk BK434 NB434_424; replace HB := jA (hb); replace HI424 := jA (hi); (try clear hb); (try clear hb2); (try clear hk); (try clear hi)))
            replace HO_6 := jA (Kd.R_drew HO_6.out)
            replace HO_7 := jA (Kd.R_drew HO_7.out)
            replace BK434 := jA (blk_drew BK434.out)
            replace HI424 := jA (IsS95.drew HI424.out)
            replace HB := jA (below_drew1 HB.out)
            have q37 : (t448 : Int) ≤ ((x7_4.length : Int) : Int) := jB za
            obtain ⟨i037, hi037, _, hsz37, _⟩ := info_parts info2
            have hroom37 : x7_4.length ≤ co34 := (jO HO_7.out).2.1
            have hC37 : Kd.C (Kd.int .i64) _ Ao34 x7_4.length x7_4 := (jO HO_7.out).2.2
            have hcut37 := cut_to (P := Try.prog) 35 2 .i64 Try.underlying35 hi037 Ao34 x7_4.length co34 t448 (jB za) q37 hroom37
            have hr37 := Kd.C_take (m := (t448 : Int).toNat) hC37 (by omega)
            have hy37 : y451.length = (t448 : Int).toNat := (by rw [Ny451.out, List.length_take]; omega)
            rw [← Ny451.out] at hr37
            rw [← hy37] at hcut37
            have HR454 := jA hr37
            have HC454 := jA (show y451.length ≤ co34 from by omega)
            clear hr37 hC37 hroom37 hi037 hsz37
            have KY37 := jA hy37
            clear hy37
            have KL37 := jA (show (t448 : Int).toNat ≤ x7_4.length from by omega)
            replace q37 := eq_true q37
            have q38 : ((ji30) : Int) ≤ ((x7_4.length : Int) : Int) := jB za
            obtain ⟨i038, hi038, _, hsz38, _⟩ := info_parts info2
            have hroom38 : x7_4.length ≤ co34 := (jO HO_7.out).2.1
            have hC38 : Kd.C (Kd.int .i64) _ Ao34 x7_4.length x7_4 := (jO HO_7.out).2.2
            have q038 : (0 : Int) ≤ ((ji30) : Int) := jB za
            have hcut38 := cut_from (P := Try.prog) 35 2 .i64 Try.underlying35 hi038 1 hsz38 Ao34 x7_4.length co34 (ji30) q038 q38
            have hr38 := Kd.C_drop (m := ((ji30) : Int).toNat) (c := co34) hC38 (by omega) hroom38
            obtain ⟨A38, hA38⟩ : ∃ A1, A1 = (if co34 = ((ji30) : Int).toNat then Ao34 else (Ao34 : Option Addr).map (·.add (((ji30) : Int).toNat * 1))) := ⟨_, rfl⟩
            obtain ⟨c38, hc38⟩ : ∃ c1, c1 = co34 - ((ji30) : Int).toNat := ⟨_, rfl⟩
            have hy38 : y458.length = x7_4.length - ((ji30) : Int).toNat := (by rw [Ny458.out, List.length_drop] <;> omega)
            rw [show (x7_4).drop ((ji30) : Int).toNat = y458 from Ny458.out.symm] at hr38
            replace hr38 : Kd.C (Kd.int .i64) _ A38 y458.length y458 := (by rw [hA38]; exact hr38)
            rw [← hy38, ← hA38, ← hc38] at hcut38
            have HR461 := jA hr38
            have HC461 := jA (show y458.length ≤ c38 from by rw [hy38, hc38]; exact Nat.sub_le_sub_right hroom38 _)
            clear hr38 hC38 hroom38 hi038 hsz38 hc38
            have KY38 := jA hy38
            have KA38 := jA hA38
            clear hy38 hA38
            have KL38 := jA (show ((ji30) : Int).toNat ≤ x7_4.length from by omega)
            replace q38 := eq_true q38
            refine start_ (n := 10) (S := fun w' => True) (ds := []) #[false, false, false, false, false, false, false, false, false, false] zr rfl rfl trivial (fun hHeld => ?_); refine with_tabW spec_DrawAreClosed.tab8 spec_DrawAreClosed.bits8 (fun HT_ HW_ => ?_)
            generalize w35.drew = w36 at HO_6 HO_7 BK434 HI424 HB HR454 HR461 hHeld ⊢
            refine zp HT_ 0 40 #[true, false, false, false, false, false, false, false, false, false] ?_
            refine zp HT_ 1 41 #[true, true, false, false, false, false, false, false, false, false] ?_
            refine zp HT_ 2 42 #[true, true, true, false, false, false, false, false, false, false] ?_
            refine zp HT_ 4 44 #[true, true, true, false, true, false, false, false, false, false] ?_
            refine zp HT_ 5 45 #[true, true, true, false, true, true, false, false, false, false] ?_
            refine zp HT_ 6 46 #[true, true, true, false, true, true, true, false, false, false] ?_
            refine zp HT_ 7 47 #[true, true, true, false, true, true, true, true, false, false] ?_
            refine one_ (i := 3) (N := some 43) #[true, true, true, true, true, true, true, true, false, false] rfl rfl (one_of HT_.out zr) (by decide) (fun K hK => ?_)
            refine goes_ Try.func73 zr rfl #[.slice Ao34 y451.length co34] (by rfl) rfl rfl zm ?_
            with_reducible refine (spec_l01Own.calls _ _ y451 t455 _ ?side1 ?side2 A29.out).mono ?_
            (case side1 => repeat (first | exact (by repeat (first | (with_reducible exact HR454.out) | (with_reducible refine Kd.C_alloc ?_ _) | (with_reducible refine Kd.C_drewN ?_ _) | (with_reducible refine Kd.C_drew ?_) | exact HR454.out)) | (with_reducible refine Kd.C_alloc ?_ _) | (with_reducible refine Kd.C_drewN ?_ _) | (with_reducible refine Kd.C_drew ?_)))
            (case side2 => exact HC454.out)
            rintro e w39 ⟨v456, rfl, ho0, hb⟩
            refine ⟨_, rfl, ?_⟩
            have HO457 := jA (jX (Kd.R_new' (Kd.R_new' ho0 (Kd.R_lt (zo HO_6))) (Kd.R_lt (zo HO_7))) (jT (zr6 HB HI424 GE434)))
            replace HO_6 := jA (Kd.R_elder' (zo HO_6) (Kd.R_base ho0) hb)
            replace HO_7 := jA (Kd.R_elder' (zo HO_7) (Kd.R_base ho0) hb)
            replace BK434 := zB BK434 hb
            replace HR454 := jA (Kd.C_below (by repeat (first | (with_reducible exact HR454.out) | (with_reducible refine Kd.C_alloc ?_ _) | (with_reducible refine Kd.C_drewN ?_ _) | (with_reducible refine Kd.C_drew ?_) | exact HR454.out)) hb)
            replace HR461 := jA (Kd.C_below (by repeat (first | (with_reducible exact HR461.out) | (with_reducible refine Kd.C_alloc ?_ _) | (with_reducible refine Kd.C_drewN ?_ _) | (with_reducible refine Kd.C_drew ?_) | exact HR461.out)) hb)
            replace HB := jA (jY (zr6 HB HI424 GE434) hb)
            replace HI424 := jA (IsS95.below (zr5 HI424 NB424_434) hb)
            (try clear hb)
            (try clear hb2)
            (try clear hk)
            (try clear hi)
            (try clear ho0)
            refine hK.out _ _ trivial (fun hHeld => ?_)
            clear hK K
            refine norm_ (a' := ?_) ?_ ?_
            rotate_left
            ·show Act.put _ (some 43) _ = _
             simp only [Act.put, jD, jE, jF, i64_w, i32_w]
             rfl
            refine one_ (i := 8) (N := some 48) #[true, true, true, true, true, true, true, true, true, false] rfl rfl (one_of HT_.out zr) (by decide) (fun K hK => ?_)
            refine Kd.R_append_rows_step (Kd.int .i64) (w0 := w) w.heap.size (by rfl) (.tmp 43) (.tmp 47) 35 2 (.int .i64 0) 8 rfl Try.underlying35 info2 rfl (by decide) (by omega) v456 t455 y458 _ _ _ (fun k_ => some k_ ≠ (.slice Ao11 t431.length co11 : Value).ownBlock ∧ some k_ ≠ (.slice Ao34 x7_4.length co34 : Value).ownBlock) (fun _ => False) rfl rfl ?aO ?aR (fun _ _ h => h) (fun _ h => h.elim) ?aF ?aB ?aS ?aL ?_
            (case aR => repeat (first | exact (by repeat (first | (with_reducible exact HR461.out) | (with_reducible refine Kd.C_alloc ?_ _) | (with_reducible refine Kd.C_drewN ?_ _) | (with_reducible refine Kd.C_drew ?_) | exact HR461.out)) | (with_reducible refine Kd.C_alloc ?_ _) | (with_reducible refine Kd.C_drewN ?_ _) | (with_reducible refine Kd.C_drew ?_)))
            (case aB => exact (zr6 HB HI424 GE434))
            (case aF => exact (fun k_ hk => ⟨Kd.fresh' (Kd.R_lt (zo HO_6)) k_ hk, Kd.fresh' (Kd.R_lt (zo HO_7)) k_ hk⟩))
            (case aO => exact (by (with_reducible repeat (first | apply ja | apply jZ | apply Kd.R_drew)); exact Kd.R_mono HO457.out (fun _ hk => ⟨hk.1.2, hk.2⟩)))
            (case aS => exact (jT (zr6 HB HI424 GE434)))
            (case aL => have := LMc33.out; omega)
            intro v463 w40 ho hb hg hat
            rw [← Ny462.out] at ho
            replace HO_6 := jA (Kd.R_after (ok := (fun k_ => some k_ ≠ (.slice Ao34 x7_4.length co34 : Value).ownBlock)) (zo HO_6) hg hat)
            replace BK434 := jA (blk_grown (g := gb434) (o := .cells #[.bool t425, .bool t426, .bool t427, .bool t428, .bool t429, .int .i64 t430] 23 (0, 0)) (zk BK434) hg (Kd.R_ne HO457.out BK434.out (by decide)))
            replace HI424 := jA (IsS95.grown (zr5 HI424 NB424_434) hg (IsS95.own_ne HI424.out HO457.out (by decide)))
            replace HB := jA (hb)
            replace HR454 := jA ((show Kd.C (Kd.int .i64) w40 Ao34 y451.length y451 from by rw [Ny451.out]; exact Kd.C_take (m := (t448 : Int).toNat) ((jO (Kd.R_after (ok := (fun k_ => some k_ ≠ (.slice Ao11 t431.length co11 : Value).ownBlock)) (zo HO_7) hg hat)).2.2) KL37.out))
            replace HR461 := jA ((show Kd.C (Kd.int .i64) w40 A38 y458.length y458 from by rw [Ny458.out, KA38.out]; exact Kd.C_drop (m := ((ji30) : Int).toNat) (c := co34) ((jO (Kd.R_after (ok := (fun k_ => some k_ ≠ (.slice Ao11 t431.length co11 : Value).ownBlock)) (zo HO_7) hg hat)).2.2) KL38.out ((jO (Kd.R_after (ok := (fun k_ => some k_ ≠ (.slice Ao11 t431.length co11 : Value).ownBlock)) (zo HO_7) hg hat)).2.1)))
            replace HO_7 := jA (Kd.R_after (ok := (fun k_ => some k_ ≠ (.slice Ao11 t431.length co11 : Value).ownBlock)) (zo HO_7) hg hat)
            have HO464 := jA (ho)
            clear HO457
            clear ho hb hg hat
            refine hK.out _ _ trivial (fun hHeld => ?_)
            clear hK K
            refine norm_ (a' := ?_) ?_ ?_
            rotate_left
            ·show Act.put _ (some 48) _ = _
             simp only [Act.put, jD, jE, jF, i64_w, i32_w]
             rfl
            refine zp HT_ 9 7 #[true, true, true, true, true, true, true, true, true, true] ?_
            refine done_ (done_of HT_.out zr) ?_
            try go_wp2
            go_meet
            case rel => exact ⟨_, (y462), (t449), (t450), H', ⟨by have := HJ4.out; have := HJ17.out; first | omega | exact Nat.le_refl _⟩, ⟨by (with_reducible repeat (first | apply ja | apply jZ | apply Kd.R_drew)); exact Kd.R_mono HO_6.out (fun _ hk => hk.2)⟩, ⟨by (with_reducible repeat (first | apply ja | apply jZ | apply Kd.R_drew)); exact Kd.R_mono HO464.out (fun _ hk => hk.1)⟩, ⟨zk BK434⟩, ⟨zr5 HI424 NB424_434⟩, ⟨zr6 HB HI424 GE434⟩⟩
           ·rw [if_neg c33] at H
            exact absurd H (by simp)
          ·rw [if_neg c32] at H
           exact absurd H (by simp)
         ·rw [if_neg c31] at H
          exact absurd H (by simp)
        ·rw [if_neg c28] at H
         exact absurd H (by simp)
       ·rw [if_neg c27] at H
        exact absurd H (by simp)
      ·replace c25 := Bool.eq_false_iff.mpr c25
       subst c25
       rw [if_neg zfalse] at H
       have H' := jA H
       clear H
       go_wp2
       go_meet
       case rel => exact ⟨_, (x7_4), (x425001_17), (x425002_17), H', ⟨by have := HJ4.out; have := HJ17.out; first | omega | exact Nat.le_refl _⟩, ⟨zo HO_6⟩, ⟨zo HO_7⟩, ⟨zk BK434⟩, ⟨zr5 HI424 NB424_434⟩, ⟨zr6 HB HI424 GE434⟩⟩
     case rest =>
      clear HC24
      try clear c1
      try clear c2
      try clear p2
      try clear c3
      try clear q3
      try clear c5
      try clear c6
      try clear p6
      try clear c7
      try clear c9
      try clear c13
      try clear c13b0
      try clear c13b1
      try clear c20
      try clear c20b0
      try clear c20b1
      try clear c25
      try clear c27
      try clear c27b0
      try clear c27b1
      try clear c28
      try clear c28b0
      try clear c28b1
      try clear c31
      try clear c31b0
      try clear c31b1
      try clear c32
      try clear c32b0
      try clear c32b1
      try clear c33
      try clear c36
      try clear q37
      try clear c38
      try clear q38
      try clear hcz10
      try clear p2
      try clear q038
      try clear q37
      try clear q38
      obtain ⟨kq, x7_23, x425001_23, x425002_23, HA, HJ23, HO_6, HO_7, BK434, HI424, HB⟩ := hcut
      cases kq with
      | zero => exact absurd HA.out (by simp [spec_DrawAreClosed.j2])
      | succ kj23 =>
       have H := HA.out
       clear HA
       simp only [spec_DrawAreClosed.j2] at H
       replace H := jC.mp H
       obtain ⟨⟨t465, t466, t467⟩, A410, H⟩ := H
       try dsimp only at H
       have A41 := jA A410
       clear A410
       by_cases c42 : t465 = 0
       ·rw [if_pos c42] at H
        have c42b0 : (t465 == 0) = true := beq_iff_eq.mpr c42
        have c42b1 : (t465 != 0) = false := bne_eq_false_iff_eq.mpr c42
        clear c42
        replace H := jC.mp H
        obtain ⟨⟨t468, t469, t470⟩, A430, H⟩ := H
        try dsimp only at H
        have A43 := jA A430
        clear A430
        by_cases c44 : x7_23.length < 17592186044416
        ·rw [if_pos c44] at H
         have LMc44 := jA c44
         clear c44
         obtain ⟨y471, hy471⟩ : ∃ y_ : List Int, y_ = (x7_23 ++ [t468]) := ⟨_, rfl⟩
         replace H : (some (y471, t431)) = some (r1, r2) := by first | (rw [hy471]; with_reducible exact H) | (have H2_ := (Option.bind_some _ _).symm.trans H; rw [hy471]; with_reducible exact H2_) | (have H2_ := (Option.bind_some _ _).symm.trans H; with_reducible exact H2_) | with_reducible exact H | (rw [hy471]; exact H) | exact H
         have Ny471 := jA hy471
         clear hy471
         simp only [jH, jK] at H
         obtain ⟨rfl, rfl⟩ := H
         go_wp2_with (first | ((with_reducible refine jG (f := 62) rfl ?_); refine zL (some 50) Try.func62 #[.pointer (some ⟨g424, 0, none⟩), .int .i64 24] ?_; (with_reducible refine (spec_l01Next.calls g424 t421 x425001_23 x425002_23 24 t465 t466 t467 w _ ?side1 ?side2 A41.out).mono ?_); (case side1 => exact zr5 HI424 NB424_434); (case side2 => exact zr6 HB HI424 GE434); rintro e w45 ⟨rfl, hi, hb, hk⟩; refine ⟨_, rfl, ?_⟩; replace HO_6 := jA (Kd.R_mono (Kd.R_keep (IsS95.apart (show IsS95 w _ g424 t421 x425001_23 x425002_23 from zr5 HI424 NB424_434) (zo HO_6) (by decide)) hk (fun _ h => h.2)) (fun _ h => h.1)); replace HO_7 := jA (Kd.R_mono (Kd.R_keep (IsS95.apart (show IsS95 w _ g424 t421 x425001_23 x425002_23 from zr5 HI424 NB424_434) (zo HO_7) (by decide)) hk (fun _ h => h.2)) (fun _ h => h.1)); replace BK434 := zK hk BK434 NB434_424; replace HB := jA (hb); replace HI424 := jA (hi); (try clear hb); (try clear hb2); (try clear hk); (try clear hi)) | ((with_reducible refine jG (f := 62) rfl ?_); refine zL (some 54) Try.func62 #[.pointer (some ⟨g424, 0, none⟩), .int .i64 161] ?_; (with_reducible refine (spec_l01Next.calls g424 t421 t466 t467 161 t468 t469 t470 w _ ?side1 ?side2 A43.out).mono ?_); (case side1 => exact zr5 HI424 NB424_434); (case side2 => exact zr6 HB HI424 GE434); rintro e w46 ⟨rfl, hi, hb, hk⟩; refine ⟨_, rfl, ?_⟩; replace HO_6 := jA (Kd.R_mono (Kd.R_keep (IsS95.apart (show IsS95 w _ g424 t421 t466 t467 from zr5 HI424 NB424_434) (zo HO_6) (by decide)) hk (fun _ h => h.2)) (fun _ h => h.1)); replace HO_7 := jA (Kd.R_mono (Kd.R_keep (IsS95.apart (show IsS95 w _ g424 t421 t466 t467 from zr5 HI424 NB424_434) (zo HO_7) (by decide)) hk (fun _ h => h.2)) (fun _ h => h.1)); replace BK434 := zK hk BK434 NB434_424; replace HB := jA (hb); replace HI424 := jA (hi); (try clear hb); (try clear hb2); (try clear hk); (try clear hi)) | ((with_reducible refine gate_builtin (b := .append) (xs := #[.tmp 52, .tmp 55]) rfl ?_); (try (refine gate_guard (by rfl) ?_; dsimp only)); at_builtin; refine Kd.R_append (Kd.int .i64) (w0 := w) w.heap.size rfl (.tmp 52) (.tmp 55) 35 2 (.int .i64 0) 8 rfl Try.underlying35 info2 rfl (by decide) (by omega) u7 x7_23 t468 [.int .i64 t468] (fun k_ => some k_ ≠ (.slice Ao11 t431.length co11 : Value).ownBlock) (fun _ => False) rfl rfl ?aP (fun _ hk => hk.elim) ?aF ?aO ?aB ?aS ?aL ?_; (case aP => exact rfl); (case aB => exact (zr6 HB HI424 GE434)); (case aF => exact (fun k_ hk => Kd.fresh' (Kd.R_lt (zo HO_6)) k_ hk)); (case aO => exact (zo HO_7)); (case aS => exact (jT (zr6 HB HI424 GE434))); (case aL => have := LMc44.out; omega); intro v472 w47 ho hb hg hat; rw [← Ny471.out] at ho; replace HO_6 := jA (Kd.R_after (ok := (fun _ => True)) (by (with_reducible repeat (first | apply ja | apply jZ | apply Kd.R_drew)); exact Kd.R_mono HO_6.out (fun _ hk => ⟨trivial, hk⟩)) hg hat); replace BK434 := jA (blk_grown (g := gb434) (o := .cells #[.bool t425, .bool t426, .bool t427, .bool t428, .bool t429, .int .i64 t430] 23 (0, 0)) (zk BK434) hg (Kd.R_ne HO_7.out BK434.out (by decide))); replace HI424 := jA (IsS95.grown (zr5 HI424 NB424_434) hg (IsS95.own_ne HI424.out HO_7.out (by decide))); replace HB := jA (hb); have HO473 := jA (ho); clear HO_7; clear ho hb hg hat))
         go_ret2
         exact ⟨_, _, by first | rfl | (simp [errW_none, errW_some] <;> rfl) | (simp [*, errW_none, errW_some] <;> rfl), zo HO473, by (with_reducible repeat (first | apply ja | apply jZ | apply Kd.R_drew)); exact Kd.R_mono HO_6.out (fun _ hk => hk.2), zr6 HB HI424 GE434⟩
        ·rw [if_neg c44] at H
         exact absurd H (by simp)
       ·rw [if_neg c42] at H
        have c42b0 : (t465 == 0) = false := beq_eq_false_iff_ne.mpr c42
        have c42b1 : (t465 != 0) = true := bne_iff_ne.mpr c42
        simp only [jH, jK] at H
        obtain ⟨rfl, rfl⟩ := H
        go_wp2_with (first | ((with_reducible refine jG (f := 62) rfl ?_); refine zL (some 50) Try.func62 #[.pointer (some ⟨g424, 0, none⟩), .int .i64 24] ?_; (with_reducible refine (spec_l01Next.calls g424 t421 x425001_23 x425002_23 24 t465 t466 t467 w _ ?side1 ?side2 A41.out).mono ?_); (case side1 => exact zr5 HI424 NB424_434); (case side2 => exact zr6 HB HI424 GE434); rintro e w48 ⟨rfl, hi, hb, hk⟩; refine ⟨_, rfl, ?_⟩; replace HO_6 := jA (Kd.R_mono (Kd.R_keep (IsS95.apart (show IsS95 w _ g424 t421 x425001_23 x425002_23 from zr5 HI424 NB424_434) (zo HO_6) (by decide)) hk (fun _ h => h.2)) (fun _ h => h.1)); replace HO_7 := jA (Kd.R_mono (Kd.R_keep (IsS95.apart (show IsS95 w _ g424 t421 x425001_23 x425002_23 from zr5 HI424 NB424_434) (zo HO_7) (by decide)) hk (fun _ h => h.2)) (fun _ h => h.1)); replace BK434 := zK hk BK434 NB434_424; replace HB := jA (hb); replace HI424 := jA (hi); (try clear hb); (try clear hb2); (try clear hk); (try clear hi)))
        go_ret2
        exact ⟨_, _, by first | rfl | (simp [errW_none, errW_some] <;> rfl) | (simp [*, errW_none, errW_some] <;> rfl), zo HO_7, zo HO_6, zr6 HB HI424 GE434⟩

end Go.Proofs.Ythieppjmjgijfaa.PFnProofs
