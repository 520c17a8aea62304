/- Functions and contracts that FnReached reaches (17 of 22). -/
import Derived.Test.YthieppjmjgijfaaQFnReachedx15
namespace Go.Proofs.Ythieppjmjgijfaa.PFnReached
open Go.RowKit Go.Proofs.YthieppjmjgijfaaW.PrintWords Go.Proofs.YthieppjmjgijfaaW.PrintLast Go.Proofs.YthieppjmjgijfaaW.PrintMore
attribute [local go_sem] max2_int min2_int max_two min_two max_three min_three max_four min_four   -- for this text's walks alone
set_option linter.unusedVariables false
set_option linter.unusedSimpArgs false

/-! ### spec_DrawShortestInputs: function 33 -/
def spec_DrawShortestInputs.j0 : Nat → List Int → List Int → Bool → List Int → Int → Int → Bool → Bool → Bool → Bool → Bool → Int → Option (Bool × Bool × Bool × Bool × Bool × Int × List Int × Int)
 | 0, _, _, _, _, _, _, _, _, _, _, _, _ => none
 | k + 1, x7, x8, x29, x543000, x543001, x543002, x553000, x553001, x553002, x553003, x553004, x553005 => if x29 = true then ((spec_l01Next.f x543000 x543001 x543002 (x8.length : Int)).bind fun bt560 => (if 0 ≤ bt560.1 then (if bt560.1 < (x8.length : Int) then (some (x553000, x553001, x553002, x553003, x553004, x553005, x7, rd x8 bt560.1)) else (none)) else (none))) else ((spec_l01Next.f x543000 x543001 x543002 162).bind fun bt564 => (some (x553000, x553001, x553002, x553003, x553004, x553005, x7, wrap64 (bt564.1 - 1))))
def spec_DrawShortestInputs.f (k : Nat) (l0 : List Int) : Option (Bool × Bool × Bool × Bool × Bool × Int × List Int × Int) := (spec_l01From.f k l0).bind fun bt539 => ((spec_DrawReachedFrom.f k l0).bind fun bt543 => ((spec_ReachedFrom.f k bt543.1 bt543.2.1 bt543.2.2.1 bt543.2.2.2.1 bt543.2.2.2.2.1 bt543.2.2.2.2.2.1 bt543.2.2.2.2.2.2).bind fun bt553 => (if bt553.2 = 0 then ((spec_l01Next.f bt539.1 bt539.2.1 bt539.2.2 3).bind fun bt557 => (spec_DrawShortestInputs.j0 k bt543.2.2.2.2.2.2 bt553.1 (decide (bt557.1 > 0)) bt539.1 bt557.2.1 bt557.2.2 bt543.1 bt543.2.1 bt543.2.2.1 bt543.2.2.2.1 bt543.2.2.2.2.1 bt543.2.2.2.2.2.1)) else (spec_DrawShortestInputs.j0 k bt543.2.2.2.2.2.2 bt553.1 false bt539.1 bt539.2.1 bt539.2.2 bt543.1 bt543.2.1 bt543.2.2.1 bt543.2.2.2.1 bt543.2.2.2.2.1 bt543.2.2.2.2.2.1))))
theorem spec_DrawShortestInputs.mono_l : ∀ k, (∀ y0 y1 y2 y3 y4 y5 y6 y7 y8 y9 y10 y11, LeO (spec_DrawShortestInputs.j0 k y0 y1 y2 y3 y4 y5 y6 y7 y8 y9 y10 y11) (spec_DrawShortestInputs.j0 (k + 1) y0 y1 y2 y3 y4 y5 y6 y7 y8 y9 y10 y11))
 | 0 => fun _ _ _ _ _ _ _ _ _ _ _ _ r h => by simp [spec_DrawShortestInputs.j0] at h
 | k + 1 => by
  have ih0 := spec_DrawShortestInputs.mono_l k
  ·intro y0 y1 y2 y3 y4 y5 y6 y7 y8 y9 y10 y11
   unfold spec_DrawShortestInputs.j0
   repeat' first
   | (with_reducible exact ih0 _ _ _ _ _ _ _ _ _ _ _ _)
   | (with_reducible exact spec_DrawReachedFrom.mono _ _)
   | (with_reducible exact spec_ReachedFrom.mono _ _ _ _ _ _ _ _)
   | (with_reducible exact spec_l01From.mono _ _)
   | (with_reducible exact LeO.refl _)
   | (with_reducible exact LeO.none _)
   | (with_reducible refine LeO.ite ?_ ?_)
   | (with_reducible refine LeO.bind ?_ (fun _ => ?_))
   | exact ih0 _ _ _ _ _ _ _ _ _ _ _ _
   | exact spec_DrawReachedFrom.mono _ _
   | exact spec_ReachedFrom.mono _ _ _ _ _ _ _ _
   | exact spec_l01From.mono _ _
   | exact LeO.none _
   | refine LeO.ite ?_ ?_
   | refine LeO.bind ?_ (fun _ => ?_)
theorem spec_DrawShortestInputs.mono : ∀ a0 k, LeO (spec_DrawShortestInputs.f k a0) (spec_DrawShortestInputs.f (k + 1) a0) := by
 intro a0 k
 have ih0 := spec_DrawShortestInputs.mono_l k
 unfold spec_DrawShortestInputs.f
 repeat' first
   | (with_reducible exact ih0 _ _ _ _ _ _ _ _ _ _ _ _)
   | (with_reducible exact spec_DrawReachedFrom.mono _ _)
   | (with_reducible exact spec_ReachedFrom.mono _ _ _ _ _ _ _ _)
   | (with_reducible exact spec_l01From.mono _ _)
   | (with_reducible exact LeO.refl _)
   | (with_reducible exact LeO.none _)
   | (with_reducible refine LeO.ite ?_ ?_)
   | (with_reducible refine LeO.bind ?_ (fun _ => ?_))
   | exact ih0 _ _ _ _ _ _ _ _ _ _ _ _
   | exact spec_DrawReachedFrom.mono _ _
   | exact spec_ReachedFrom.mono _ _ _ _ _ _ _ _
   | exact spec_l01From.mono _ _
   | exact LeO.none _
   | refine LeO.ite ?_ ?_
   | refine LeO.bind ?_ (fun _ => ?_)
def spec_DrawShortestInputs.T5 : Bool × List (List Nat × List Nat) := (true, [([], []), ([], []), ([], []), ([], []), ([], []), ([4], [4]), ([3, 5], [3, 5]), ([2, 6], [2, 6]), ([7], [7]), ([0, 6, 0], [0]), ([1, 9, 0, 1, 9], [1]), ([8, 10, 0, 1, 2, 3, 4, 5, 6, 7, 8, 9, 10], [8])])
def spec_DrawShortestInputs.B5 : List Nat := [0, 0, 0, 0, 0, 16, 56, 124, 252, 121, 635, 2047]
theorem spec_DrawShortestInputs.tab5 : rtab .any (opsOf Try.f33 5) = spec_DrawShortestInputs.T5 := by kernel_rfl
theorem spec_DrawShortestInputs.bits5 : waitsOk spec_DrawShortestInputs.T5.2 spec_DrawShortestInputs.B5 = true := by kernel_rfl
def spec_DrawShortestInputs.T6 : Bool × List (List Nat × List Nat) := (true, [([], []), ([], []), ([], []), ([2], [2]), ([3], [3]), ([0, 3, 0], [0]), ([1, 5, 0, 1, 5], [1]), ([4, 6, 0, 1, 2, 3, 4, 5, 6], [4])])
def spec_DrawShortestInputs.B6 : List Nat := [0, 0, 0, 4, 12, 13, 47, 127]
theorem spec_DrawShortestInputs.tab6 : rtab .any (opsOf Try.f33 6) = spec_DrawShortestInputs.T6 := by kernel_rfl
theorem spec_DrawShortestInputs.bits6 : waitsOk spec_DrawShortestInputs.T6.2 spec_DrawShortestInputs.B6 = true := by kernel_rfl
set_option maxHeartbeats 8000000 in
set_option maxRecDepth 100000 in
theorem spec_DrawShortestInputs.calls (k : Nat) (A0 : Option Addr) (c0 : Nat) (l0 : List Int) (r1 : Bool) (r2 : Bool) (r3 : Bool) (r4 : Bool) (r5 : Bool) (r6 : Int) (r7 : List Int) (r8 : Int) (w : World) (hr0 : Kd.C (Kd.int .u8) w A0 l0.length l0) (hc0 : l0.length ≤ c0) (h : spec_DrawShortestInputs.f k l0 = some (r1, r2, r3, r4, r5, r6, r7, r8)) :
  Calls Try.prog 33 #[.slice A0 l0.length c0] w fun e w' => ∃ v6_ : Value, e = .returned (.tuple #[.agg #[.bool r1, .bool r2, .bool r3, .bool r4, .bool r5, .int .i64 r6], v6_, .int .i64 r8]) ∧ Kd.R (Kd.int .i64) 2 w' w.heap.size (fun _ => True) v6_ r7 ∧ Below w.heap.size w w' := by
 have hu23 := Try.underlying23
 have HR0 := jA hr0
 have HC0 := jA hc0
 clear hr0 hc0
 have HB := jA (Below.refl w.heap.size w)
 have H := h
 unfold spec_DrawShortestInputs.f at H
 clear h
 replace H := jD.mp H
 obtain ⟨⟨t539, t540, t541⟩, A20, H⟩ := H
 try dsimp only at H
 have A2 := jA A20
 clear A20
 replace H := jD.mp H
 obtain ⟨⟨t543, t544, t545, t546, t547, t548, t549⟩, A30, H⟩ := H
 try dsimp only at H
 have A3 := jA A30
 clear A30
 replace H := jD.mp H
 obtain ⟨⟨t553, t556⟩, A40, H⟩ := H
 try dsimp only at H
 have A4 := jA A40
 clear A40
 have HC5 := jA H
 clear H
 go_enter Try.func33, Try.ntmps33
 go_upto_region 4 with (first | ((with_reducible refine jK (N := 2) rfl ?_); refine zE 2 #[.bool false, .bool false, .bool false, .bool false, .bool false, .int .i64 0] 23 ?_; intro gb538 hg w6 hbox hb; have BK538 := jA (hbox); have GW538 := zg0 hg HB; have GE538 := zg0 hg HB; replace HB := zS0 HB hb; clear hb hbox hg) | ((with_reducible refine jH (f := 60) rfl ?_); refine zL (some 11) Try.func60 #[.slice A0 l0.length c0] ?_; (with_reducible refine (spec_l01From.calls k _ _ l0 t539 t540 t541 w _ ?side1 ?side2 ?side3 A2.out).mono ?_); (case side1 => exact zr2 HB GE538); (case side2 => exact HR0.out); (case side3 => exact HC0.out); rintro e w7 ⟨g542, rfl, hi, hb, hb2⟩; refine ⟨_, rfl, ?_⟩; replace HB := jA (hb); have HI542 := jA (hi); have NB542_538 := jA (IsS95.ne_blk hi (blk_below (g := gb538) (o := .cells #[.bool false, .bool false, .bool false, .bool false, .bool false, .int .i64 0] 23 (0, 0)) (zk BK538) hb2) (by decide)); have NB538_542 := jA (Ne.symm (IsS95.ne_blk hi (blk_below (g := gb538) (o := .cells #[.bool false, .bool false, .bool false, .bool false, .bool false, .int .i64 0] 23 (0, 0)) (zk BK538) hb2) (by decide))); replace BK538 := zB BK538 hb2; (try clear hb); (try clear hb2); (try clear hk); (try clear hi)) | ((with_reducible refine jH (f := 68) rfl ?_); refine zL (some 14) Try.func68 #[.slice A0 l0.length c0] ?_; (with_reducible refine (spec_DrawReachedFrom.calls k _ _ l0 t543 t544 t545 t546 t547 t548 t549 _ ?side1 ?side2 A3.out).mono ?_); (case side1 => exact zs HR0 HB); (case side2 => exact HC0.out); rintro e w8 ⟨v550, rfl, ho0, hb⟩; refine ⟨_, rfl, ?_⟩; have HO551 := jA (jZ ho0 (jP (zr6 HB HI542 GE538))); replace BK538 := zB BK538 hb; replace HB := jA (below_step (zr6 HB HI542 GE538) hb); replace HI542 := jA (IsS95.below (zr5 HI542 NB542_538) hb); (try clear hb); (try clear hb2); (try clear hk); (try clear hi); (try clear ho0)) | ((with_reducible refine jK (N := 6) rfl ?_); refine zE 6 #[.bool false, .bool false, .bool false, .bool false, .bool false, .int .i64 0] 23 ?_; intro gb552 hg w9 hbox hb; replace HO551 := jA (jQ (zo HO551) hb); have BK552 := jA (hbox); have GW552 := jA ((by rw [hg]; exact (jP (zr6 HB HI542 GE538)) : w.heap.size ≤ gb552)); replace HB := jA (below_step (zr6 HB HI542 GE538) hb); have GE552 := GW552; have NB538_552 := zn hg BK538; replace BK538 := zB BK538 hb; have NB552_538 := jA NB538_552.out.symm; have NB542_552 := jA ((by rw [hg]; exact Nat.ne_of_lt (IsS95.lt (show IsS95 w _ g542 t539 t540 t541 from zr5 HI542 NB542_538)) : g542 ≠ gb552)); have NB552_542 := jA ((by rw [hg]; exact Nat.ne_of_gt (IsS95.lt (show IsS95 w _ g542 t539 t540 t541 from zr5 HI542 NB542_538)) : gb552 ≠ g542)); replace HI542 := jA (IsS95.below (zr5 HI542 NB542_538) hb); clear hb hbox hg; have hnb10 := NB552_538.out; have hnc10 := NB538_552.out; have hnb11 := NB552_542.out; have hnc11 := NB542_552.out; have hcz12 := zc6 BK552; obtain ⟨Ao13, co13, eo13⟩ := Kd.R_slice HO551.out; subst eo13) | ((with_reducible refine jH (f := 36) rfl ?_); refine zL (some 20) Try.func36 #[.agg #[.bool t543, .bool t544, .bool t545, .bool t546, .bool t547, .int .i64 t548], .slice Ao13 t549.length co13] ?_; (with_reducible refine (spec_ReachedFrom.calls k t543 t544 t545 t546 t547 t548 _ _ t549 t553 t556 _ ?side1 ?side2 A4.out).mono ?_); (case side1 => refine (jO (e := 2) (base := w.heap.size) (ok := fun k_ => True) (n := t549.length) (c := co13) ?_).2.2; exact (zU HO551 BK552)); (case side2 => exact (jO HO551.out).2.1); rintro e w14 ⟨v554, rfl, ho0, hb⟩; refine ⟨_, rfl, ?_⟩; have HO555 := jA (jZ (Kd.R_new' ho0 (Kd.R_lt (zU HO551 BK552))) (jP (zr8 HB HI542 GE538 GE552))); replace HO551 := jA (Kd.R_elder' (zU HO551 BK552) (Kd.R_base ho0) hb); replace BK538 := jA (blk_below (g := gb538) (o := .cells #[.bool false, .bool false, .bool false, .bool false, .bool false, .int .i64 0] 23 (0, 0)) (zQ1 BK538 NB538_552) hb); replace BK552 := jA (blk_below (g := gb552) (o := .cells #[.bool t543, .bool t544, .bool t545, .bool t546, .bool t547, .int .i64 t548] 23 (0, 0)) (zP0 BK552) hb); replace HB := jA (below_step (zr8 HB HI542 GE538 GE552) hb); replace HI542 := jA (IsS95.below (show IsS95 w ((((((w9.setCell ⟨gb552, 0, none⟩ (.bool t543)).setCell ⟨gb552, 1, none⟩ (.bool t544)).setCell ⟨gb552, 2, none⟩ (.bool t545)).setCell ⟨gb552, 3, none⟩ (.bool t546)).setCell ⟨gb552, 4, none⟩ (.bool t547)).setCell ⟨gb552, 5, none⟩ (.int .i64 t548)) g542 t539 t540 t541 from zr7 HI542 NB542_538 NB542_552) hb); (try clear hb); (try clear hb2); (try clear hk); (try clear hi); (try clear ho0)))
 (try simp only [Act.put, jC, jE, jF])
 go_cut [29] (fun v29 wc => ∃ (kq : Nat) (x29_4 : Bool) (x543001_4 : Int) (x543002_4 : Int), v29 = .bool x29_4 ∧ Aside0 (spec_DrawShortestInputs.j0 kq t549 t553 x29_4 t539 x543001_4 x543002_4 t543 t544 t545 t546 t547 t548 = some (r1, r2, r3, r4, r5, r6, r7, r8)) ∧ Aside0 (kq ≤ k) ∧ Aside0 (Kd.R (Kd.int .i64) 2 wc w.heap.size (fun k_ => some k_ ≠ (v554 : Value).ownBlock) (.slice Ao13 t549.length co13) t549) ∧ Aside0 (Kd.R (Kd.int .i64) 2 wc w.heap.size (fun k_ => some k_ ≠ ((.slice Ao13 t549.length co13) : Value).ownBlock) v554 t553) ∧ Aside0 (wc.heap[gb538]? = some (.cells #[.bool false, .bool false, .bool false, .bool false, .bool false, .int .i64 0] 23 (0, 0))) ∧ Aside0 (wc.heap[gb552]? = some (.cells #[.bool t543, .bool t544, .bool t545, .bool t546, .bool t547, .int .i64 t548] 23 (0, 0))) ∧ Aside0 (IsS95 w wc g542 t539 x543001_4 x543002_4) ∧ Aside0 (Below w.heap.size w wc))
 case first =>
  have H := HC5.out
  clear HC5
  by_cases c15 : t556 = 0
  ·rw [if_pos c15] at H
   have c15b0 : (t556 == 0) = true := beq_iff_eq.mpr c15
   have c15b1 : (t556 != 0) = false := bne_eq_false_iff_eq.mpr c15
   clear c15
   (first | rw [c15b0] | (simp only [i64_w, i32_w]; rw [c15b0]) | skip)
   replace H := jD.mp H
   obtain ⟨⟨t557, t558, t559⟩, A160, H⟩ := H
   try dsimp only at H
   have A16 := jA A160
   clear A160
   have H' := jA H
   clear H
   go_wp2_with (first | (go_at_call 62; (with_reducible refine (spec_l01Next.calls g542 t539 t540 t541 3 t557 t558 t559 w _ ?side1 ?side2 A16.out).mono ?_); (case side1 => exact zr7 HI542 NB542_538 NB542_552); (case side2 => exact zr8 HB HI542 GE538 GE552); rintro e w17 ⟨rfl, hi, hb, hk⟩; replace BK538 := zK hk BK538 NB538_542; replace HO551 := jA (Kd.R_mono (Kd.R_keep (IsS95.apart (show IsS95 w _ g542 t539 t540 t541 from zr7 HI542 NB542_538 NB542_552) (zo HO551) (by decide)) hk (fun _ h => h.2)) (fun _ h => h.1)); replace BK552 := zK hk BK552 NB552_542; replace HO555 := jA (Kd.R_mono (Kd.R_keep (IsS95.apart (show IsS95 w _ g542 t539 t540 t541 from zr7 HI542 NB542_538 NB542_552) (zo HO555) (by decide)) hk (fun _ h => h.2)) (fun _ h => h.1)); replace HB := jA (hb); replace HI542 := jA (hi); (try clear hb); (try clear hb2); (try clear hk); (try clear hi)))
   go_meet
   case rel => exact ⟨_, (decide (t557 > 0)), (t558), (t559), zz, H', ⟨by first | omega | exact Nat.le_refl _⟩, ⟨by (with_reducible repeat (first | apply jV | apply jU | apply jS)); exact Kd.R_mono HO551.out (fun _ hk => hk.2)⟩, ⟨by (with_reducible repeat (first | apply jV | apply jU | apply jS)); exact Kd.R_mono HO555.out (fun _ hk => hk.2)⟩, ⟨zk BK538⟩, ⟨zk BK552⟩, ⟨zr7 HI542 NB542_538 NB542_552⟩, ⟨zr8 HB HI542 GE538 GE552⟩⟩
  ·rw [if_neg c15] at H
   have c15b0 : (t556 == 0) = false := beq_eq_false_iff_ne.mpr c15
   have c15b1 : (t556 != 0) = true := bne_iff_ne.mpr c15
   (first | rw [c15b0] | (simp only [i64_w, i32_w]; rw [c15b0]) | skip)
   have H' := jA H
   clear H
   go_wp2
   go_meet
   case rel => exact ⟨_, (false), (t540), (t541), zz, H', ⟨by first | omega | exact Nat.le_refl _⟩, ⟨by (with_reducible repeat (first | apply jV | apply jU | apply jS)); exact Kd.R_mono HO551.out (fun _ hk => hk.2)⟩, ⟨by (with_reducible repeat (first | apply jV | apply jU | apply jS)); exact Kd.R_mono HO555.out (fun _ hk => hk.2)⟩, ⟨zk BK538⟩, ⟨zk BK552⟩, ⟨zr7 HI542 NB542_538 NB542_552⟩, ⟨zr8 HB HI542 GE538 GE552⟩⟩
 case rest =>
  clear HC5
  try clear c1
  try clear p2
  try clear c3
  try clear c6
  try clear c10
  try clear c11
  try clear c15
  try clear c15b0
  try clear c15b1
  try clear hcz12
  obtain ⟨kq, x29_4, x543001_4, x543002_4, rfl, HA, HJ4, HO_7, HO_8, BK538, BK552, HI542, HB⟩ := hcut
  cases kq with
  | zero => exact absurd HA.out (by simp [spec_DrawShortestInputs.j0])
  | succ kj4 =>
   have H := HA.out
   clear HA
   simp only [spec_DrawShortestInputs.j0] at H
   by_cases c18 : x29_4 = true
   ·subst c18
    rw [if_pos rfl] at H
    replace H := jD.mp H
    obtain ⟨⟨t560, t561, t562⟩, A190, H⟩ := H
    try dsimp only at H
    have A19 := jA A190
    clear A190
    by_cases c20 : 0 ≤ t560
    ·rw [if_pos c20] at H
     have c20b0 : decide (0 ≤ t560) = true := jJ c20
     clear c20
     by_cases c21 : t560 < (t553.length : Int)
     ·rw [if_pos c21] at H
      have c21b0 : decide (t560 < (t553.length : Int)) = true := jJ c21
      clear c21
      simp only [jI, jM] at H
      obtain ⟨rfl, rfl, rfl, rfl, rfl, rfl, rfl, rfl⟩ := H
      try go_wp2
      replace HO_7 := jA (jS HO_7.out)
      replace HO_8 := jA (jS HO_8.out)
      replace BK538 := jA (blk_drew BK538.out)
      replace BK552 := jA (blk_drew BK552.out)
      replace HI542 := jA (IsS95.drew HI542.out)
      replace HB := jA (below_drew1 HB.out)
      obtain ⟨Ao23, co23, eo23⟩ := Kd.R_slice HO_8.out
      (first | subst eo23 | (injection eo23 with f1_ f2_ f3_; have f4_ := f1_.symm; have f5_ := f3_.symm; clear f1_ f2_ f3_; subst f4_; subst f5_))
      have p563 : 0 ≤ (t560 : Int) := jB za
      have q563 : t560 < (t553.length : Int) := jB za
      obtain ⟨ad563, e563, hx563_0⟩ := jR (jO HO_8.out).2.2 t560 p563 q563
      cases e563
      replace p563 := eq_true p563
      replace q563 := eq_true q563
      refine start_ (n := 12) (S := fun w' => w'.cell? ⟨gb552, 0, none⟩ = some (.bool t543) ∧ w'.cell? ⟨gb552, 1, none⟩ = some (.bool t544) ∧ w'.cell? ⟨gb552, 2, none⟩ = some (.bool t545) ∧ w'.cell? ⟨gb552, 3, none⟩ = some (.bool t546) ∧ w'.cell? ⟨gb552, 4, none⟩ = some (.bool t547) ∧ w'.cell? ⟨gb552, 5, none⟩ = some (.int .i64 t548) ∧ w'.cell? (ad563.add (t560).toNat) = some (.int .i64 (rd t553 t560))) (ds := []) m12_0 zr rfl rfl ⟨(jL BK552.out 0).trans rfl, (jL BK552.out 1).trans rfl, (jL BK552.out 2).trans rfl, (jL BK552.out 3).trans rfl, (jL BK552.out 4).trans rfl, (jL BK552.out 5).trans rfl, hx563_0⟩ (fun hHeld => ?_); refine with_tabW spec_DrawShortestInputs.tab5 spec_DrawShortestInputs.bits5 (fun HT_ HW_ => ?_)
      generalize wc.drew = w22 at HO_7 HO_8 BK538 BK552 HI542 HB hx563_0 hHeld ⊢
      refine zp HT_ 1 31 m12_400 ?_
      refine zp HT_ 2 32 m12_600 ?_
      refine zp HT_ 3 33 m12_700 ?_
      refine zp HT_ 4 34 #[false, true, true, true, true, false, false, false, false, false, false, false] ?_
      refine zp HT_ 5 35 #[false, true, true, true, true, true, false, false, false, false, false, false] ?_
      refine zt7 HT_ HW_ hHeld 0 30 m12_fc0 ?_
      refine one_ (i := 6) (N := some 36) m12_fe0 rfl rfl (one_of HT_.out zr) (by decide) (fun K hK => ?_)
      refine goes_ Try.func62 zr rfl #[.pointer (some ⟨g542, 0, none⟩), .int .i64 (t553.length : Int)] (by rfl) rfl rfl zm ?_
      with_reducible refine (spec_l01Next.calls g542 t539 x543001_4 x543002_4 (t553.length : Int) t560 t561 t562 w _ ?side1 ?side2 A19.out).mono ?_
      (case side1 => exact zr7 HI542 NB542_538 NB542_552)
      (case side2 => exact zr8 HB HI542 GE538 GE552)
      rintro e w24 ⟨rfl, hi, hb, hk⟩
      have HS6_ := keep_cell hk (hHeld.2.2.2.2.2.2) (by first | (rw [jX]; exact Kd.own_blk (IsS95.own_ne HI542.out HO_8.out (by decide))) | (show (Addr.add _ _).block ≠ _; rw [jX]; exact Kd.own_blk (IsS95.own_ne HI542.out HO_8.out (by decide))) | exact Kd.own_blk (IsS95.own_ne HI542.out HO_8.out (by decide)))
      refine ⟨_, rfl, ?_⟩
      replace HO_7 := jA (Kd.R_mono (Kd.R_keep (IsS95.apart (show IsS95 w _ g542 t539 x543001_4 x543002_4 from zr7 HI542 NB542_538 NB542_552) (zo HO_7) (by decide)) hk (fun _ h => h.2)) (fun _ h => h.1))
      replace HO_8 := jA (Kd.R_mono (Kd.R_keep (IsS95.apart (show IsS95 w _ g542 t539 x543001_4 x543002_4 from zr7 HI542 NB542_538 NB542_552) (zo HO_8) (by decide)) hk (fun _ h => h.2)) (fun _ h => h.1))
      replace BK538 := zK hk BK538 NB538_542
      replace BK552 := zK hk BK552 NB552_542
      replace HB := jA (hb)
      replace HI542 := jA (hi)
      (try clear hb)
      (try clear hb2)
      (try clear hk)
      (try clear hi)
      refine hK.out _ _ ⟨(jL BK552.out 0).trans rfl, (jL BK552.out 1).trans rfl, (jL BK552.out 2).trans rfl, (jL BK552.out 3).trans rfl, (jL BK552.out 4).trans rfl, (jL BK552.out 5).trans rfl, HS6_⟩ (fun hHeld => ?_)
      clear hK K
      refine norm_ (a' := ?_) ?_ ?_
      rotate_left
      ·show Act.put _ (some 36) _ = _
       simp only [Act.put, jC, jE, jF, i64_w, i32_w]
       rfl
      refine zp HT_ 7 37 m12_ff0 ?_
      refine zt7 HT_ HW_ hHeld 8 38 m12_ff8 ?_
      refine one_ (i := 9) (N := none) m12_ffc rfl rfl (one_of HT_.out zr) (by decide) (fun K hK => ?_)
      have hs25 : w24.cell? ⟨gb538, 0, none⟩ = some (.bool false) := (jL BK538.out 0).trans rfl
      have hfs25 := jY BK538.out 0
      have hns25_1 := NB552_538.out
      have hms25_1 := NB538_552.out
      have hs26 : w24.cell? ⟨gb538, 1, none⟩ = some (.bool false) := (jL BK538.out 1).trans rfl
      have hfs26 := jY BK538.out 1
      have hns26_1 := NB552_538.out
      have hms26_1 := NB538_552.out
      have hs27 : w24.cell? ⟨gb538, 2, none⟩ = some (.bool false) := (jL BK538.out 2).trans rfl
      have hfs27 := jY BK538.out 2
      have hns27_1 := NB552_538.out
      have hms27_1 := NB538_552.out
      have hs28 : w24.cell? ⟨gb538, 3, none⟩ = some (.bool false) := (jL BK538.out 3).trans rfl
      have hfs28 := jY BK538.out 3
      have hns28_1 := NB552_538.out
      have hms28_1 := NB538_552.out
      have hs29 : w24.cell? ⟨gb538, 4, none⟩ = some (.bool false) := (jL BK538.out 4).trans rfl
      have hfs29 := jY BK538.out 4
      have hns29_1 := NB552_538.out
      have hms29_1 := NB538_552.out
      have hs30 : w24.cell? ⟨gb538, 5, none⟩ = some (.int .i64 0) := (jL BK538.out 5).trans rfl
      have hfs30 := jY BK538.out 5
      have hns30_1 := NB552_538.out
      have hms30_1 := NB538_552.out
      refine skip_ (w1 := ?_) (by rfl) rfl ?_ ?_
      rotate_left
      ·go_simp
       rfl
      refine hK.out _ _ ⟨((jG (p := ⟨gb538, _, none⟩) NB552_538.out _).trans (((jG (p := ⟨gb538, _, none⟩) NB552_538.out _).trans (((jG (p := ⟨gb538, _, none⟩) NB552_538.out _).trans (((jG (p := ⟨gb538, _, none⟩) NB552_538.out _).trans (((jG (p := ⟨gb538, _, none⟩) NB552_538.out _).trans (((jG (p := ⟨gb538, _, none⟩) NB552_538.out _).trans (hHeld.1)))))))))))), ((jG (p := ⟨gb538, _, none⟩) NB552_538.out _).trans (((jG (p := ⟨gb538, _, none⟩) NB552_538.out _).trans (((jG (p := ⟨gb538, _, none⟩) NB552_538.out _).trans (((jG (p := ⟨gb538, _, none⟩) NB552_538.out _).trans (((jG (p := ⟨gb538, _, none⟩) NB552_538.out _).trans (((jG (p := ⟨gb538, _, none⟩) NB552_538.out _).trans (hHeld.2.1)))))))))))), ((jG (p := ⟨gb538, _, none⟩) NB552_538.out _).trans (((jG (p := ⟨gb538, _, none⟩) NB552_538.out _).trans (((jG (p := ⟨gb538, _, none⟩) NB552_538.out _).trans (((jG (p := ⟨gb538, _, none⟩) NB552_538.out _).trans (((jG (p := ⟨gb538, _, none⟩) NB552_538.out _).trans (((jG (p := ⟨gb538, _, none⟩) NB552_538.out _).trans (hHeld.2.2.1)))))))))))), ((jG (p := ⟨gb538, _, none⟩) NB552_538.out _).trans (((jG (p := ⟨gb538, _, none⟩) NB552_538.out _).trans (((jG (p := ⟨gb538, _, none⟩) NB552_538.out _).trans (((jG (p := ⟨gb538, _, none⟩) NB552_538.out _).trans (((jG (p := ⟨gb538, _, none⟩) NB552_538.out _).trans (((jG (p := ⟨gb538, _, none⟩) NB552_538.out _).trans (hHeld.2.2.2.1)))))))))))), ((jG (p := ⟨gb538, _, none⟩) NB552_538.out _).trans (((jG (p := ⟨gb538, _, none⟩) NB552_538.out _).trans (((jG (p := ⟨gb538, _, none⟩) NB552_538.out _).trans (((jG (p := ⟨gb538, _, none⟩) NB552_538.out _).trans (((jG (p := ⟨gb538, _, none⟩) NB552_538.out _).trans (((jG (p := ⟨gb538, _, none⟩) NB552_538.out _).trans (hHeld.2.2.2.2.1)))))))))))), ((jG (p := ⟨gb538, _, none⟩) NB552_538.out _).trans (((jG (p := ⟨gb538, _, none⟩) NB552_538.out _).trans (((jG (p := ⟨gb538, _, none⟩) NB552_538.out _).trans (((jG (p := ⟨gb538, _, none⟩) NB552_538.out _).trans (((jG (p := ⟨gb538, _, none⟩) NB552_538.out _).trans (((jG (p := ⟨gb538, _, none⟩) NB552_538.out _).trans (hHeld.2.2.2.2.2.1)))))))))))), ((jG (p := ⟨gb538, _, none⟩) (by first | exact Kd.own_blk (Kd.R_ne HO_8.out BK538.out (by decide)) | (rw [jX]; exact Kd.own_blk (Kd.R_ne HO_8.out BK538.out (by decide))) | (show (Addr.add _ _).block ≠ _; rw [jX]; exact Kd.own_blk (Kd.R_ne HO_8.out BK538.out (by decide))) | (dsimp only; exact Kd.own_blk (Kd.R_ne HO_8.out BK538.out (by decide)))) _).trans (((jG (p := ⟨gb538, _, none⟩) (by first | exact Kd.own_blk (Kd.R_ne HO_8.out BK538.out (by decide)) | (rw [jX]; exact Kd.own_blk (Kd.R_ne HO_8.out BK538.out (by decide))) | (show (Addr.add _ _).block ≠ _; rw [jX]; exact Kd.own_blk (Kd.R_ne HO_8.out BK538.out (by decide))) | (dsimp only; exact Kd.own_blk (Kd.R_ne HO_8.out BK538.out (by decide)))) _).trans (((jG (p := ⟨gb538, _, none⟩) (by first | exact Kd.own_blk (Kd.R_ne HO_8.out BK538.out (by decide)) | (rw [jX]; exact Kd.own_blk (Kd.R_ne HO_8.out BK538.out (by decide))) | (show (Addr.add _ _).block ≠ _; rw [jX]; exact Kd.own_blk (Kd.R_ne HO_8.out BK538.out (by decide))) | (dsimp only; exact Kd.own_blk (Kd.R_ne HO_8.out BK538.out (by decide)))) _).trans (((jG (p := ⟨gb538, _, none⟩) (by first | exact Kd.own_blk (Kd.R_ne HO_8.out BK538.out (by decide)) | (rw [jX]; exact Kd.own_blk (Kd.R_ne HO_8.out BK538.out (by decide))) | (show (Addr.add _ _).block ≠ _; rw [jX]; exact Kd.own_blk (Kd.R_ne HO_8.out BK538.out (by decide))) | (dsimp only; exact Kd.own_blk (Kd.R_ne HO_8.out BK538.out (by decide)))) _).trans (((jG (p := ⟨gb538, _, none⟩) (by first | exact Kd.own_blk (Kd.R_ne HO_8.out BK538.out (by decide)) | (rw [jX]; exact Kd.own_blk (Kd.R_ne HO_8.out BK538.out (by decide))) | (show (Addr.add _ _).block ≠ _; rw [jX]; exact Kd.own_blk (Kd.R_ne HO_8.out BK538.out (by decide))) | (dsimp only; exact Kd.own_blk (Kd.R_ne HO_8.out BK538.out (by decide)))) _).trans (((jG (p := ⟨gb538, _, none⟩) (by first | exact Kd.own_blk (Kd.R_ne HO_8.out BK538.out (by decide)) | (rw [jX]; exact Kd.own_blk (Kd.R_ne HO_8.out BK538.out (by decide))) | (show (Addr.add _ _).block ≠ _; rw [jX]; exact Kd.own_blk (Kd.R_ne HO_8.out BK538.out (by decide))) | (dsimp only; exact Kd.own_blk (Kd.R_ne HO_8.out BK538.out (by decide)))) _).trans (hHeld.2.2.2.2.2.2))))))))))))⟩ (fun hHeld => ?_)
      clear hK K
      refine zp HT_ 10 3 m12_ffe ?_
      refine zp HT_ 11 4 m12_fff ?_
      refine done_ (done_of HT_.out zr) ?_
      try go_wp2
      refine jT (results_ctt rfl _ _ gb538 23 #[.bool t543, .bool t544, .bool t545, .bool t546, .bool t547, .int .i64 t548] (0, 0) _ rfl (zP0 BK538) Try.underlying23 rfl zr) rfl ?_
      exact ⟨_, ze, zT HO_7 BK538, zr8 HB HI542 GE538 GE552⟩
     ·rw [if_neg c21] at H
      exact absurd H (by simp)
    ·rw [if_neg c20] at H
     exact absurd H (by simp)
   ·replace c18 := Bool.eq_false_iff.mpr c18
    subst c18
    rw [if_neg zfalse] at H
    replace H := jD.mp H
    obtain ⟨⟨t564, t565, t566⟩, A310, H⟩ := H
    replace H : (some (t543, t544, t545, t546, t547, t548, t549, wrap64 (t564 - 1))) = some (r1, r2, r3, r4, r5, r6, r7, r8) := H
    have A31 := jA A310
    clear A310
    simp only [jI, jM] at H
    obtain ⟨rfl, rfl, rfl, rfl, rfl, rfl, rfl, rfl⟩ := H
    try go_wp2
    replace HO_7 := jA (jS HO_7.out)
    replace HO_8 := jA (jS HO_8.out)
    replace BK538 := jA (blk_drew BK538.out)
    replace BK552 := jA (blk_drew BK552.out)
    replace HI542 := jA (IsS95.drew HI542.out)
    replace HB := jA (below_drew1 HB.out)
    refine start_ (n := 8) (S := fun w' => w'.cell? ⟨gb552, 0, none⟩ = some (.bool t543) ∧ w'.cell? ⟨gb552, 1, none⟩ = some (.bool t544) ∧ w'.cell? ⟨gb552, 2, none⟩ = some (.bool t545) ∧ w'.cell? ⟨gb552, 3, none⟩ = some (.bool t546) ∧ w'.cell? ⟨gb552, 4, none⟩ = some (.bool t547) ∧ w'.cell? ⟨gb552, 5, none⟩ = some (.int .i64 t548)) (ds := []) #[false, false, false, false, false, false, false, false] zr rfl rfl ⟨(jL BK552.out 0).trans rfl, (jL BK552.out 1).trans rfl, (jL BK552.out 2).trans rfl, (jL BK552.out 3).trans rfl, (jL BK552.out 4).trans rfl, (jL BK552.out 5).trans rfl⟩ (fun hHeld => ?_); refine with_tabW spec_DrawShortestInputs.tab6 spec_DrawShortestInputs.bits6 (fun HT_ HW_ => ?_)
    generalize wc.drew = w32 at HO_7 HO_8 BK538 BK552 HI542 HB hHeld ⊢
    refine zp HT_ 1 40 #[false, true, false, false, false, false, false, false] ?_
    refine zp HT_ 2 41 #[false, true, true, false, false, false, false, false] ?_
    refine zt6 HT_ HW_ hHeld 0 39 #[true, true, true, false, false, false, false, false] ?_
    refine one_ (i := 3) (N := some 42) #[true, true, true, true, false, false, false, false] rfl rfl (one_of HT_.out zr) (by decide) (fun K hK => ?_)
    refine goes_ Try.func62 zr rfl #[.pointer (some ⟨g542, 0, none⟩), .int .i64 162] (by rfl) rfl rfl zm ?_
    with_reducible refine (spec_l01Next.calls g542 t539 x543001_4 x543002_4 162 t564 t565 t566 w _ ?side1 ?side2 A31.out).mono ?_
    (case side1 => exact zr7 HI542 NB542_538 NB542_552)
    (case side2 => exact zr8 HB HI542 GE538 GE552)
    rintro e w33 ⟨rfl, hi, hb, hk⟩
    refine ⟨_, rfl, ?_⟩
    replace HO_7 := jA (Kd.R_mono (Kd.R_keep (IsS95.apart (show IsS95 w _ g542 t539 x543001_4 x543002_4 from zr7 HI542 NB542_538 NB542_552) (zo HO_7) (by decide)) hk (fun _ h => h.2)) (fun _ h => h.1))
    replace HO_8 := jA (Kd.R_mono (Kd.R_keep (IsS95.apart (show IsS95 w _ g542 t539 x543001_4 x543002_4 from zr7 HI542 NB542_538 NB542_552) (zo HO_8) (by decide)) hk (fun _ h => h.2)) (fun _ h => h.1))
    replace BK538 := zK hk BK538 NB538_542
    replace BK552 := zK hk BK552 NB552_542
    replace HB := jA (hb)
    replace HI542 := jA (hi)
    (try clear hb)
    (try clear hb2)
    (try clear hk)
    (try clear hi)
    refine hK.out _ _ ⟨(jL BK552.out 0).trans rfl, (jL BK552.out 1).trans rfl, (jL BK552.out 2).trans rfl, (jL BK552.out 3).trans rfl, (jL BK552.out 4).trans rfl, (jL BK552.out 5).trans rfl⟩ (fun hHeld => ?_)
    clear hK K
    refine norm_ (a' := ?_) ?_ ?_
    rotate_left
    ·show Act.put _ (some 42) _ = _
     simp only [Act.put, jC, jE, jF, i64_w, i32_w]
     rfl
    refine zp HT_ 4 43 #[true, true, true, true, true, false, false, false] ?_
    refine one_ (i := 5) (N := none) #[true, true, true, true, true, true, false, false] rfl rfl (one_of HT_.out zr) (by decide) (fun K hK => ?_)
    have hs34 : w33.cell? ⟨gb538, 0, none⟩ = some (.bool false) := (jL BK538.out 0).trans rfl
    have hfs34 := jY BK538.out 0
    have hns34_1 := NB552_538.out
    have hms34_1 := NB538_552.out
    have hs35 : w33.cell? ⟨gb538, 1, none⟩ = some (.bool false) := (jL BK538.out 1).trans rfl
    have hfs35 := jY BK538.out 1
    have hns35_1 := NB552_538.out
    have hms35_1 := NB538_552.out
    have hs36 : w33.cell? ⟨gb538, 2, none⟩ = some (.bool false) := (jL BK538.out 2).trans rfl
    have hfs36 := jY BK538.out 2
    have hns36_1 := NB552_538.out
    have hms36_1 := NB538_552.out
    have hs37 : w33.cell? ⟨gb538, 3, none⟩ = some (.bool false) := (jL BK538.out 3).trans rfl
    have hfs37 := jY BK538.out 3
    have hns37_1 := NB552_538.out
    have hms37_1 := NB538_552.out
    have hs38 : w33.cell? ⟨gb538, 4, none⟩ = some (.bool false) := (jL BK538.out 4).trans rfl
    have hfs38 := jY BK538.out 4
    have hns38_1 := NB552_538.out
    have hms38_1 := NB538_552.out
    have hs39 : w33.cell? ⟨gb538, 5, none⟩ = some (.int .i64 0) := (jL BK538.out 5).trans rfl
    have hfs39 := jY BK538.out 5
    have hns39_1 := NB552_538.out
    have hms39_1 := NB538_552.out
    refine skip_ (w1 := ?_) (by rfl) rfl ?_ ?_
    rotate_left
    ·go_simp
     rfl
    refine hK.out _ _ ⟨((jG (p := ⟨gb538, _, none⟩) NB552_538.out _).trans (((jG (p := ⟨gb538, _, none⟩) NB552_538.out _).trans (((jG (p := ⟨gb538, _, none⟩) NB552_538.out _).trans (((jG (p := ⟨gb538, _, none⟩) NB552_538.out _).trans (((jG (p := ⟨gb538, _, none⟩) NB552_538.out _).trans (((jG (p := ⟨gb538, _, none⟩) NB552_538.out _).trans (hHeld.1)))))))))))), ((jG (p := ⟨gb538, _, none⟩) NB552_538.out _).trans (((jG (p := ⟨gb538, _, none⟩) NB552_538.out _).trans (((jG (p := ⟨gb538, _, none⟩) NB552_538.out _).trans (((jG (p := ⟨gb538, _, none⟩) NB552_538.out _).trans (((jG (p := ⟨gb538, _, none⟩) NB552_538.out _).trans (((jG (p := ⟨gb538, _, none⟩) NB552_538.out _).trans (hHeld.2.1)))))))))))), ((jG (p := ⟨gb538, _, none⟩) NB552_538.out _).trans (((jG (p := ⟨gb538, _, none⟩) NB552_538.out _).trans (((jG (p := ⟨gb538, _, none⟩) NB552_538.out _).trans (((jG (p := ⟨gb538, _, none⟩) NB552_538.out _).trans (((jG (p := ⟨gb538, _, none⟩) NB552_538.out _).trans (((jG (p := ⟨gb538, _, none⟩) NB552_538.out _).trans (hHeld.2.2.1)))))))))))), ((jG (p := ⟨gb538, _, none⟩) NB552_538.out _).trans (((jG (p := ⟨gb538, _, none⟩) NB552_538.out _).trans (((jG (p := ⟨gb538, _, none⟩) NB552_538.out _).trans (((jG (p := ⟨gb538, _, none⟩) NB552_538.out _).trans (((jG (p := ⟨gb538, _, none⟩) NB552_538.out _).trans (((jG (p := ⟨gb538, _, none⟩) NB552_538.out _).trans (hHeld.2.2.2.1)))))))))))), ((jG (p := ⟨gb538, _, none⟩) NB552_538.out _).trans (((jG (p := ⟨gb538, _, none⟩) NB552_538.out _).trans (((jG (p := ⟨gb538, _, none⟩) NB552_538.out _).trans (((jG (p := ⟨gb538, _, none⟩) NB552_538.out _).trans (((jG (p := ⟨gb538, _, none⟩) NB552_538.out _).trans (((jG (p := ⟨gb538, _, none⟩) NB552_538.out _).trans (hHeld.2.2.2.2.1)))))))))))), ((jG (p := ⟨gb538, _, none⟩) NB552_538.out _).trans (((jG (p := ⟨gb538, _, none⟩) NB552_538.out _).trans (((jG (p := ⟨gb538, _, none⟩) NB552_538.out _).trans (((jG (p := ⟨gb538, _, none⟩) NB552_538.out _).trans (((jG (p := ⟨gb538, _, none⟩) NB552_538.out _).trans (((jG (p := ⟨gb538, _, none⟩) NB552_538.out _).trans (hHeld.2.2.2.2.2))))))))))))⟩ (fun hHeld => ?_)
    clear hK K
    refine zp HT_ 6 3 #[true, true, true, true, true, true, true, false] ?_
    refine zp HT_ 7 4 #[true, true, true, true, true, true, true, true] ?_
    refine done_ (done_of HT_.out zr) ?_
    try go_wp2
    refine jT (results_ctt rfl _ _ gb538 23 #[.bool t543, .bool t544, .bool t545, .bool t546, .bool t547, .int .i64 t548] (0, 0) _ rfl (zP0 BK538) Try.underlying23 rfl zr) rfl ?_
    exact ⟨_, ze, zT HO_7 BK538, zr8 HB HI542 GE538 GE552⟩

end Go.Proofs.Ythieppjmjgijfaa.PFnReached
