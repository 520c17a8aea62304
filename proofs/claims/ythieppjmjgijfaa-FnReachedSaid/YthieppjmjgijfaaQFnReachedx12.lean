/- Functions and contracts that FnReached reaches (13 of 22). -/
import Derived.Test.YthieppjmjgijfaaQFnReachedx11
namespace Go.Proofs.Ythieppjmjgijfaa.PFnReached
open Go.RowKit Go.Proofs.YthieppjmjgijfaaW.PrintWords Go.Proofs.YthieppjmjgijfaaW.PrintLast Go.Proofs.YthieppjmjgijfaaW.PrintMore
attribute [local go_sem] max2_int min2_int max_two min_two max_three min_three max_four min_four   -- for this text's walks alone
set_option linter.unusedVariables false
set_option linter.unusedSimpArgs false

/-! ### spec_GiveInputs: function 81 -/
def spec_GiveInputs.l0 : Nat → List Int → Int → Bool → Bool → Bool → Bool → Bool → Int → Option (Bool × Bool × Bool × Bool × Bool × Int × Int × Int)
 | 0, _, _, _, _, _, _, _, _ => none
 | k + 1, x1, x7, x408000, x408001, x408002, x408003, x408004, x408005 => if x7 < (x1.length : Int) then (if 0 ≤ x7 then ((spec_l21Input.f x408000 x408001 x408002 x408003 x408004 x408005 (rd x1 x7)).bind fun bt411 => (if bt411.2.2.2.2.2.2 = 0 then (spec_GiveInputs.l0 k x1 (wrap64 (x7 + 1)) bt411.1 bt411.2.1 bt411.2.2.1 bt411.2.2.2.1 bt411.2.2.2.2.1 bt411.2.2.2.2.2.1) else (some (x408000, x408001, x408002, x408003, x408004, x408005, x7, bt411.2.2.2.2.2.2)))) else (none)) else (some (x408000, x408001, x408002, x408003, x408004, x408005, (x1.length : Int), 0))
def spec_GiveInputs.f (k : Nat) (a0_0 : Bool) (a0_1 : Bool) (a0_2 : Bool) (a0_3 : Bool) (a0_4 : Bool) (a0_5 : Int) (l1 : List Int) : Option (Bool × Bool × Bool × Bool × Bool × Int × Int × Int) := (spec_IsSound.f a0_0 a0_1 a0_2 a0_3 a0_4 a0_5).bind fun t409 => (if t409 = true then (if (l1.length : Int) > 60 then (some (false, false, false, false, false, 0, 0, 3)) else (spec_GiveInputs.l0 k l1 0 a0_0 a0_1 a0_2 a0_3 a0_4 a0_5)) else (some (false, false, false, false, false, 0, 0, 1)))
theorem spec_GiveInputs.mono_l : ∀ k, (∀ y0 y1 y2 y3 y4 y5 y6 y7, LeO (spec_GiveInputs.l0 k y0 y1 y2 y3 y4 y5 y6 y7) (spec_GiveInputs.l0 (k + 1) y0 y1 y2 y3 y4 y5 y6 y7))
 | 0 => fun _ _ _ _ _ _ _ _ r h => by simp [spec_GiveInputs.l0] at h
 | k + 1 => by
  have ih0 := spec_GiveInputs.mono_l k
  ·intro y0 y1 y2 y3 y4 y5 y6 y7
   unfold spec_GiveInputs.l0
   repeat' first
   | (with_reducible exact ih0 _ _ _ _ _ _ _ _)
   | (with_reducible exact LeO.refl _)
   | (with_reducible exact LeO.none _)
   | (with_reducible refine LeO.ite ?_ ?_)
   | (with_reducible refine LeO.bind ?_ (fun _ => ?_))
   | exact ih0 _ _ _ _ _ _ _ _
   | exact LeO.none _
   | refine LeO.ite ?_ ?_
   | refine LeO.bind ?_ (fun _ => ?_)
theorem spec_GiveInputs.mono : ∀ a0 a1 a2 a3 a4 a5 a6 k, LeO (spec_GiveInputs.f k a0 a1 a2 a3 a4 a5 a6) (spec_GiveInputs.f (k + 1) a0 a1 a2 a3 a4 a5 a6) := by
 intro a0 a1 a2 a3 a4 a5 a6 k
 have ih0 := spec_GiveInputs.mono_l k
 unfold spec_GiveInputs.f
 repeat' first
   | (with_reducible exact ih0 _ _ _ _ _ _ _ _)
   | (with_reducible exact LeO.refl _)
   | (with_reducible exact LeO.none _)
   | (with_reducible refine LeO.ite ?_ ?_)
   | (with_reducible refine LeO.bind ?_ (fun _ => ?_))
   | exact ih0 _ _ _ _ _ _ _ _
   | exact LeO.none _
   | refine LeO.ite ?_ ?_
   | refine LeO.bind ?_ (fun _ => ?_)
def spec_GiveInputs.T8 : Bool × List (List Nat × List Nat) := (true, [([], []), ([], []), ([], []), ([1, 2], [1, 2]), ([3], [3]), ([0, 4], [0, 4]), ([5], [5]), ([6], [6]), ([6], [6]), ([], []), ([9, 7, 5, 0, 1, 2, 3, 4, 5, 6, 7, 9], [7, 9]), ([8, 10, 0, 1, 2, 3, 4, 5, 6, 7, 8, 9, 10], [8])])
def spec_GiveInputs.B8 : List Nat := [0, 0, 0, 6, 14, 31, 63, 127, 127, 0, 767, 2047]
theorem spec_GiveInputs.tab8 : rtab .any (opsOf Try.f81 8) = spec_GiveInputs.T8 := by kernel_rfl
theorem spec_GiveInputs.bits8 : waitsOk spec_GiveInputs.T8.2 spec_GiveInputs.B8 = true := by kernel_rfl
set_option maxHeartbeats 8000000 in
set_option maxRecDepth 100000 in
theorem spec_GiveInputs.calls (k : Nat) (a0_0 : Bool) (a0_1 : Bool) (a0_2 : Bool) (a0_3 : Bool) (a0_4 : Bool) (a0_5 : Int) (A1 : Option Addr) (c1 : Nat) (l1 : List Int) (r1 : Bool) (r2 : Bool) (r3 : Bool) (r4 : Bool) (r5 : Bool) (r6 : Int) (r7 : Int) (r8 : Int) (w : World) (hr1 : Kd.C (Kd.int .i64) w A1 l1.length l1) (hc1 : l1.length ≤ c1) (h : spec_GiveInputs.f k a0_0 a0_1 a0_2 a0_3 a0_4 a0_5 l1 = some (r1, r2, r3, r4, r5, r6, r7, r8)) :
  Calls Try.prog 81 #[.agg #[.bool a0_0, .bool a0_1, .bool a0_2, .bool a0_3, .bool a0_4, .int .i64 a0_5], .slice A1 l1.length c1] w fun e w' => e = .returned (.tuple #[.agg #[.bool r1, .bool r2, .bool r3, .bool r4, .bool r5, .int .i64 r6], .int .i64 r7, .int .i64 r8]) ∧ Below w.heap.size w w' := by
 have hu23 := Try.underlying23
 have HR1 := jA hr1
 have HC1 := jA hc1
 clear hr1 hc1
 have HB := jA (Below.refl w.heap.size w)
 have H := h
 unfold spec_GiveInputs.f at H
 clear h
 replace H := jD.mp H
 obtain ⟨t409, A30, H⟩ := H
 try dsimp only at H
 have A3 := jA A30
 clear A30
 by_cases c4 : t409 = true
 ·subst c4
  rw [if_pos rfl] at H
  by_cases c5 : (l1.length : Int) > 60
  ·rw [if_pos c5] at H
   have c5b0 : decide (60 < (l1.length : Int)) = true := jJ c5
   have c5b1 : decide (60 < l1.length) = true := jJ (by omega)
   clear c5
   simp only [jI, jM] at H
   obtain ⟨rfl, rfl, rfl, rfl, rfl, rfl, rfl, rfl⟩ := H
   go_enter Try.func81, Try.ntmps81
   go_wp2_with (first | ((with_reducible refine jK (N := 2) rfl ?_); refine zE 2 #[.bool a0_0, .bool a0_1, .bool a0_2, .bool a0_3, .bool a0_4, .int .i64 a0_5] 23 ?_; intro gb407 hg w6 hbox hb; have BK407 := jA (hbox); have GW407 := zg0 hg HB; have GE407 := zg0 hg HB; replace HB := zS0 HB hb; clear hb hbox hg) | ((with_reducible refine jK (N := 4) rfl ?_); refine zE 4 #[.bool false, .bool false, .bool false, .bool false, .bool false, .int .i64 0] 23 ?_; intro gb408 hg w7 hbox hb; have BK408 := jA (hbox); have GW408 := zg1 hg HB GE407; have GE408 := zg1 hg HB GE407; replace HB := zS1 HB GE407 hb; have NB407_408 := zn hg BK407; replace BK407 := zB BK407 hb; have NB408_407 := jA NB407_408.out.symm; clear hb hbox hg; have hnb8 := NB407_408.out; have hnc8 := NB408_407.out; have hcz9 := zc6 BK407) | ((with_reducible refine jH (f := 51) rfl ?_); refine zL (some 11) Try.func51 #[.agg #[.bool a0_0, .bool a0_1, .bool a0_2, .bool a0_3, .bool a0_4, .int .i64 a0_5]] ?_; (with_reducible refine (spec_IsSound.calls a0_0 a0_1 a0_2 a0_3 a0_4 a0_5 true _ A3.out).mono ?_); rintro e w10 ⟨rfl, hb⟩; refine ⟨_, rfl, ?_⟩; replace BK407 := zB BK407 hb; replace BK408 := zB BK408 hb; replace HB := zS2 HB GE407 GE408 hb; clear hb; have hcz11 := zc6 BK408))
   refine jT (results_ctt rfl _ _ gb408 23 #[.bool false, .bool false, .bool false, .bool false, .bool false, .int .i64 0] (0, 0) _ rfl (zP0 BK408) Try.underlying23 rfl zr) rfl ?_
   exact ⟨ze, zb2 HB GE407 GE408⟩
  ·rw [if_neg c5] at H
   have c5b0 : decide (60 < (l1.length : Int)) = false := jW c5
   have c5b1 : decide (60 < l1.length) = false := jW (by omega)
   clear c5
   have H' := jA H
   clear H
   go_enter Try.func81, Try.ntmps81
   go_wp2_with (first | ((with_reducible refine jK (N := 2) rfl ?_); refine zE 2 #[.bool a0_0, .bool a0_1, .bool a0_2, .bool a0_3, .bool a0_4, .int .i64 a0_5] 23 ?_; intro gb407 hg w12 hbox hb; have BK407 := jA (hbox); have GW407 := zg0 hg HB; have GE407 := zg0 hg HB; replace HB := zS0 HB hb; clear hb hbox hg) | ((with_reducible refine jK (N := 4) rfl ?_); refine zE 4 #[.bool false, .bool false, .bool false, .bool false, .bool false, .int .i64 0] 23 ?_; intro gb408 hg w13 hbox hb; have BK408 := jA (hbox); have GW408 := zg1 hg HB GE407; have GE408 := zg1 hg HB GE407; replace HB := zS1 HB GE407 hb; have NB407_408 := zn hg BK407; replace BK407 := zB BK407 hb; have NB408_407 := jA NB407_408.out.symm; clear hb hbox hg; have hnb14 := NB407_408.out; have hnc14 := NB408_407.out; have hcz15 := zc6 BK407) | ((with_reducible refine jH (f := 51) rfl ?_); refine zL (some 11) Try.func51 #[.agg #[.bool a0_0, .bool a0_1, .bool a0_2, .bool a0_3, .bool a0_4, .int .i64 a0_5]] ?_; (with_reducible refine (spec_IsSound.calls a0_0 a0_1 a0_2 a0_3 a0_4 a0_5 true _ A3.out).mono ?_); rintro e w16 ⟨rfl, hb⟩; refine ⟨_, rfl, ?_⟩; replace BK407 := zB BK407 hb; replace BK408 := zB BK408 hb; replace HB := zS2 HB GE407 GE408 hb; clear hb))
   go_loopg [7] k (fun kq v7 w' => ∃ (x7_1 : Int) (x408000_1 : Bool) (x408001_1 : Bool) (x408002_1 : Bool) (x408003_1 : Bool) (x408004_1 : Bool) (x408005_1 : Int) (x409000_1 : Bool) (x409001_1 : Bool) (x409002_1 : Bool) (x409003_1 : Bool) (x409004_1 : Bool) (x409005_1 : Int), v7 = .int .i64 x7_1 ∧ Aside0 (spec_GiveInputs.l0 kq l1 x7_1 x408000_1 x408001_1 x408002_1 x408003_1 x408004_1 x408005_1 = some (r1, r2, r3, r4, r5, r6, r7, r8)) ∧ Aside0 (kq ≤ k) ∧ Aside0 (w'.heap[gb407]? = some (.cells #[.bool x408000_1, .bool x408001_1, .bool x408002_1, .bool x408003_1, .bool x408004_1, .int .i64 x408005_1] 23 (0, 0))) ∧ Aside0 (w'.heap[gb408]? = some (.cells #[.bool x409000_1, .bool x409001_1, .bool x409002_1, .bool x409003_1, .bool x409004_1, .int .i64 x409005_1] 23 (0, 0))) ∧ Aside0 (Below w.heap.size w w'))
   case atStart => exact ⟨(0), (a0_0), (a0_1), (a0_2), (a0_3), (a0_4), (a0_5), (false), (false), (false), (false), (false), (0), zz, H', ⟨Nat.le_refl _⟩, ⟨zk BK407⟩, ⟨zk BK408⟩, ⟨zb2 HB GE407 GE408⟩⟩
   case round =>
    clear H'
    try clear c1
    try clear p2
    try clear c4
    try clear c5
    try clear c5b0
    try clear c5b1
    try clear c8
    try clear c14
    try clear hcz11
    try clear hcz15
    try clear hcz9
    obtain ⟨x7_1, x408000_1, x408001_1, x408002_1, x408003_1, x408004_1, x408005_1, x409000_1, x409001_1, x409002_1, x409003_1, x409004_1, x409005_1, rfl, HA, HK1, BK407, BK408, HB⟩ := hrel
    cases gk with
    | zero => exact absurd HA.out (by simp [spec_GiveInputs.l0])
    | succ k1 =>
     have H := HA.out
     clear HA
     simp only [spec_GiveInputs.l0] at H
     by_cases c17 : x7_1 < (l1.length : Int)
     ·rw [if_pos c17] at H
      have c17b0 : decide (x7_1 < (l1.length : Int)) = true := jJ c17
      clear c17
      by_cases c18 : 0 ≤ x7_1
      ·rw [if_pos c18] at H
       have c18b0 : decide (0 ≤ x7_1) = true := jJ c18
       clear c18
       replace H := jD.mp H
       obtain ⟨⟨t411, t412, t413, t414, t415, t416, t417⟩, A190, H⟩ := H
       replace H : (if t417 = 0 then (spec_GiveInputs.l0 k1 l1 (wrap64 (x7_1 + 1)) t411 t412 t413 t414 t415 t416) else (some (x408000_1, x408001_1, x408002_1, x408003_1, x408004_1, x408005_1, x7_1, t417))) = some (r1, r2, r3, r4, r5, r6, r7, r8) := H
       have A19 := jA A190
       clear A190
       by_cases c20 : t417 = 0
       ·rw [if_pos c20] at H
        have c20b0 : (t417 == 0) = true := beq_iff_eq.mpr c20
        have c20b1 : (t417 != 0) = false := bne_eq_false_iff_eq.mpr c20
        clear c20
        have H' := jA H
        clear H
        try go_wp2
        replace BK407 := jA (blk_drew BK407.out)
        replace BK408 := jA (blk_drew BK408.out)
        replace HB := jA (below_drew1 HB.out)
        have p410 : 0 ≤ (x7_1 : Int) := jB za
        have q410 : x7_1 < (l1.length : Int) := jB za
        obtain ⟨ad410, e410, hx410_0⟩ := jR HR1.out x7_1 p410 q410
        have hw410_0 := hx410_0
        cases e410
        replace hx410_0 := zx HB hx410_0
        replace p410 := eq_true p410
        replace q410 := eq_true q410
        refine start_ (n := 12) (S := fun w' => w'.cell? ⟨gb407, 0, none⟩ = some (.bool x408000_1) ∧ w'.cell? ⟨gb407, 1, none⟩ = some (.bool x408001_1) ∧ w'.cell? ⟨gb407, 2, none⟩ = some (.bool x408002_1) ∧ w'.cell? ⟨gb407, 3, none⟩ = some (.bool x408003_1) ∧ w'.cell? ⟨gb407, 4, none⟩ = some (.bool x408004_1) ∧ w'.cell? ⟨gb407, 5, none⟩ = some (.int .i64 x408005_1) ∧ w'.cell? (ad410.add (x7_1).toNat) = some (.int .i64 (rd l1 x7_1))) (ds := []) m12_0 zr rfl rfl ⟨(jL BK407.out 0).trans rfl, (jL BK407.out 1).trans rfl, (jL BK407.out 2).trans rfl, (jL BK407.out 3).trans rfl, (jL BK407.out 4).trans rfl, (jL BK407.out 5).trans rfl, (zx HB hw410_0)⟩ (fun hHeld => ?_); refine with_tabW spec_GiveInputs.tab8 spec_GiveInputs.bits8 (fun HT_ HW_ => ?_)
        generalize wr.drew = w21 at BK407 BK408 HB hx410_0 hHeld ⊢
        refine zp HT_ 1 26 m12_400 ?_
        refine zp HT_ 2 27 m12_600 ?_
        refine zp HT_ 3 28 m12_700 ?_
        refine zt7 HT_ HW_ hHeld 0 25 m12_f00 ?_
        refine zt7 HT_ HW_ hHeld 4 29 m12_f80 ?_
        refine join_ (σ := Nat) 2 m12_ffc (fun s_ => [(30, .tuple #[.agg #[.bool t411, .bool t412, .bool t413, .bool t414, .bool t415, .int .i64 t416], .int .i64 t417]), (8, .pointer (some ⟨s_, 0, none⟩)), (24, .tuple #[.agg #[.bool t411, .bool t412, .bool t413, .bool t414, .bool t415, .int .i64 t416], .int .i64 t417]), (31, .agg #[.bool t411, .bool t412, .bool t413, .bool t414, .bool t415, .int .i64 t416]), (32, .int .i64 t417)]) (fun s_ w' => (w'.cell? ⟨gb407, 0, none⟩ = some (.bool x408000_1) ∧ w'.cell? ⟨gb407, 1, none⟩ = some (.bool x408001_1) ∧ w'.cell? ⟨gb407, 2, none⟩ = some (.bool x408002_1) ∧ w'.cell? ⟨gb407, 3, none⟩ = some (.bool x408003_1) ∧ w'.cell? ⟨gb407, 4, none⟩ = some (.bool x408004_1) ∧ w'.cell? ⟨gb407, 5, none⟩ = some (.int .i64 x408005_1) ∧ w'.cell? (ad410.add (x7_1).toNat) = some (.int .i64 (rd l1 x7_1))) ∧ (w'.heap[gb407]? = some (.cells #[.bool x408000_1, .bool x408001_1, .bool x408002_1, .bool x408003_1, .bool x408004_1, .int .i64 x408005_1] 23 (0, 0))) ∧ (w'.heap[gb408]? = some (.cells #[.bool x409000_1, .bool x409001_1, .bool x409002_1, .bool x409003_1, .bool x409004_1, .int .i64 x409005_1] 23 (0, 0))) ∧ (w'.heap[s_]? = some (.cells #[.bool false, .bool false, .bool false, .bool false, .bool false, .int .i64 0] 23 (0, 0))) ∧ (w.heap.size ≤ s_) ∧ (w.heap.size ≤ s_) ∧ (gb407 ≠ s_) ∧ (s_ ≠ gb407) ∧ (gb408 ≠ s_) ∧ (s_ ≠ gb408) ∧ (Below w.heap.size w w')) ?_ ?_
        rotate_left
        ·intro hCont
         refine two_ (i := 5) (j := 9) (Ni := some 30) (Nj := some 8) m12_fc0 m12_f84 rfl rfl rfl rfl (two_of HT_.out zr) (by decide) (by decide) (fun K hK => ?_) (fun K hK => ?_)
         ·skip
          refine goes_ Try.func90 zr rfl #[.agg #[.bool x408000_1, .bool x408001_1, .bool x408002_1, .bool x408003_1, .bool x408004_1, .int .i64 x408005_1], .int .i64 (rd l1 x7_1)] (by rfl) rfl rfl zm ?_
          with_reducible refine (spec_l21Input.calls x408000_1 x408001_1 x408002_1 x408003_1 x408004_1 x408005_1 (rd l1 x7_1) t411 t412 t413 t414 t415 t416 t417 _ A19.out).mono ?_
          rintro e w22 ⟨rfl, hb⟩
          refine ⟨_, rfl, ?_⟩
          replace BK407 := zB BK407 hb
          replace BK408 := zB BK408 hb
          replace HB := zS2 HB GE407 GE408 hb
          (try clear hb)
          (try clear hb2)
          (try clear hk)
          (try clear hi)
          refine hK.out _ _ ⟨(jL BK407.out 0).trans rfl, (jL BK407.out 1).trans rfl, (jL BK407.out 2).trans rfl, (jL BK407.out 3).trans rfl, (jL BK407.out 4).trans rfl, (jL BK407.out 5).trans rfl, (zx HB hw410_0)⟩ (fun hHeld => ?_)
          clear hK K
          refine norm_ (a' := ?_) ?_ ?_
          rotate_left
          ·show Act.put _ (some 30) _ = _
           simp only [Act.put, jC, jE, jF, i64_w, i32_w]
           rfl
          refine zp HT_ 6 24 m12_fe0 ?_
          refine zp HT_ 7 31 m12_ff0 ?_
          refine zp HT_ 8 32 m12_ff8 ?_
          refine one_ (i := 9) (N := some 8) m12_ffc rfl rfl (one_of HT_.out zr) (by decide) (fun K hK => ?_)
          refine box_step ?hg (N := 8) ?hd (cs := #[.bool false, .bool false, .bool false, .bool false, .bool false, .int .i64 0]) (t := 23) ?hr ?_; (case hd => rfl); (case hg => rfl); (case hr => first | (go_simp; done) | (go_simp; rfl))
          intro gb418 hg w23 hbox hb
          have BK418 := jA (hbox)
          have GW418 := zg2 hg HB GE407 GE408
          have GE418 := zg2 hg HB GE407 GE408
          replace HB := zS2 HB GE407 GE408 hb
          have NB407_418 := zn hg BK407
          have NB418_407 := zN hg BK407
          replace BK407 := zB BK407 hb
          have NB408_418 := zn hg BK408
          have NB418_408 := zN hg BK408
          replace BK408 := zB BK408 hb
          clear hb hbox hg
          refine hK.out _ _ ⟨(jL BK407.out 0).trans rfl, (jL BK407.out 1).trans rfl, (jL BK407.out 2).trans rfl, (jL BK407.out 3).trans rfl, (jL BK407.out 4).trans rfl, (jL BK407.out 5).trans rfl, (zx HB hw410_0)⟩ (fun hHeld => ?_)
          clear hK K
          refine norm_ (a' := ?_) ?_ ?_
          rotate_left
          ·show Act.put _ (some 8) _ = _
           simp only [Act.put, jC, jE, jF, i64_w, i32_w]
           rfl
          exact norm_ (by simp only [putAll, Act.put, jC, jE, jF]) (hCont (gb418) _ ⟨hHeld, (zk BK407), (zk BK408), (zk BK418), GW418.out, GE418.out, NB407_418.out, NB418_407.out, NB408_418.out, NB418_408.out, (zb3 HB GE407 GE408 GE418)⟩)
         ·skip
          refine box_step ?hg (N := 8) ?hd (cs := #[.bool false, .bool false, .bool false, .bool false, .bool false, .int .i64 0]) (t := 23) ?hr ?_; (case hd => rfl); (case hg => rfl); (case hr => first | (go_simp; done) | (go_simp; rfl))
          intro gb418 hg w22 hbox hb
          have BK418 := jA (hbox)
          have GW418 := zg2 hg HB GE407 GE408
          have GE418 := zg2 hg HB GE407 GE408
          replace HB := zS2 HB GE407 GE408 hb
          have NB407_418 := zn hg BK407
          have NB418_407 := zN hg BK407
          replace BK407 := zB BK407 hb
          have NB408_418 := zn hg BK408
          have NB418_408 := zN hg BK408
          replace BK408 := zB BK408 hb
          clear hb hbox hg
          refine hK.out _ _ ⟨(jL BK407.out 0).trans rfl, (jL BK407.out 1).trans rfl, (jL BK407.out 2).trans rfl, (jL BK407.out 3).trans rfl, (jL BK407.out 4).trans rfl, (jL BK407.out 5).trans rfl, (zx HB hw410_0)⟩ (fun hHeld => ?_)
          clear hK K
          refine norm_ (a' := ?_) ?_ ?_
          rotate_left
          ·show Act.put _ (some 8) _ = _
           simp only [Act.put, jC, jE, jF, i64_w, i32_w]
           rfl
          refine one_ (i := 5) (N := some 30) m12_fc4 rfl rfl (one_of HT_.out zr) (by decide) (fun K hK => ?_)
          refine goes_ Try.func90 zr rfl #[.agg #[.bool x408000_1, .bool x408001_1, .bool x408002_1, .bool x408003_1, .bool x408004_1, .int .i64 x408005_1], .int .i64 (rd l1 x7_1)] (by rfl) rfl rfl zm ?_
          with_reducible refine (spec_l21Input.calls x408000_1 x408001_1 x408002_1 x408003_1 x408004_1 x408005_1 (rd l1 x7_1) t411 t412 t413 t414 t415 t416 t417 _ A19.out).mono ?_
          rintro e w23 ⟨rfl, hb⟩
          refine ⟨_, rfl, ?_⟩
          replace BK407 := zB BK407 hb
          replace BK408 := zB BK408 hb
          replace BK418 := zB BK418 hb
          replace HB := zS3 HB GE407 GE408 GE418 hb
          (try clear hb)
          (try clear hb2)
          (try clear hk)
          (try clear hi)
          refine hK.out _ _ ⟨(jL BK407.out 0).trans rfl, (jL BK407.out 1).trans rfl, (jL BK407.out 2).trans rfl, (jL BK407.out 3).trans rfl, (jL BK407.out 4).trans rfl, (jL BK407.out 5).trans rfl, (zx HB hw410_0)⟩ (fun hHeld => ?_)
          clear hK K
          refine norm_ (a' := ?_) ?_ ?_
          rotate_left
          ·show Act.put _ (some 30) _ = _
           simp only [Act.put, jC, jE, jF, i64_w, i32_w]
           rfl
          refine zp HT_ 6 24 m12_fe4 ?_
          refine zp HT_ 7 31 m12_ff4 ?_
          refine zp HT_ 8 32 m12_ffc ?_
          exact norm_ (by simp only [putAll, Act.put, jC, jE, jF]) (hCont (gb418) _ ⟨hHeld, (zk BK407), (zk BK408), (zk BK418), GW418.out, GE418.out, NB407_418.out, NB418_407.out, NB408_418.out, NB418_408.out, (zb3 HB GE407 GE408 GE418)⟩)
        rintro gb418 w24 ⟨hS_, h0_, h1_, h2_, h3_, h4_, h5_, h6_, h7_, h8_, h9_⟩
        replace BK407 : Aside0 (w24.heap[gb407]? = some (.cells #[.bool x408000_1, .bool x408001_1, .bool x408002_1, .bool x408003_1, .bool x408004_1, .int .i64 x408005_1] 23 (0, 0))) := ⟨h0_⟩
        replace BK408 : Aside0 (w24.heap[gb408]? = some (.cells #[.bool x409000_1, .bool x409001_1, .bool x409002_1, .bool x409003_1, .bool x409004_1, .int .i64 x409005_1] 23 (0, 0))) := ⟨h1_⟩
        have BK418 : Aside0 (w24.heap[gb418]? = some (.cells #[.bool false, .bool false, .bool false, .bool false, .bool false, .int .i64 0] 23 (0, 0))) := ⟨h2_⟩
        have GW418 : Aside0 (w.heap.size ≤ gb418) := ⟨h3_⟩
        have GE418 : Aside0 (w.heap.size ≤ gb418) := ⟨h4_⟩
        have NB407_418 : Aside0 (gb407 ≠ gb418) := ⟨h5_⟩
        have NB418_407 : Aside0 (gb418 ≠ gb407) := ⟨h6_⟩
        have NB408_418 : Aside0 (gb408 ≠ gb418) := ⟨h7_⟩
        have NB418_408 : Aside0 (gb418 ≠ gb408) := ⟨h8_⟩
        replace HB : Aside0 (Below w.heap.size w w24) := ⟨h9_⟩
        clear h0_ h1_ h2_ h3_ h4_ h5_ h6_ h7_ h8_ h9_
        have hHeld : w24.cell? ⟨gb407, 0, none⟩ = some (.bool x408000_1) ∧ w24.cell? ⟨gb407, 1, none⟩ = some (.bool x408001_1) ∧ w24.cell? ⟨gb407, 2, none⟩ = some (.bool x408002_1) ∧ w24.cell? ⟨gb407, 3, none⟩ = some (.bool x408003_1) ∧ w24.cell? ⟨gb407, 4, none⟩ = some (.bool x408004_1) ∧ w24.cell? ⟨gb407, 5, none⟩ = some (.int .i64 x408005_1) ∧ w24.cell? (ad410.add (x7_1).toNat) = some (.int .i64 (rd l1 x7_1)) := hS_
        refine norm_ (a' := ?_) ?_ ?_
        rotate_left
        ·simp only [putAll, Act.put, jC, jE, jF]
         rfl
        refine one_ (i := 10) (N := none) m12_ffe rfl rfl (one_of HT_.out zr) (by decide) (fun K hK => ?_)
        have hs25 : w24.cell? ⟨gb418, 0, none⟩ = some (.bool false) := (jL BK418.out 0).trans rfl
        have hfs25 := jY BK418.out 0
        have hns25_0 := NB407_418.out
        have hns25_1 := NB408_418.out
        have hms25_0 := NB418_407.out
        have hms25_1 := NB418_408.out
        have hs26 : w24.cell? ⟨gb418, 1, none⟩ = some (.bool false) := (jL BK418.out 1).trans rfl
        have hfs26 := jY BK418.out 1
        have hns26_0 := NB407_418.out
        have hns26_1 := NB408_418.out
        have hms26_0 := NB418_407.out
        have hms26_1 := NB418_408.out
        have hs27 : w24.cell? ⟨gb418, 2, none⟩ = some (.bool false) := (jL BK418.out 2).trans rfl
        have hfs27 := jY BK418.out 2
        have hns27_0 := NB407_418.out
        have hns27_1 := NB408_418.out
        have hms27_0 := NB418_407.out
        have hms27_1 := NB418_408.out
        have hs28 : w24.cell? ⟨gb418, 3, none⟩ = some (.bool false) := (jL BK418.out 3).trans rfl
        have hfs28 := jY BK418.out 3
        have hns28_0 := NB407_418.out
        have hns28_1 := NB408_418.out
        have hms28_0 := NB418_407.out
        have hms28_1 := NB418_408.out
        have hs29 : w24.cell? ⟨gb418, 4, none⟩ = some (.bool false) := (jL BK418.out 4).trans rfl
        have hfs29 := jY BK418.out 4
        have hns29_0 := NB407_418.out
        have hns29_1 := NB408_418.out
        have hms29_0 := NB418_407.out
        have hms29_1 := NB418_408.out
        have hs30 : w24.cell? ⟨gb418, 5, none⟩ = some (.int .i64 0) := (jL BK418.out 5).trans rfl
        have hfs30 := jY BK418.out 5
        have hns30_0 := NB407_418.out
        have hns30_1 := NB408_418.out
        have hms30_0 := NB418_407.out
        have hms30_1 := NB418_408.out
        refine skip_ (w1 := ?_) (by rfl) rfl ?_ ?_
        rotate_left
        ·go_simp
         rfl
        refine hK.out _ _ ⟨((jG (p := ⟨gb418, _, none⟩) NB407_418.out _).trans (((jG (p := ⟨gb418, _, none⟩) NB407_418.out _).trans (((jG (p := ⟨gb418, _, none⟩) NB407_418.out _).trans (((jG (p := ⟨gb418, _, none⟩) NB407_418.out _).trans (((jG (p := ⟨gb418, _, none⟩) NB407_418.out _).trans (((jG (p := ⟨gb418, _, none⟩) NB407_418.out _).trans (hHeld.1)))))))))))), ((jG (p := ⟨gb418, _, none⟩) NB407_418.out _).trans (((jG (p := ⟨gb418, _, none⟩) NB407_418.out _).trans (((jG (p := ⟨gb418, _, none⟩) NB407_418.out _).trans (((jG (p := ⟨gb418, _, none⟩) NB407_418.out _).trans (((jG (p := ⟨gb418, _, none⟩) NB407_418.out _).trans (((jG (p := ⟨gb418, _, none⟩) NB407_418.out _).trans (hHeld.2.1)))))))))))), ((jG (p := ⟨gb418, _, none⟩) NB407_418.out _).trans (((jG (p := ⟨gb418, _, none⟩) NB407_418.out _).trans (((jG (p := ⟨gb418, _, none⟩) NB407_418.out _).trans (((jG (p := ⟨gb418, _, none⟩) NB407_418.out _).trans (((jG (p := ⟨gb418, _, none⟩) NB407_418.out _).trans (((jG (p := ⟨gb418, _, none⟩) NB407_418.out _).trans (hHeld.2.2.1)))))))))))), ((jG (p := ⟨gb418, _, none⟩) NB407_418.out _).trans (((jG (p := ⟨gb418, _, none⟩) NB407_418.out _).trans (((jG (p := ⟨gb418, _, none⟩) NB407_418.out _).trans (((jG (p := ⟨gb418, _, none⟩) NB407_418.out _).trans (((jG (p := ⟨gb418, _, none⟩) NB407_418.out _).trans (((jG (p := ⟨gb418, _, none⟩) NB407_418.out _).trans (hHeld.2.2.2.1)))))))))))), ((jG (p := ⟨gb418, _, none⟩) NB407_418.out _).trans (((jG (p := ⟨gb418, _, none⟩) NB407_418.out _).trans (((jG (p := ⟨gb418, _, none⟩) NB407_418.out _).trans (((jG (p := ⟨gb418, _, none⟩) NB407_418.out _).trans (((jG (p := ⟨gb418, _, none⟩) NB407_418.out _).trans (((jG (p := ⟨gb418, _, none⟩) NB407_418.out _).trans (hHeld.2.2.2.2.1)))))))))))), ((jG (p := ⟨gb418, _, none⟩) NB407_418.out _).trans (((jG (p := ⟨gb418, _, none⟩) NB407_418.out _).trans (((jG (p := ⟨gb418, _, none⟩) NB407_418.out _).trans (((jG (p := ⟨gb418, _, none⟩) NB407_418.out _).trans (((jG (p := ⟨gb418, _, none⟩) NB407_418.out _).trans (((jG (p := ⟨gb418, _, none⟩) NB407_418.out _).trans (hHeld.2.2.2.2.2.1)))))))))))), ((jG (p := ⟨gb418, _, none⟩) (by first | exact zd hw410_0 GW418 | (rw [jX]; exact zd hw410_0 GW418) | (show (Addr.add _ _).block ≠ _; rw [jX]; exact zd hw410_0 GW418) | (dsimp only; exact zd hw410_0 GW418)) _).trans (((jG (p := ⟨gb418, _, none⟩) (by first | exact zd hw410_0 GW418 | (rw [jX]; exact zd hw410_0 GW418) | (show (Addr.add _ _).block ≠ _; rw [jX]; exact zd hw410_0 GW418) | (dsimp only; exact zd hw410_0 GW418)) _).trans (((jG (p := ⟨gb418, _, none⟩) (by first | exact zd hw410_0 GW418 | (rw [jX]; exact zd hw410_0 GW418) | (show (Addr.add _ _).block ≠ _; rw [jX]; exact zd hw410_0 GW418) | (dsimp only; exact zd hw410_0 GW418)) _).trans (((jG (p := ⟨gb418, _, none⟩) (by first | exact zd hw410_0 GW418 | (rw [jX]; exact zd hw410_0 GW418) | (show (Addr.add _ _).block ≠ _; rw [jX]; exact zd hw410_0 GW418) | (dsimp only; exact zd hw410_0 GW418)) _).trans (((jG (p := ⟨gb418, _, none⟩) (by first | exact zd hw410_0 GW418 | (rw [jX]; exact zd hw410_0 GW418) | (show (Addr.add _ _).block ≠ _; rw [jX]; exact zd hw410_0 GW418) | (dsimp only; exact zd hw410_0 GW418)) _).trans (((jG (p := ⟨gb418, _, none⟩) (by first | exact zd hw410_0 GW418 | (rw [jX]; exact zd hw410_0 GW418) | (show (Addr.add _ _).block ≠ _; rw [jX]; exact zd hw410_0 GW418) | (dsimp only; exact zd hw410_0 GW418)) _).trans (hHeld.2.2.2.2.2.2))))))))))))⟩ (fun hHeld => ?_)
        clear hK K
        refine zp HT_ 11 9 m12_fff ?_
        refine done_ (done_of HT_.out zr) ?_
        have hnb31 := NB418_407.out
        have hnc31 := NB407_418.out
        have hnb32 := NB418_408.out
        have hnc32 := NB408_418.out
        have hcz33 := zc6 BK418
        have hnb34 := NB407_408.out
        have hnc34 := NB408_407.out
        have hcz35 := zc6 BK407
        try go_wp2
        go_roundg k1
        case measure => have := HK1.out; omega
        case rel => exact ⟨(wrap64 (x7_1 + 1)), (t411), (t412), (t413), (t414), (t415), (t416), (x409000_1), (x409001_1), (x409002_1), (x409003_1), (x409004_1), (x409005_1), zz, H', ⟨by have := HK1.out; omega⟩, ⟨zP1 BK407 NB407_418⟩, ⟨zQ2 BK408 NB408_407 NB408_418⟩, ⟨zb3 HB GE407 GE408 GE418⟩⟩
       ·rw [if_neg c20] at H
        have c20b0 : (t417 == 0) = false := beq_eq_false_iff_ne.mpr c20
        have c20b1 : (t417 != 0) = true := bne_iff_ne.mpr c20
        simp only [jI, jM] at H
        obtain ⟨rfl, rfl, rfl, rfl, rfl, rfl, rfl, rfl⟩ := H
        try go_wp2
        replace BK407 := jA (blk_drew BK407.out)
        replace BK408 := jA (blk_drew BK408.out)
        replace HB := jA (below_drew1 HB.out)
        have p410 : 0 ≤ (x7_1 : Int) := jB za
        have q410 : x7_1 < (l1.length : Int) := jB za
        obtain ⟨ad410, e410, hx410_0⟩ := jR HR1.out x7_1 p410 q410
        have hw410_0 := hx410_0
        cases e410
        replace hx410_0 := zx HB hx410_0
        replace p410 := eq_true p410
        replace q410 := eq_true q410
        refine start_ (n := 12) (S := fun w' => w'.cell? ⟨gb407, 0, none⟩ = some (.bool x408000_1) ∧ w'.cell? ⟨gb407, 1, none⟩ = some (.bool x408001_1) ∧ w'.cell? ⟨gb407, 2, none⟩ = some (.bool x408002_1) ∧ w'.cell? ⟨gb407, 3, none⟩ = some (.bool x408003_1) ∧ w'.cell? ⟨gb407, 4, none⟩ = some (.bool x408004_1) ∧ w'.cell? ⟨gb407, 5, none⟩ = some (.int .i64 x408005_1) ∧ w'.cell? (ad410.add (x7_1).toNat) = some (.int .i64 (rd l1 x7_1))) (ds := []) m12_0 zr rfl rfl ⟨(jL BK407.out 0).trans rfl, (jL BK407.out 1).trans rfl, (jL BK407.out 2).trans rfl, (jL BK407.out 3).trans rfl, (jL BK407.out 4).trans rfl, (jL BK407.out 5).trans rfl, (zx HB hw410_0)⟩ (fun hHeld => ?_); refine with_tabW spec_GiveInputs.tab8 spec_GiveInputs.bits8 (fun HT_ HW_ => ?_)
        generalize wr.drew = w36 at BK407 BK408 HB hx410_0 hHeld ⊢
        refine zp HT_ 1 26 m12_400 ?_
        refine zp HT_ 2 27 m12_600 ?_
        refine zp HT_ 3 28 m12_700 ?_
        refine zt7 HT_ HW_ hHeld 0 25 m12_f00 ?_
        refine zt7 HT_ HW_ hHeld 4 29 m12_f80 ?_
        refine join_ (σ := Nat) 2 m12_ffc (fun s_ => [(30, .tuple #[.agg #[.bool t411, .bool t412, .bool t413, .bool t414, .bool t415, .int .i64 t416], .int .i64 t417]), (8, .pointer (some ⟨s_, 0, none⟩)), (24, .tuple #[.agg #[.bool t411, .bool t412, .bool t413, .bool t414, .bool t415, .int .i64 t416], .int .i64 t417]), (31, .agg #[.bool t411, .bool t412, .bool t413, .bool t414, .bool t415, .int .i64 t416]), (32, .int .i64 t417)]) (fun s_ w' => (w'.cell? ⟨gb407, 0, none⟩ = some (.bool x408000_1) ∧ w'.cell? ⟨gb407, 1, none⟩ = some (.bool x408001_1) ∧ w'.cell? ⟨gb407, 2, none⟩ = some (.bool x408002_1) ∧ w'.cell? ⟨gb407, 3, none⟩ = some (.bool x408003_1) ∧ w'.cell? ⟨gb407, 4, none⟩ = some (.bool x408004_1) ∧ w'.cell? ⟨gb407, 5, none⟩ = some (.int .i64 x408005_1) ∧ w'.cell? (ad410.add (x7_1).toNat) = some (.int .i64 (rd l1 x7_1))) ∧ (w'.heap[gb407]? = some (.cells #[.bool x408000_1, .bool x408001_1, .bool x408002_1, .bool x408003_1, .bool x408004_1, .int .i64 x408005_1] 23 (0, 0))) ∧ (w'.heap[gb408]? = some (.cells #[.bool x409000_1, .bool x409001_1, .bool x409002_1, .bool x409003_1, .bool x409004_1, .int .i64 x409005_1] 23 (0, 0))) ∧ (w'.heap[s_]? = some (.cells #[.bool false, .bool false, .bool false, .bool false, .bool false, .int .i64 0] 23 (0, 0))) ∧ (w.heap.size ≤ s_) ∧ (w.heap.size ≤ s_) ∧ (gb407 ≠ s_) ∧ (s_ ≠ gb407) ∧ (gb408 ≠ s_) ∧ (s_ ≠ gb408) ∧ (Below w.heap.size w w')) ?_ ?_
        rotate_left
        ·intro hCont
         refine two_ (i := 5) (j := 9) (Ni := some 30) (Nj := some 8) m12_fc0 m12_f84 rfl rfl rfl rfl (two_of HT_.out zr) (by decide) (by decide) (fun K hK => ?_) (fun K hK => ?_)
         ·skip
          refine goes_ Try.func90 zr rfl #[.agg #[.bool x408000_1, .bool x408001_1, .bool x408002_1, .bool x408003_1, .bool x408004_1, .int .i64 x408005_1], .int .i64 (rd l1 x7_1)] (by rfl) rfl rfl zm ?_
          with_reducible refine (spec_l21Input.calls x408000_1 x408001_1 x408002_1 x408003_1 x408004_1 x408005_1 (rd l1 x7_1) t411 t412 t413 t414 t415 t416 t417 _ A19.out).mono ?_
          rintro e w37 ⟨rfl, hb⟩
          refine ⟨_, rfl, ?_⟩
          replace BK407 := zB BK407 hb
          replace BK408 := zB BK408 hb
          replace HB := zS2 HB GE407 GE408 hb
          (try clear hb)
          (try clear hb2)
          (try clear hk)
          (try clear hi)
          refine hK.out _ _ ⟨(jL BK407.out 0).trans rfl, (jL BK407.out 1).trans rfl, (jL BK407.out 2).trans rfl, (jL BK407.out 3).trans rfl, (jL BK407.out 4).trans rfl, (jL BK407.out 5).trans rfl, (zx HB hw410_0)⟩ (fun hHeld => ?_)
          clear hK K
          refine norm_ (a' := ?_) ?_ ?_
          rotate_left
          ·show Act.put _ (some 30) _ = _
           simp only [Act.put, jC, jE, jF, i64_w, i32_w]
           rfl
          refine zp HT_ 6 24 m12_fe0 ?_
          refine zp HT_ 7 31 m12_ff0 ?_
          refine zp HT_ 8 32 m12_ff8 ?_
          refine one_ (i := 9) (N := some 8) m12_ffc rfl rfl (one_of HT_.out zr) (by decide) (fun K hK => ?_)
          refine box_step ?hg (N := 8) ?hd (cs := #[.bool false, .bool false, .bool false, .bool false, .bool false, .int .i64 0]) (t := 23) ?hr ?_; (case hd => rfl); (case hg => rfl); (case hr => first | (go_simp; done) | (go_simp; rfl))
          intro gb418 hg w38 hbox hb
          have BK418 := jA (hbox)
          have GW418 := zg2 hg HB GE407 GE408
          have GE418 := zg2 hg HB GE407 GE408
          replace HB := zS2 HB GE407 GE408 hb
          have NB407_418 := zn hg BK407
          have NB418_407 := zN hg BK407
          replace BK407 := zB BK407 hb
          have NB408_418 := zn hg BK408
          have NB418_408 := zN hg BK408
          replace BK408 := zB BK408 hb
          clear hb hbox hg
          refine hK.out _ _ ⟨(jL BK407.out 0).trans rfl, (jL BK407.out 1).trans rfl, (jL BK407.out 2).trans rfl, (jL BK407.out 3).trans rfl, (jL BK407.out 4).trans rfl, (jL BK407.out 5).trans rfl, (zx HB hw410_0)⟩ (fun hHeld => ?_)
          clear hK K
          refine norm_ (a' := ?_) ?_ ?_
          rotate_left
          ·show Act.put _ (some 8) _ = _
           simp only [Act.put, jC, jE, jF, i64_w, i32_w]
           rfl
          exact norm_ (by simp only [putAll, Act.put, jC, jE, jF]) (hCont (gb418) _ ⟨hHeld, (zk BK407), (zk BK408), (zk BK418), GW418.out, GE418.out, NB407_418.out, NB418_407.out, NB408_418.out, NB418_408.out, (zb3 HB GE407 GE408 GE418)⟩)
         ·skip
          refine box_step ?hg (N := 8) ?hd (cs := #[.bool false, .bool false, .bool false, .bool false, .bool false, .int .i64 0]) (t := 23) ?hr ?_; (case hd => rfl); (case hg => rfl); (case hr => first | (go_simp; done) | (go_simp; rfl))
          intro gb418 hg w37 hbox hb
          have BK418 := jA (hbox)
          have GW418 := zg2 hg HB GE407 GE408
          have GE418 := zg2 hg HB GE407 GE408
          replace HB := zS2 HB GE407 GE408 hb
          have NB407_418 := zn hg BK407
          have NB418_407 := zN hg BK407
          replace BK407 := zB BK407 hb
          have NB408_418 := zn hg BK408
          have NB418_408 := zN hg BK408
          replace BK408 := zB BK408 hb
          clear hb hbox hg
          refine hK.out _ _ ⟨(jL BK407.out 0).trans rfl, (jL BK407.out 1).trans rfl, (jL BK407.out 2).trans rfl, (jL BK407.out 3).trans rfl, (jL BK407.out 4).trans rfl, (jL BK407.out 5).trans rfl, (zx HB hw410_0)⟩ (fun hHeld => ?_)
          clear hK K
          refine norm_ (a' := ?_) ?_ ?_
          rotate_left
          ·show Act.put _ (some 8) _ = _
           simp only [Act.put, jC, jE, jF, i64_w, i32_w]
           rfl
          refine one_ (i := 5) (N := some 30) m12_fc4 rfl rfl (one_of HT_.out zr) (by decide) (fun K hK => ?_)
          refine goes_ Try.func90 zr rfl #[.agg #[.bool x408000_1, .bool x408001_1, .bool x408002_1, .bool x408003_1, .bool x408004_1, .int .i64 x408005_1], .int .i64 (rd l1 x7_1)] (by rfl) rfl rfl zm ?_
          with_reducible refine (spec_l21Input.calls x408000_1 x408001_1 x408002_1 x408003_1 x408004_1 x408005_1 (rd l1 x7_1) t411 t412 t413 t414 t415 t416 t417 _ A19.out).mono ?_
          rintro e w38 ⟨rfl, hb⟩
          refine ⟨_, rfl, ?_⟩
          replace BK407 := zB BK407 hb
          replace BK408 := zB BK408 hb
          replace BK418 := zB BK418 hb
          replace HB := zS3 HB GE407 GE408 GE418 hb
          (try clear hb)
          (try clear hb2)
          (try clear hk)
          (try clear hi)
          refine hK.out _ _ ⟨(jL BK407.out 0).trans rfl, (jL BK407.out 1).trans rfl, (jL BK407.out 2).trans rfl, (jL BK407.out 3).trans rfl, (jL BK407.out 4).trans rfl, (jL BK407.out 5).trans rfl, (zx HB hw410_0)⟩ (fun hHeld => ?_)
          clear hK K
          refine norm_ (a' := ?_) ?_ ?_
          rotate_left
          ·show Act.put _ (some 30) _ = _
           simp only [Act.put, jC, jE, jF, i64_w, i32_w]
           rfl
          refine zp HT_ 6 24 m12_fe4 ?_
          refine zp HT_ 7 31 m12_ff4 ?_
          refine zp HT_ 8 32 m12_ffc ?_
          exact norm_ (by simp only [putAll, Act.put, jC, jE, jF]) (hCont (gb418) _ ⟨hHeld, (zk BK407), (zk BK408), (zk BK418), GW418.out, GE418.out, NB407_418.out, NB418_407.out, NB408_418.out, NB418_408.out, (zb3 HB GE407 GE408 GE418)⟩)
        rintro gb418 w39 ⟨hS_, h0_, h1_, h2_, h3_, h4_, h5_, h6_, h7_, h8_, h9_⟩
        replace BK407 : Aside0 (w39.heap[gb407]? = some (.cells #[.bool x408000_1, .bool x408001_1, .bool x408002_1, .bool x408003_1, .bool x408004_1, .int .i64 x408005_1] 23 (0, 0))) := ⟨h0_⟩
        replace BK408 : Aside0 (w39.heap[gb408]? = some (.cells #[.bool x409000_1, .bool x409001_1, .bool x409002_1, .bool x409003_1, .bool x409004_1, .int .i64 x409005_1] 23 (0, 0))) := ⟨h1_⟩
        have BK418 : Aside0 (w39.heap[gb418]? = some (.cells #[.bool false, .bool false, .bool false, .bool false, .bool false, .int .i64 0] 23 (0, 0))) := ⟨h2_⟩
        have GW418 : Aside0 (w.heap.size ≤ gb418) := ⟨h3_⟩
        have GE418 : Aside0 (w.heap.size ≤ gb418) := ⟨h4_⟩
        have NB407_418 : Aside0 (gb407 ≠ gb418) := ⟨h5_⟩
        have NB418_407 : Aside0 (gb418 ≠ gb407) := ⟨h6_⟩
        have NB408_418 : Aside0 (gb408 ≠ gb418) := ⟨h7_⟩
        have NB418_408 : Aside0 (gb418 ≠ gb408) := ⟨h8_⟩
        replace HB : Aside0 (Below w.heap.size w w39) := ⟨h9_⟩
        clear h0_ h1_ h2_ h3_ h4_ h5_ h6_ h7_ h8_ h9_
        have hHeld : w39.cell? ⟨gb407, 0, none⟩ = some (.bool x408000_1) ∧ w39.cell? ⟨gb407, 1, none⟩ = some (.bool x408001_1) ∧ w39.cell? ⟨gb407, 2, none⟩ = some (.bool x408002_1) ∧ w39.cell? ⟨gb407, 3, none⟩ = some (.bool x408003_1) ∧ w39.cell? ⟨gb407, 4, none⟩ = some (.bool x408004_1) ∧ w39.cell? ⟨gb407, 5, none⟩ = some (.int .i64 x408005_1) ∧ w39.cell? (ad410.add (x7_1).toNat) = some (.int .i64 (rd l1 x7_1)) := hS_
        refine norm_ (a' := ?_) ?_ ?_
        rotate_left
        ·simp only [putAll, Act.put, jC, jE, jF]
         rfl
        refine one_ (i := 10) (N := none) m12_ffe rfl rfl (one_of HT_.out zr) (by decide) (fun K hK => ?_)
        have hs40 : w39.cell? ⟨gb418, 0, none⟩ = some (.bool false) := (jL BK418.out 0).trans rfl
        have hfs40 := jY BK418.out 0
        have hns40_0 := NB407_418.out
        have hns40_1 := NB408_418.out
        have hms40_0 := NB418_407.out
        have hms40_1 := NB418_408.out
        have hs41 : w39.cell? ⟨gb418, 1, none⟩ = some (.bool false) := (jL BK418.out 1).trans rfl
        have hfs41 := jY BK418.out 1
        have hns41_0 := NB407_418.out
        have hns41_1 := NB408_418.out
        have hms41_0 := NB418_407.out
        have hms41_1 := NB418_408.out
        have hs42 : w39.cell? ⟨gb418, 2, none⟩ = some (.bool false) := (jL BK418.out 2).trans rfl
        have hfs42 := jY BK418.out 2
        have hns42_0 := NB407_418.out
        have hns42_1 := NB408_418.out
        have hms42_0 := NB418_407.out
        have hms42_1 := NB418_408.out
        have hs43 : w39.cell? ⟨gb418, 3, none⟩ = some (.bool false) := (jL BK418.out 3).trans rfl
        have hfs43 := jY BK418.out 3
        have hns43_0 := NB407_418.out
        have hns43_1 := NB408_418.out
        have hms43_0 := NB418_407.out
        have hms43_1 := NB418_408.out
        have hs44 : w39.cell? ⟨gb418, 4, none⟩ = some (.bool false) := (jL BK418.out 4).trans rfl
        have hfs44 := jY BK418.out 4
        have hns44_0 := NB407_418.out
        have hns44_1 := NB408_418.out
        have hms44_0 := NB418_407.out
        have hms44_1 := NB418_408.out
        have hs45 : w39.cell? ⟨gb418, 5, none⟩ = some (.int .i64 0) := (jL BK418.out 5).trans rfl
        have hfs45 := jY BK418.out 5
        have hns45_0 := NB407_418.out
        have hns45_1 := NB408_418.out
        have hms45_0 := NB418_407.out
        have hms45_1 := NB418_408.out
        refine skip_ (w1 := ?_) (by rfl) rfl ?_ ?_
        rotate_left
        ·go_simp
         rfl
        refine hK.out _ _ ⟨((jG (p := ⟨gb418, _, none⟩) NB407_418.out _).trans (((jG (p := ⟨gb418, _, none⟩) NB407_418.out _).trans (((jG (p := ⟨gb418, _, none⟩) NB407_418.out _).trans (((jG (p := ⟨gb418, _, none⟩) NB407_418.out _).trans (((jG (p := ⟨gb418, _, none⟩) NB407_418.out _).trans (((jG (p := ⟨gb418, _, none⟩) NB407_418.out _).trans (hHeld.1)))))))))))), ((jG (p := ⟨gb418, _, none⟩) NB407_418.out _).trans (((jG (p := ⟨gb418, _, none⟩) NB407_418.out _).trans (((jG (p := ⟨gb418, _, none⟩) NB407_418.out _).trans (((jG (p := ⟨gb418, _, none⟩) NB407_418.out _).trans (((jG (p := ⟨gb418, _, none⟩) NB407_418.out _).trans (((jG (p := ⟨gb418, _, none⟩) NB407_418.out _).trans (hHeld.2.1)))))))))))), ((jG (p := ⟨gb418, _, none⟩) NB407_418.out _).trans (((jG (p := ⟨gb418, _, none⟩) NB407_418.out _).trans (((jG (p := ⟨gb418, _, none⟩) NB407_418.out _).trans (((jG (p := ⟨gb418, _, none⟩) NB407_418.out _).trans (((jG (p := ⟨gb418, _, none⟩) NB407_418.out _).trans (((jG (p := ⟨gb418, _, none⟩) NB407_418.out _).trans (hHeld.2.2.1)))))))))))), ((jG (p := ⟨gb418, _, none⟩) NB407_418.out _).trans (((jG (p := ⟨gb418, _, none⟩) NB407_418.out _).trans (((jG (p := ⟨gb418, _, none⟩) NB407_418.out _).trans (((jG (p := ⟨gb418, _, none⟩) NB407_418.out _).trans (((jG (p := ⟨gb418, _, none⟩) NB407_418.out _).trans (((jG (p := ⟨gb418, _, none⟩) NB407_418.out _).trans (hHeld.2.2.2.1)))))))))))), ((jG (p := ⟨gb418, _, none⟩) NB407_418.out _).trans (((jG (p := ⟨gb418, _, none⟩) NB407_418.out _).trans (((jG (p := ⟨gb418, _, none⟩) NB407_418.out _).trans (((jG (p := ⟨gb418, _, none⟩) NB407_418.out _).trans (((jG (p := ⟨gb418, _, none⟩) NB407_418.out _).trans (((jG (p := ⟨gb418, _, none⟩) NB407_418.out _).trans (hHeld.2.2.2.2.1)))))))))))), ((jG (p := ⟨gb418, _, none⟩) NB407_418.out _).trans (((jG (p := ⟨gb418, _, none⟩) NB407_418.out _).trans (((jG (p := ⟨gb418, _, none⟩) NB407_418.out _).trans (((jG (p := ⟨gb418, _, none⟩) NB407_418.out _).trans (((jG (p := ⟨gb418, _, none⟩) NB407_418.out _).trans (((jG (p := ⟨gb418, _, none⟩) NB407_418.out _).trans (hHeld.2.2.2.2.2.1)))))))))))), ((jG (p := ⟨gb418, _, none⟩) (by first | exact zd hw410_0 GW418 | (rw [jX]; exact zd hw410_0 GW418) | (show (Addr.add _ _).block ≠ _; rw [jX]; exact zd hw410_0 GW418) | (dsimp only; exact zd hw410_0 GW418)) _).trans (((jG (p := ⟨gb418, _, none⟩) (by first | exact zd hw410_0 GW418 | (rw [jX]; exact zd hw410_0 GW418) | (show (Addr.add _ _).block ≠ _; rw [jX]; exact zd hw410_0 GW418) | (dsimp only; exact zd hw410_0 GW418)) _).trans (((jG (p := ⟨gb418, _, none⟩) (by first | exact zd hw410_0 GW418 | (rw [jX]; exact zd hw410_0 GW418) | (show (Addr.add _ _).block ≠ _; rw [jX]; exact zd hw410_0 GW418) | (dsimp only; exact zd hw410_0 GW418)) _).trans (((jG (p := ⟨gb418, _, none⟩) (by first | exact zd hw410_0 GW418 | (rw [jX]; exact zd hw410_0 GW418) | (show (Addr.add _ _).block ≠ _; rw [jX]; exact zd hw410_0 GW418) | (dsimp only; exact zd hw410_0 GW418)) _).trans (((jG (p := ⟨gb418, _, none⟩) (by first | exact zd hw410_0 GW418 | (rw [jX]; exact zd hw410_0 GW418) | (show (Addr.add _ _).block ≠ _; rw [jX]; exact zd hw410_0 GW418) | (dsimp only; exact zd hw410_0 GW418)) _).trans (((jG (p := ⟨gb418, _, none⟩) (by first | exact zd hw410_0 GW418 | (rw [jX]; exact zd hw410_0 GW418) | (show (Addr.add _ _).block ≠ _; rw [jX]; exact zd hw410_0 GW418) | (dsimp only; exact zd hw410_0 GW418)) _).trans (hHeld.2.2.2.2.2.2))))))))))))⟩ (fun hHeld => ?_)
        clear hK K
        refine zp HT_ 11 9 m12_fff ?_
        refine done_ (done_of HT_.out zr) ?_
        have hnb46 := NB407_408.out
        have hnc46 := NB408_407.out
        have hnb47 := NB407_418.out
        have hnc47 := NB418_407.out
        have hcz48 := zc6 BK407
        have hnb49 := NB408_418.out
        have hnc49 := NB418_408.out
        have hcz50 := zc6 BK408
        try go_wp2
        refine jT (results_ctt rfl _ _ gb408 23 #[.bool x408000_1, .bool x408001_1, .bool x408002_1, .bool x408003_1, .bool x408004_1, .int .i64 x408005_1] (0, 0) _ rfl (zP1 BK408 NB408_418) Try.underlying23 rfl zr) rfl ?_
        exact ⟨ze, zb3 HB GE407 GE408 GE418⟩
      ·rw [if_neg c18] at H
       exact absurd H (by simp)
     ·rw [if_neg c17] at H
      have c17b0 : decide (x7_1 < (l1.length : Int)) = false := jW c17
      clear c17
      simp only [jI, jM] at H
      obtain ⟨rfl, rfl, rfl, rfl, rfl, rfl, rfl, rfl⟩ := H
      have hnb51 := NB407_408.out
      have hnc51 := NB408_407.out
      have hcz52 := zc6 BK407
      have hcz53 := zc6 BK408
      go_wp2
      refine jT (results_ctt rfl _ _ gb408 23 #[.bool x408000_1, .bool x408001_1, .bool x408002_1, .bool x408003_1, .bool x408004_1, .int .i64 x408005_1] (0, 0) _ rfl (zP0 BK408) Try.underlying23 rfl zr) rfl ?_
      exact ⟨ze, zb2 HB GE407 GE408⟩
 ·replace c4 := Bool.eq_false_iff.mpr c4
  subst c4
  rw [if_neg zfalse] at H
  simp only [jI, jM] at H
  obtain ⟨rfl, rfl, rfl, rfl, rfl, rfl, rfl, rfl⟩ := H
  go_enter Try.func81, Try.ntmps81
  go_wp2_with (first | ((with_reducible refine jK (N := 2) rfl ?_); refine zE 2 #[.bool a0_0, .bool a0_1, .bool a0_2, .bool a0_3, .bool a0_4, .int .i64 a0_5] 23 ?_; intro gb407 hg w54 hbox hb; have BK407 := jA (hbox); have GW407 := zg0 hg HB; have GE407 := zg0 hg HB; replace HB := zS0 HB hb; clear hb hbox hg) | ((with_reducible refine jK (N := 4) rfl ?_); refine zE 4 #[.bool false, .bool false, .bool false, .bool false, .bool false, .int .i64 0] 23 ?_; intro gb408 hg w55 hbox hb; have BK408 := jA (hbox); have GW408 := zg1 hg HB GE407; have GE408 := zg1 hg HB GE407; replace HB := zS1 HB GE407 hb; have NB407_408 := zn hg BK407; replace BK407 := zB BK407 hb; have NB408_407 := jA NB407_408.out.symm; clear hb hbox hg; have hnb56 := NB407_408.out; have hnc56 := NB408_407.out; have hcz57 := zc6 BK407) | ((with_reducible refine jH (f := 51) rfl ?_); refine zL (some 11) Try.func51 #[.agg #[.bool a0_0, .bool a0_1, .bool a0_2, .bool a0_3, .bool a0_4, .int .i64 a0_5]] ?_; (with_reducible refine (spec_IsSound.calls a0_0 a0_1 a0_2 a0_3 a0_4 a0_5 false _ A3.out).mono ?_); rintro e w58 ⟨rfl, hb⟩; refine ⟨_, rfl, ?_⟩; replace BK407 := zB BK407 hb; replace BK408 := zB BK408 hb; replace HB := zS2 HB GE407 GE408 hb; clear hb; have hcz59 := zc6 BK408))
  refine jT (results_ctt rfl _ _ gb408 23 #[.bool false, .bool false, .bool false, .bool false, .bool false, .int .i64 0] (0, 0) _ rfl (zP0 BK408) Try.underlying23 rfl zr) rfl ?_
  exact ⟨ze, zb2 HB GE407 GE408⟩

end Go.Proofs.Ythieppjmjgijfaa.PFnReached
