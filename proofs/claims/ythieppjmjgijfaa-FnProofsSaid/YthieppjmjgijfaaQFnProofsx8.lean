/- Functions and contracts that FnProofs reaches (9 of 22). -/
import Derived.Test.YthieppjmjgijfaaQFnProofsx7
namespace Go.Proofs.Ythieppjmjgijfaa.PFnProofs
open Go.RowKit Go.Proofs.YthieppjmjgijfaaW.PrintWords Go.Proofs.YthieppjmjgijfaaW.PrintLast Go.Proofs.YthieppjmjgijfaaW.PrintMore
attribute [local go_sem] max2_int min2_int max_two min_two max_three min_three max_four min_four   -- for this text's walks alone
set_option linter.unusedVariables false
set_option linter.unusedSimpArgs false

/-! ### spec_GiveInputs: function 81 -/
def spec_GiveInputs.l0 : Nat → List Int → Int → Bool → Bool → Bool → Bool → Bool → Int → Option (Bool × Bool × Bool × Bool × Bool × Int × Int × Int)
 | 0, _, _, _, _, _, _, _, _ => none
 | k + 1, x1, x7, x285000, x285001, x285002, x285003, x285004, x285005 => if x7 < (x1.length : Int) then (if 0 ≤ x7 then ((spec_l21Input.f x285000 x285001 x285002 x285003 x285004 x285005 (rd x1 x7)).bind fun bt288 => (if bt288.2.2.2.2.2.2 = 0 then (spec_GiveInputs.l0 k x1 (wrap64 (x7 + 1)) bt288.1 bt288.2.1 bt288.2.2.1 bt288.2.2.2.1 bt288.2.2.2.2.1 bt288.2.2.2.2.2.1) else (some (x285000, x285001, x285002, x285003, x285004, x285005, x7, bt288.2.2.2.2.2.2)))) else (none)) else (some (x285000, x285001, x285002, x285003, x285004, x285005, (x1.length : Int), 0))
def spec_GiveInputs.f (k : Nat) (a0_0 : Bool) (a0_1 : Bool) (a0_2 : Bool) (a0_3 : Bool) (a0_4 : Bool) (a0_5 : Int) (l1 : List Int) : Option (Bool × Bool × Bool × Bool × Bool × Int × Int × Int) := (spec_IsSound.f a0_0 a0_1 a0_2 a0_3 a0_4 a0_5).bind fun t286 => (if t286 = true then (if (l1.length : Int) > 60 then (some (false, false, false, false, false, 0, 0, 3)) else (spec_GiveInputs.l0 k l1 0 a0_0 a0_1 a0_2 a0_3 a0_4 a0_5)) else (some (false, false, false, false, false, 0, 0, 1)))
theorem spec_GiveInputs.mono_l : ∀ k, (∀ y0 y1 y2 y3 y4 y5 y6 y7, LeO (spec_GiveInputs.l0 k y0 y1 y2 y3 y4 y5 y6 y7) (spec_GiveInputs.l0 (k + 1) y0 y1 y2 y3 y4 y5 y6 y7))
 | 0 => fun _ _ _ _ _ _ _ _ r h => by simp [spec_GiveInputs.l0] at h
 | k + 1 => by
  have ih0 := spec_GiveInputs.mono_l k
  ·intro y0 y1 y2 y3 y4 y5 y6 y7
   unfold spec_GiveInputs.l0
   repeat' first
   | (with_reducible exact ih0 _ _ _ _ _ _ _ _)
   | (with_reducible exact LeO.refl _)
   | (with_reducible exact LeO.none _)
   | (with_reducible refine LeO.ite ?_ ?_)
   | (with_reducible refine LeO.bind ?_ (fun _ => ?_))
   | exact ih0 _ _ _ _ _ _ _ _
   | exact LeO.none _
   | refine LeO.ite ?_ ?_
   | refine LeO.bind ?_ (fun _ => ?_)
theorem spec_GiveInputs.mono : ∀ a0 a1 a2 a3 a4 a5 a6 k, LeO (spec_GiveInputs.f k a0 a1 a2 a3 a4 a5 a6) (spec_GiveInputs.f (k + 1) a0 a1 a2 a3 a4 a5 a6) := by
 intro a0 a1 a2 a3 a4 a5 a6 k
 have ih0 := spec_GiveInputs.mono_l k
 unfold spec_GiveInputs.f
 repeat' first
   | (with_reducible exact ih0 _ _ _ _ _ _ _ _)
   | (with_reducible exact LeO.refl _)
   | (with_reducible exact LeO.none _)
   | (with_reducible refine LeO.ite ?_ ?_)
   | (with_reducible refine LeO.bind ?_ (fun _ => ?_))
   | exact ih0 _ _ _ _ _ _ _ _
   | exact LeO.none _
   | refine LeO.ite ?_ ?_
   | refine LeO.bind ?_ (fun _ => ?_)
def spec_GiveInputs.T8 : Bool × List (List Nat × List Nat) := (true, [([], []), ([], []), ([], []), ([1, 2], [1, 2]), ([3], [3]), ([0, 4], [0, 4]), ([5], [5]), ([6], [6]), ([6], [6]), ([], []), ([9, 7, 5, 0, 1, 2, 3, 4, 5, 6, 7, 9], [7, 9]), ([8, 10, 0, 1, 2, 3, 4, 5, 6, 7, 8, 9, 10], [8])])
def spec_GiveInputs.B8 : List Nat := [0, 0, 0, 6, 14, 31, 63, 127, 127, 0, 767, 2047]
theorem spec_GiveInputs.tab8 : rtab .any (opsOf Try.f81 8) = spec_GiveInputs.T8 := by kernel_rfl
theorem spec_GiveInputs.bits8 : waitsOk spec_GiveInputs.T8.2 spec_GiveInputs.B8 = true := by kernel_rfl
set_option maxHeartbeats 8000000 in
set_option maxRecDepth 100000 in
theorem spec_GiveInputs.calls (k : Nat) (a0_0 : Bool) (a0_1 : Bool) (a0_2 : Bool) (a0_3 : Bool) (a0_4 : Bool) (a0_5 : Int) (A1 : Option Addr) (c1 : Nat) (l1 : List Int) (r1 : Bool) (r2 : Bool) (r3 : Bool) (r4 : Bool) (r5 : Bool) (r6 : Int) (r7 : Int) (r8 : Int) (w : World) (hr1 : Kd.C (Kd.int .i64) w A1 l1.length l1) (hc1 : l1.length ≤ c1) (h : spec_GiveInputs.f k a0_0 a0_1 a0_2 a0_3 a0_4 a0_5 l1 = some (r1, r2, r3, r4, r5, r6, r7, r8)) :
  Calls Try.prog 81 #[.agg #[.bool a0_0, .bool a0_1, .bool a0_2, .bool a0_3, .bool a0_4, .int .i64 a0_5], .slice A1 l1.length c1] w fun e w' => e = .returned (.tuple #[.agg #[.bool r1, .bool r2, .bool r3, .bool r4, .bool r5, .int .i64 r6], .int .i64 r7, .int .i64 r8]) ∧ Below w.heap.size w w' := by
 have hu23 := Try.underlying23
 have HR1 := jA hr1
 have HC1 := jA hc1
 clear hr1 hc1
 have HB := jA (Below.refl w.heap.size w)
 have H := h
 unfold spec_GiveInputs.f at H
 clear h
 replace H := jC.mp H
 obtain ⟨t286, A30, H⟩ := H
 try dsimp only at H
 have A3 := jA A30
 clear A30
 by_cases c4 : t286 = true
 ·subst c4
  rw [if_pos rfl] at H
  by_cases c5 : (l1.length : Int) > 60
  ·rw [if_pos c5] at H
   have c5b0 : decide (60 < (l1.length : Int)) = true := jI c5
   have c5b1 : decide (60 < l1.length) = true := jI (by omega)
   clear c5
   simp only [jH, jK] at H
   obtain ⟨rfl, rfl, rfl, rfl, rfl, rfl, rfl, rfl⟩ := H
   go_enter Try.func81, Try.ntmps81
   go_wp2_with (first | ((with_reducible refine jJ (N := 2) rfl ?_); refine zE 2 #[.bool a0_0, .bool a0_1, .bool a0_2, .bool a0_3, .bool a0_4, .int .i64 a0_5] 23 ?_; intro gb284 hg w6 hbox hb; have BK284 := jA (hbox); have GW284 := zg0 hg HB; have GE284 := zg0 hg HB; replace HB := zS0 HB hb; clear hb hbox hg) | ((with_reducible refine jJ (N := 4) rfl ?_); refine zE 4 #[.bool false, .bool false, .bool false, .bool false, .bool false, .int .i64 0] 23 ?_; intro gb285 hg w7 hbox hb; have BK285 := jA (hbox); have GW285 := zg1 hg HB GE284; have GE285 := zg1 hg HB GE284; replace HB := zS1 HB GE284 hb; have NB284_285 := zn hg BK284; replace BK284 := zB BK284 hb; have NB285_284 := jA NB284_285.out.symm; clear hb hbox hg; have hnb8 := NB284_285.out; have hnc8 := NB285_284.out; have hcz9 := zc6 BK284) | ((with_reducible refine jG (f := 51) rfl ?_); refine zL (some 11) Try.func51 #[.agg #[.bool a0_0, .bool a0_1, .bool a0_2, .bool a0_3, .bool a0_4, .int .i64 a0_5]] ?_; (with_reducible refine (spec_IsSound.calls a0_0 a0_1 a0_2 a0_3 a0_4 a0_5 true _ A3.out).mono ?_); rintro e w10 ⟨rfl, hb⟩; refine ⟨_, rfl, ?_⟩; replace BK284 := zB BK284 hb; replace BK285 := zB BK285 hb; replace HB := zS2 HB GE284 GE285 hb; clear hb; have hcz11 := zc6 BK285))
   refine jQ (results_ctt rfl _ _ gb285 23 #[.bool false, .bool false, .bool false, .bool false, .bool false, .int .i64 0] (0, 0) _ rfl (zP0 BK285) Try.underlying23 rfl zr) rfl ?_
   exact ⟨ze, zb2 HB GE284 GE285⟩
  ·rw [if_neg c5] at H
   have c5b0 : decide (60 < (l1.length : Int)) = false := jS c5
   have c5b1 : decide (60 < l1.length) = false := jS (by omega)
   clear c5
   have H' := jA H
   clear H
   go_enter Try.func81, Try.ntmps81
   go_wp2_with (first | ((with_reducible refine jJ (N := 2) rfl ?_); refine zE 2 #[.bool a0_0, .bool a0_1, .bool a0_2, .bool a0_3, .bool a0_4, .int .i64 a0_5] 23 ?_; intro gb284 hg w12 hbox hb; have BK284 := jA (hbox); have GW284 := zg0 hg HB; have GE284 := zg0 hg HB; replace HB := zS0 HB hb; clear hb hbox hg) | ((with_reducible refine jJ (N := 4) rfl ?_); refine zE 4 #[.bool false, .bool false, .bool false, .bool false, .bool false, .int .i64 0] 23 ?_; intro gb285 hg w13 hbox hb; have BK285 := jA (hbox); have GW285 := zg1 hg HB GE284; have GE285 := zg1 hg HB GE284; replace HB := zS1 HB GE284 hb; have NB284_285 := zn hg BK284; replace BK284 := zB BK284 hb; have NB285_284 := jA NB284_285.out.symm; clear hb hbox hg; have hnb14 := NB284_285.out; have hnc14 := NB285_284.out; have hcz15 := zc6 BK284) | ((with_reducible refine jG (f := 51) rfl ?_); refine zL (some 11) Try.func51 #[.agg #[.bool a0_0, .bool a0_1, .bool a0_2, .bool a0_3, .bool a0_4, .int .i64 a0_5]] ?_; (with_reducible refine (spec_IsSound.calls a0_0 a0_1 a0_2 a0_3 a0_4 a0_5 true _ A3.out).mono ?_); rintro e w16 ⟨rfl, hb⟩; refine ⟨_, rfl, ?_⟩; replace BK284 := zB BK284 hb; replace BK285 := zB BK285 hb; replace HB := zS2 HB GE284 GE285 hb; clear hb))
   go_loopg [7] k (fun kq v7 w' => ∃ (x7_1 : Int) (x285000_1 : Bool) (x285001_1 : Bool) (x285002_1 : Bool) (x285003_1 : Bool) (x285004_1 : Bool) (x285005_1 : Int) (x286000_1 : Bool) (x286001_1 : Bool) (x286002_1 : Bool) (x286003_1 : Bool) (x286004_1 : Bool) (x286005_1 : Int), v7 = .int .i64 x7_1 ∧ Aside0 (spec_GiveInputs.l0 kq l1 x7_1 x285000_1 x285001_1 x285002_1 x285003_1 x285004_1 x285005_1 = some (r1, r2, r3, r4, r5, r6, r7, r8)) ∧ Aside0 (kq ≤ k) ∧ Aside0 (w'.heap[gb284]? = some (.cells #[.bool x285000_1, .bool x285001_1, .bool x285002_1, .bool x285003_1, .bool x285004_1, .int .i64 x285005_1] 23 (0, 0))) ∧ Aside0 (w'.heap[gb285]? = some (.cells #[.bool x286000_1, .bool x286001_1, .bool x286002_1, .bool x286003_1, .bool x286004_1, .int .i64 x286005_1] 23 (0, 0))) ∧ Aside0 (Below w.heap.size w w'))
   case atStart => exact ⟨(0), (a0_0), (a0_1), (a0_2), (a0_3), (a0_4), (a0_5), (false), (false), (false), (false), (false), (0), zz, H', ⟨Nat.le_refl _⟩, ⟨zk BK284⟩, ⟨zk BK285⟩, ⟨zb2 HB GE284 GE285⟩⟩
   case round =>
    clear H'
    try clear c1
    try clear p2
    try clear c4
    try clear c5
    try clear c5b0
    try clear c5b1
    try clear c8
    try clear c14
    try clear hcz11
    try clear hcz15
    try clear hcz9
    obtain ⟨x7_1, x285000_1, x285001_1, x285002_1, x285003_1, x285004_1, x285005_1, x286000_1, x286001_1, x286002_1, x286003_1, x286004_1, x286005_1, rfl, HA, HK1, BK284, BK285, HB⟩ := hrel
    cases gk with
    | zero => exact absurd HA.out (by simp [spec_GiveInputs.l0])
    | succ k1 =>
     have H := HA.out
     clear HA
     simp only [spec_GiveInputs.l0] at H
     by_cases c17 : x7_1 < (l1.length : Int)
     ·rw [if_pos c17] at H
      have c17b0 : decide (x7_1 < (l1.length : Int)) = true := jI c17
      clear c17
      by_cases c18 : 0 ≤ x7_1
      ·rw [if_pos c18] at H
       have c18b0 : decide (0 ≤ x7_1) = true := jI c18
       clear c18
       replace H := jC.mp H
       obtain ⟨⟨t288, t289, t290, t291, t292, t293, t294⟩, A190, H⟩ := H
       replace H : (if t294 = 0 then (spec_GiveInputs.l0 k1 l1 (wrap64 (x7_1 + 1)) t288 t289 t290 t291 t292 t293) else (some (x285000_1, x285001_1, x285002_1, x285003_1, x285004_1, x285005_1, x7_1, t294))) = some (r1, r2, r3, r4, r5, r6, r7, r8) := H
       have A19 := jA A190
       clear A190
       by_cases c20 : t294 = 0
       ·rw [if_pos c20] at H
        have c20b0 : (t294 == 0) = true := beq_iff_eq.mpr c20
        have c20b1 : (t294 != 0) = false := bne_eq_false_iff_eq.mpr c20
        clear c20
        have H' := jA H
        clear H
        try go_wp2
        replace BK284 := jA (blk_drew BK284.out)
        replace BK285 := jA (blk_drew BK285.out)
        replace HB := jA (below_drew1 HB.out)
        have p287 : 0 ≤ (x7_1 : Int) := jB za
        have q287 : x7_1 < (l1.length : Int) := jB za
        obtain ⟨ad287, e287, hx287_0⟩ := jR HR1.out x7_1 p287 q287
        have hw287_0 := hx287_0
        cases e287
        replace hx287_0 := zx HB hx287_0
        replace p287 := eq_true p287
        replace q287 := eq_true q287
        refine start_ (n := 12) (S := fun w' => w'.cell? ⟨gb284, 0, none⟩ = some (.bool x285000_1) ∧ w'.cell? ⟨gb284, 1, none⟩ = some (.bool x285001_1) ∧ w'.cell? ⟨gb284, 2, none⟩ = some (.bool x285002_1) ∧ w'.cell? ⟨gb284, 3, none⟩ = some (.bool x285003_1) ∧ w'.cell? ⟨gb284, 4, none⟩ = some (.bool x285004_1) ∧ w'.cell? ⟨gb284, 5, none⟩ = some (.int .i64 x285005_1) ∧ w'.cell? (ad287.add (x7_1).toNat) = some (.int .i64 (rd l1 x7_1))) (ds := []) m12_0 zr rfl rfl ⟨(jL BK284.out 0).trans rfl, (jL BK284.out 1).trans rfl, (jL BK284.out 2).trans rfl, (jL BK284.out 3).trans rfl, (jL BK284.out 4).trans rfl, (jL BK284.out 5).trans rfl, (zx HB hw287_0)⟩ (fun hHeld => ?_); refine with_tabW spec_GiveInputs.tab8 spec_GiveInputs.bits8 (fun HT_ HW_ => ?_)
        generalize wr.drew = w21 at BK284 BK285 HB hx287_0 hHeld ⊢
        refine zp HT_ 1 26 m12_400 ?_
        refine zp HT_ 2 27 m12_600 ?_
        refine zp HT_ 3 28 m12_700 ?_
        refine zt7 HT_ HW_ hHeld 0 25 m12_f00 ?_
        refine zt7 HT_ HW_ hHeld 4 29 m12_f80 ?_
        refine join_ (σ := Nat) 2 m12_ffc (fun s_ => [(30, .tuple #[.agg #[.bool t288, .bool t289, .bool t290, .bool t291, .bool t292, .int .i64 t293], .int .i64 t294]), (8, .pointer (some ⟨s_, 0, none⟩)), (24, .tuple #[.agg #[.bool t288, .bool t289, .bool t290, .bool t291, .bool t292, .int .i64 t293], .int .i64 t294]), (31, .agg #[.bool t288, .bool t289, .bool t290, .bool t291, .bool t292, .int .i64 t293]), (32, .int .i64 t294)]) (fun s_ w' => (w'.cell? ⟨gb284, 0, none⟩ = some (.bool x285000_1) ∧ w'.cell? ⟨gb284, 1, none⟩ = some (.bool x285001_1) ∧ w'.cell? ⟨gb284, 2, none⟩ = some (.bool x285002_1) ∧ w'.cell? ⟨gb284, 3, none⟩ = some (.bool x285003_1) ∧ w'.cell? ⟨gb284, 4, none⟩ = some (.bool x285004_1) ∧ w'.cell? ⟨gb284, 5, none⟩ = some (.int .i64 x285005_1) ∧ w'.cell? (ad287.add (x7_1).toNat) = some (.int .i64 (rd l1 x7_1))) ∧ (w'.heap[gb284]? = some (.cells #[.bool x285000_1, .bool x285001_1, .bool x285002_1, .bool x285003_1, .bool x285004_1, .int .i64 x285005_1] 23 (0, 0))) ∧ (w'.heap[gb285]? = some (.cells #[.bool x286000_1, .bool x286001_1, .bool x286002_1, .bool x286003_1, .bool x286004_1, .int .i64 x286005_1] 23 (0, 0))) ∧ (w'.heap[s_]? = some (.cells #[.bool false, .bool false, .bool false, .bool false, .bool false, .int .i64 0] 23 (0, 0))) ∧ (w.heap.size ≤ s_) ∧ (w.heap.size ≤ s_) ∧ (gb284 ≠ s_) ∧ (s_ ≠ gb284) ∧ (gb285 ≠ s_) ∧ (s_ ≠ gb285) ∧ (Below w.heap.size w w')) ?_ ?_
        rotate_left
        ·intro hCont
         refine two_ (i := 5) (j := 9) (Ni := some 30) (Nj := some 8) m12_fc0 m12_f84 rfl rfl rfl rfl (two_of HT_.out zr) (by decide) (by decide) (fun K hK => ?_) (fun K hK => ?_)
         ·skip
          refine goes_ Try.func90 zr rfl #[.agg #[.bool x285000_1, .bool x285001_1, .bool x285002_1, .bool x285003_1, .bool x285004_1, .int .i64 x285005_1], .int .i64 (rd l1 x7_1)] (by rfl) rfl rfl zm ?_
          with_reducible refine (spec_l21Input.calls x285000_1 x285001_1 x285002_1 x285003_1 x285004_1 x285005_1 (rd l1 x7_1) t288 t289 t290 t291 t292 t293 t294 _ A19.out).mono ?_
          rintro e w22 ⟨rfl, hb⟩
          refine ⟨_, rfl, ?_⟩
          replace BK284 := zB BK284 hb
          replace BK285 := zB BK285 hb
          replace HB := zS2 HB GE284 GE285 hb
          (try clear hb)
          (try clear hb2)
          (try clear hk)
          (try clear hi)
          refine hK.out _ _ ⟨(jL BK284.out 0).trans rfl, (jL BK284.out 1).trans rfl, (jL BK284.out 2).trans rfl, (jL BK284.out 3).trans rfl, (jL BK284.out 4).trans rfl, (jL BK284.out 5).trans rfl, (zx HB hw287_0)⟩ (fun hHeld => ?_)
          clear hK K
          refine norm_ (a' := ?_) ?_ ?_
          rotate_left
          ·show Act.put _ (some 30) _ = _
           simp only [Act.put, jD, jE, jF, i64_w, i32_w]
           rfl
          refine zp HT_ 6 24 m12_fe0 ?_
          refine zp HT_ 7 31 m12_ff0 ?_
          refine zp HT_ 8 32 m12_ff8 ?_
          refine one_ (i := 9) (N := some 8) m12_ffc rfl rfl (one_of HT_.out zr) (by decide) (fun K hK => ?_)
          refine box_step ?hg (N := 8) ?hd (cs := #[.bool false, .bool false, .bool false, .bool false, .bool false, .int .i64 0]) (t := 23) ?hr ?_; (case hd => rfl); (case hg => rfl); (case hr => first | (go_simp; done) | (go_simp; rfl))
          intro gb295 hg w23 hbox hb
          have BK295 := jA (hbox)
          have GW295 := zg2 hg HB GE284 GE285
          have GE295 := zg2 hg HB GE284 GE285
          replace HB := zS2 HB GE284 GE285 hb
          have NB284_295 := zn hg BK284
          have NB295_284 := zN hg BK284
          replace BK284 := zB BK284 hb
          have NB285_295 := zn hg BK285
          have NB295_285 := zN hg BK285
          replace BK285 := zB BK285 hb
          clear hb hbox hg
          refine hK.out _ _ ⟨(jL BK284.out 0).trans rfl, (jL BK284.out 1).trans rfl, (jL BK284.out 2).trans rfl, (jL BK284.out 3).trans rfl, (jL BK284.out 4).trans rfl, (jL BK284.out 5).trans rfl, (zx HB hw287_0)⟩ (fun hHeld => ?_)
          clear hK K
          refine norm_ (a' := ?_) ?_ ?_
          rotate_left
          ·show Act.put _ (some 8) _ = _
           simp only [Act.put, jD, jE, jF, i64_w, i32_w]
           rfl
          exact norm_ (by simp only [putAll, Act.put, jD, jE, jF]) (hCont (gb295) _ ⟨hHeld, (zk BK284), (zk BK285), (zk BK295), GW295.out, GE295.out, NB284_295.out, NB295_284.out, NB285_295.out, NB295_285.out, (zb3 HB GE284 GE285 GE295)⟩)
         ·skip
          refine box_step ?hg (N := 8) ?hd (cs := #[.bool false, .bool false, .bool false, .bool false, .bool false, .int .i64 0]) (t := 23) ?hr ?_; (case hd => rfl); (case hg => rfl); (case hr => first | (go_simp; done) | (go_simp; rfl))
          intro gb295 hg w22 hbox hb
          have BK295 := jA (hbox)
          have GW295 := zg2 hg HB GE284 GE285
          have GE295 := zg2 hg HB GE284 GE285
          replace HB := zS2 HB GE284 GE285 hb
          have NB284_295 := zn hg BK284
          have NB295_284 := zN hg BK284
          replace BK284 := zB BK284 hb
          have NB285_295 := zn hg BK285
          have NB295_285 := zN hg BK285
          replace BK285 := zB BK285 hb
          clear hb hbox hg
          refine hK.out _ _ ⟨(jL BK284.out 0).trans rfl, (jL BK284.out 1).trans rfl, (jL BK284.out 2).trans rfl, (jL BK284.out 3).trans rfl, (jL BK284.out 4).trans rfl, (jL BK284.out 5).trans rfl, (zx HB hw287_0)⟩ (fun hHeld => ?_)
          clear hK K
          refine norm_ (a' := ?_) ?_ ?_
          rotate_left
          ·show Act.put _ (some 8) _ = _
           simp only [Act.put, jD, jE, jF, i64_w, i32_w]
           rfl
          refine one_ (i := 5) (N := some 30) m12_fc4 rfl rfl (one_of HT_.out zr) (by decide) (fun K hK => ?_)
          refine goes_ Try.func90 zr rfl #[.agg #[.bool x285000_1, .bool x285001_1, .bool x285002_1, .bool x285003_1, .bool x285004_1, .int .i64 x285005_1], .int .i64 (rd l1 x7_1)] (by rfl) rfl rfl zm ?_
          with_reducible refine (spec_l21Input.calls x285000_1 x285001_1 x285002_1 x285003_1 x285004_1 x285005_1 (rd l1 x7_1) t288 t289 t290 t291 t292 t293 t294 _ A19.out).mono ?_
          rintro e w23 ⟨rfl, hb⟩
          refine ⟨_, rfl, ?_⟩
          replace BK284 := zB BK284 hb
          replace BK285 := zB BK285 hb
          replace BK295 := zB BK295 hb
          replace HB := zS3 HB GE284 GE285 GE295 hb
          (try clear hb)
          (try clear hb2)
          (try clear hk)
          (try clear hi)
          refine hK.out _ _ ⟨(jL BK284.out 0).trans rfl, (jL BK284.out 1).trans rfl, (jL BK284.out 2).trans rfl, (jL BK284.out 3).trans rfl, (jL BK284.out 4).trans rfl, (jL BK284.out 5).trans rfl, (zx HB hw287_0)⟩ (fun hHeld => ?_)
          clear hK K
          refine norm_ (a' := ?_) ?_ ?_
          rotate_left
          ·show Act.put _ (some 30) _ = _
           simp only [Act.put, jD, jE, jF, i64_w, i32_w]
           rfl
          refine zp HT_ 6 24 m12_fe4 ?_
          refine zp HT_ 7 31 m12_ff4 ?_
          refine zp HT_ 8 32 m12_ffc ?_
          exact norm_ (by simp only [putAll, Act.put, jD, jE, jF]) (hCont (gb295) _ ⟨hHeld, (zk BK284), (zk BK285), (zk BK295), GW295.out, GE295.out, NB284_295.out, NB295_284.out, NB285_295.out, NB295_285.out, (zb3 HB GE284 GE285 GE295)⟩)
        rintro gb295 w24 ⟨hS_, h0_, h1_, h2_, h3_, h4_, h5_, h6_, h7_, h8_, h9_⟩
        replace BK284 : Aside0 (w24.heap[gb284]? = some (.cells #[.bool x285000_1, .bool x285001_1, .bool x285002_1, .bool x285003_1, .bool x285004_1, .int .i64 x285005_1] 23 (0, 0))) := ⟨h0_⟩
        replace BK285 : Aside0 (w24.heap[gb285]? = some (.cells #[.bool x286000_1, .bool x286001_1, .bool x286002_1, .bool x286003_1, .bool x286004_1, .int .i64 x286005_1] 23 (0, 0))) := ⟨h1_⟩
        have BK295 : Aside0 (w24.heap[gb295]? = some (.cells #[.bool false, .bool false, .bool false, .bool false, .bool false, .int .i64 0] 23 (0, 0))) := ⟨h2_⟩
        have GW295 : Aside0 (w.heap.size ≤ gb295) := ⟨h3_⟩
        have GE295 : Aside0 (w.heap.size ≤ gb295) := ⟨h4_⟩
        have NB284_295 : Aside0 (gb284 ≠ gb295) := ⟨h5_⟩
        have NB295_284 : Aside0 (gb295 ≠ gb284) := ⟨h6_⟩
        have NB285_295 : Aside0 (gb285 ≠ gb295) := ⟨h7_⟩
        have NB295_285 : Aside0 (gb295 ≠ gb285) := ⟨h8_⟩
        replace HB : Aside0 (Below w.heap.size w w24) := ⟨h9_⟩
        clear h0_ h1_ h2_ h3_ h4_ h5_ h6_ h7_ h8_ h9_
        have hHeld : w24.cell? ⟨gb284, 0, none⟩ = some (.bool x285000_1) ∧ w24.cell? ⟨gb284, 1, none⟩ = some (.bool x285001_1) ∧ w24.cell? ⟨gb284, 2, none⟩ = some (.bool x285002_1) ∧ w24.cell? ⟨gb284, 3, none⟩ = some (.bool x285003_1) ∧ w24.cell? ⟨gb284, 4, none⟩ = some (.bool x285004_1) ∧ w24.cell? ⟨gb284, 5, none⟩ = some (.int .i64 x285005_1) ∧ w24.cell? (ad287.add (x7_1).toNat) = some (.int .i64 (rd l1 x7_1)) := hS_
        refine norm_ (a' := ?_) ?_ ?_
        rotate_left
        ·simp only [putAll, Act.put, jD, jE, jF]
         rfl
        refine one_ (i := 10) (N := none) m12_ffe rfl rfl (one_of HT_.out zr) (by decide) (fun K hK => ?_)
        have hs25 : w24.cell? ⟨gb295, 0, none⟩ = some (.bool false) := (jL BK295.out 0).trans rfl
        have hfs25 := jW BK295.out 0
        have hns25_0 := NB284_295.out
        have hns25_1 := NB285_295.out
        have hms25_0 := NB295_284.out
        have hms25_1 := NB295_285.out
        have hs26 : w24.cell? ⟨gb295, 1, none⟩ = some (.bool false) := (jL BK295.out 1).trans rfl
        have hfs26 := jW BK295.out 1
        have hns26_0 := NB284_295.out
        have hns26_1 := NB285_295.out
        have hms26_0 := NB295_284.out
        have hms26_1 := NB295_285.out
        have hs27 : w24.cell? ⟨gb295, 2, none⟩ = some (.bool false) := (jL BK295.out 2).trans rfl
        have hfs27 := jW BK295.out 2
        have hns27_0 := NB284_295.out
        have hns27_1 := NB285_295.out
        have hms27_0 := NB295_284.out
        have hms27_1 := NB295_285.out
        have hs28 : w24.cell? ⟨gb295, 3, none⟩ = some (.bool false) := (jL BK295.out 3).trans rfl
        have hfs28 := jW BK295.out 3
        have hns28_0 := NB284_295.out
        have hns28_1 := NB285_295.out
        have hms28_0 := NB295_284.out
        have hms28_1 := NB295_285.out
        have hs29 : w24.cell? ⟨gb295, 4, none⟩ = some (.bool false) := (jL BK295.out 4).trans rfl
        have hfs29 := jW BK295.out 4
        have hns29_0 := NB284_295.out
        have hns29_1 := NB285_295.out
        have hms29_0 := NB295_284.out
        have hms29_1 := NB295_285.out
        have hs30 : w24.cell? ⟨gb295, 5, none⟩ = some (.int .i64 0) := (jL BK295.out 5).trans rfl
        have hfs30 := jW BK295.out 5
        have hns30_0 := NB284_295.out
        have hns30_1 := NB285_295.out
        have hms30_0 := NB295_284.out
        have hms30_1 := NB295_285.out
        refine skip_ (w1 := ?_) (by rfl) rfl ?_ ?_
        rotate_left
        ·go_simp
         rfl
        refine hK.out _ _ ⟨((jM (p := ⟨gb295, _, none⟩) NB284_295.out _).trans (((jM (p := ⟨gb295, _, none⟩) NB284_295.out _).trans (((jM (p := ⟨gb295, _, none⟩) NB284_295.out _).trans (((jM (p := ⟨gb295, _, none⟩) NB284_295.out _).trans (((jM (p := ⟨gb295, _, none⟩) NB284_295.out _).trans (((jM (p := ⟨gb295, _, none⟩) NB284_295.out _).trans (hHeld.1)))))))))))), ((jM (p := ⟨gb295, _, none⟩) NB284_295.out _).trans (((jM (p := ⟨gb295, _, none⟩) NB284_295.out _).trans (((jM (p := ⟨gb295, _, none⟩) NB284_295.out _).trans (((jM (p := ⟨gb295, _, none⟩) NB284_295.out _).trans (((jM (p := ⟨gb295, _, none⟩) NB284_295.out _).trans (((jM (p := ⟨gb295, _, none⟩) NB284_295.out _).trans (hHeld.2.1)))))))))))), ((jM (p := ⟨gb295, _, none⟩) NB284_295.out _).trans (((jM (p := ⟨gb295, _, none⟩) NB284_295.out _).trans (((jM (p := ⟨gb295, _, none⟩) NB284_295.out _).trans (((jM (p := ⟨gb295, _, none⟩) NB284_295.out _).trans (((jM (p := ⟨gb295, _, none⟩) NB284_295.out _).trans (((jM (p := ⟨gb295, _, none⟩) NB284_295.out _).trans (hHeld.2.2.1)))))))))))), ((jM (p := ⟨gb295, _, none⟩) NB284_295.out _).trans (((jM (p := ⟨gb295, _, none⟩) NB284_295.out _).trans (((jM (p := ⟨gb295, _, none⟩) NB284_295.out _).trans (((jM (p := ⟨gb295, _, none⟩) NB284_295.out _).trans (((jM (p := ⟨gb295, _, none⟩) NB284_295.out _).trans (((jM (p := ⟨gb295, _, none⟩) NB284_295.out _).trans (hHeld.2.2.2.1)))))))))))), ((jM (p := ⟨gb295, _, none⟩) NB284_295.out _).trans (((jM (p := ⟨gb295, _, none⟩) NB284_295.out _).trans (((jM (p := ⟨gb295, _, none⟩) NB284_295.out _).trans (((jM (p := ⟨gb295, _, none⟩) NB284_295.out _).trans (((jM (p := ⟨gb295, _, none⟩) NB284_295.out _).trans (((jM (p := ⟨gb295, _, none⟩) NB284_295.out _).trans (hHeld.2.2.2.2.1)))))))))))), ((jM (p := ⟨gb295, _, none⟩) NB284_295.out _).trans (((jM (p := ⟨gb295, _, none⟩) NB284_295.out _).trans (((jM (p := ⟨gb295, _, none⟩) NB284_295.out _).trans (((jM (p := ⟨gb295, _, none⟩) NB284_295.out _).trans (((jM (p := ⟨gb295, _, none⟩) NB284_295.out _).trans (((jM (p := ⟨gb295, _, none⟩) NB284_295.out _).trans (hHeld.2.2.2.2.2.1)))))))))))), ((jM (p := ⟨gb295, _, none⟩) (by first | exact zd hw287_0 GW295 | (rw [jV]; exact zd hw287_0 GW295) | (show (Addr.add _ _).block ≠ _; rw [jV]; exact zd hw287_0 GW295) | (dsimp only; exact zd hw287_0 GW295)) _).trans (((jM (p := ⟨gb295, _, none⟩) (by first | exact zd hw287_0 GW295 | (rw [jV]; exact zd hw287_0 GW295) | (show (Addr.add _ _).block ≠ _; rw [jV]; exact zd hw287_0 GW295) | (dsimp only; exact zd hw287_0 GW295)) _).trans (((jM (p := ⟨gb295, _, none⟩) (by first | exact zd hw287_0 GW295 | (rw [jV]; exact zd hw287_0 GW295) | (show (Addr.add _ _).block ≠ _; rw [jV]; exact zd hw287_0 GW295) | (dsimp only; exact zd hw287_0 GW295)) _).trans (((jM (p := ⟨gb295, _, none⟩) (by first | exact zd hw287_0 GW295 | (rw [jV]; exact zd hw287_0 GW295) | (show (Addr.add _ _).block ≠ _; rw [jV]; exact zd hw287_0 GW295) | (dsimp only; exact zd hw287_0 GW295)) _).trans (((jM (p := ⟨gb295, _, none⟩) (by first | exact zd hw287_0 GW295 | (rw [jV]; exact zd hw287_0 GW295) | (show (Addr.add _ _).block ≠ _; rw [jV]; exact zd hw287_0 GW295) | (dsimp only; exact zd hw287_0 GW295)) _).trans (((jM (p := ⟨gb295, _, none⟩) (by first | exact zd hw287_0 GW295 | (rw [jV]; exact zd hw287_0 GW295) | (show (Addr.add _ _).block ≠ _; rw [jV]; exact zd hw287_0 GW295) | (dsimp only; exact zd hw287_0 GW295)) _).trans (hHeld.2.2.2.2.2.2))))))))))))⟩ (fun hHeld => ?_)
        clear hK K
        refine zp HT_ 11 9 m12_fff ?_
        refine done_ (done_of HT_.out zr) ?_
        have hnb31 := NB295_284.out
        have hnc31 := NB284_295.out
        have hnb32 := NB295_285.out
        have hnc32 := NB285_295.out
        have hcz33 := zc6 BK295
        have hnb34 := NB284_285.out
        have hnc34 := NB285_284.out
        have hcz35 := zc6 BK284
        try go_wp2
        go_roundg k1
        case measure => have := HK1.out; omega
        case rel => exact ⟨(wrap64 (x7_1 + 1)), (t288), (t289), (t290), (t291), (t292), (t293), (x286000_1), (x286001_1), (x286002_1), (x286003_1), (x286004_1), (x286005_1), zz, H', ⟨by have := HK1.out; omega⟩, ⟨zP1 BK284 NB284_295⟩, ⟨zQ2 BK285 NB285_284 NB285_295⟩, ⟨zb3 HB GE284 GE285 GE295⟩⟩
       ·rw [if_neg c20] at H
        have c20b0 : (t294 == 0) = false := beq_eq_false_iff_ne.mpr c20
        have c20b1 : (t294 != 0) = true := bne_iff_ne.mpr c20
        simp only [jH, jK] at H
        obtain ⟨rfl, rfl, rfl, rfl, rfl, rfl, rfl, rfl⟩ := H
        try go_wp2
        replace BK284 := jA (blk_drew BK284.out)
        replace BK285 := jA (blk_drew BK285.out)
        replace HB := jA (below_drew1 HB.out)
        have p287 : 0 ≤ (x7_1 : Int) := jB za
        have q287 : x7_1 < (l1.length : Int) := jB za
        obtain ⟨ad287, e287, hx287_0⟩ := jR HR1.out x7_1 p287 q287
        have hw287_0 := hx287_0
        cases e287
        replace hx287_0 := zx HB hx287_0
        replace p287 := eq_true p287
        replace q287 := eq_true q287
        refine start_ (n := 12) (S := fun w' => w'.cell? ⟨gb284, 0, none⟩ = some (.bool x285000_1) ∧ w'.cell? ⟨gb284, 1, none⟩ = some (.bool x285001_1) ∧ w'.cell? ⟨gb284, 2, none⟩ = some (.bool x285002_1) ∧ w'.cell? ⟨gb284, 3, none⟩ = some (.bool x285003_1) ∧ w'.cell? ⟨gb284, 4, none⟩ = some (.bool x285004_1) ∧ w'.cell? ⟨gb284, 5, none⟩ = some (.int .i64 x285005_1) ∧ w'.cell? (ad287.add (x7_1).toNat) = some (.int .i64 (rd l1 x7_1))) (ds := []) m12_0 zr rfl rfl ⟨(jL BK284.out 0).trans rfl, (jL BK284.out 1).trans rfl, (jL BK284.out 2).trans rfl, (jL BK284.out 3).trans rfl, (jL BK284.out 4).trans rfl, (jL BK284.out 5).trans rfl, (zx HB hw287_0)⟩ (fun hHeld => ?_); refine with_tabW spec_GiveInputs.tab8 spec_GiveInputs.bits8 (fun HT_ HW_ => ?_)
        generalize wr.drew = w36 at BK284 BK285 HB hx287_0 hHeld ⊢
        refine zp HT_ 1 26 m12_400 ?_
        refine zp HT_ 2 27 m12_600 ?_
        refine zp HT_ 3 28 m12_700 ?_
        refine zt7 HT_ HW_ hHeld 0 25 m12_f00 ?_
        refine zt7 HT_ HW_ hHeld 4 29 m12_f80 ?_
        refine join_ (σ := Nat) 2 m12_ffc (fun s_ => [(30, .tuple #[.agg #[.bool t288, .bool t289, .bool t290, .bool t291, .bool t292, .int .i64 t293], .int .i64 t294]), (8, .pointer (some ⟨s_, 0, none⟩)), (24, .tuple #[.agg #[.bool t288, .bool t289, .bool t290, .bool t291, .bool t292, .int .i64 t293], .int .i64 t294]), (31, .agg #[.bool t288, .bool t289, .bool t290, .bool t291, .bool t292, .int .i64 t293]), (32, .int .i64 t294)]) (fun s_ w' => (w'.cell? ⟨gb284, 0, none⟩ = some (.bool x285000_1) ∧ w'.cell? ⟨gb284, 1, none⟩ = some (.bool x285001_1) ∧ w'.cell? ⟨gb284, 2, none⟩ = some (.bool x285002_1) ∧ w'.cell? ⟨gb284, 3, none⟩ = some (.bool x285003_1) ∧ w'.cell? ⟨gb284, 4, none⟩ = some (.bool x285004_1) ∧ w'.cell? ⟨gb284, 5, none⟩ = some (.int .i64 x285005_1) ∧ w'.cell? (ad287.add (x7_1).toNat) = some (.int .i64 (rd l1 x7_1))) ∧ (w'.heap[gb284]? = some (.cells #[.bool x285000_1, .bool x285001_1, .bool x285002_1, .bool x285003_1, .bool x285004_1, .int .i64 x285005_1] 23 (0, 0))) ∧ (w'.heap[gb285]? = some (.cells #[.bool x286000_1, .bool x286001_1, .bool x286002_1, .bool x286003_1, .bool x286004_1, .int .i64 x286005_1] 23 (0, 0))) ∧ (w'.heap[s_]? = some (.cells #[.bool false, .bool false, .bool false, .bool false, .bool false, .int .i64 0] 23 (0, 0))) ∧ (w.heap.size ≤ s_) ∧ (w.heap.size ≤ s_) ∧ (gb284 ≠ s_) ∧ (s_ ≠ gb284) ∧ (gb285 ≠ s_) ∧ (s_ ≠ gb285) ∧ (Below w.heap.size w w')) ?_ ?_
        rotate_left
        ·intro hCont
         refine two_ (i := 5) (j := 9) (Ni := some 30) (Nj := some 8) m12_fc0 m12_f84 rfl rfl rfl rfl (two_of HT_.out zr) (by decide) (by decide) (fun K hK => ?_) (fun K hK => ?_)
         ·skip
          refine goes_ Try.func90 zr rfl #[.agg #[.bool x285000_1, .bool x285001_1, .bool x285002_1, .bool x285003_1, .bool x285004_1, .int .i64 x285005_1], .int .i64 (rd l1 x7_1)] (by rfl) rfl rfl zm ?_
          with_reducible refine (spec_l21Input.calls x285000_1 x285001_1 x285002_1 x285003_1 x285004_1 x285005_1 (rd l1 x7_1) t288 t289 t290 t291 t292 t293 t294 _ A19.out).mono ?_
          rintro e w37 ⟨rfl, hb⟩
          refine ⟨_, rfl, ?_⟩
          replace BK284 := zB BK284 hb
          replace BK285 := zB BK285 hb
          replace HB := zS2 HB GE284 GE285 hb
          (try clear hb)
          (try clear hb2)
          (try clear hk)
          (try clear hi)
          refine hK.out _ _ ⟨(jL BK284.out 0).trans rfl, (jL BK284.out 1).trans rfl, (jL BK284.out 2).trans rfl, (jL BK284.out 3).trans rfl, (jL BK284.out 4).trans rfl, (jL BK284.out 5).trans rfl, (zx HB hw287_0)⟩ (fun hHeld => ?_)
          clear hK K
          refine norm_ (a' := ?_) ?_ ?_
          rotate_left
          ·show Act.put _ (some 30) _ = _
           simp only [Act.put, jD, jE, jF, i64_w, i32_w]
           rfl
          refine zp HT_ 6 24 m12_fe0 ?_
          refine zp HT_ 7 31 m12_ff0 ?_
          refine zp HT_ 8 32 m12_ff8 ?_
          refine one_ (i := 9) (N := some 8) m12_ffc rfl rfl (one_of HT_.out zr) (by decide) (fun K hK => ?_)
          refine box_step ?hg (N := 8) ?hd (cs := #[.bool false, .bool false, .bool false, .bool false, .bool false, .int .i64 0]) (t := 23) ?hr ?_; (case hd => rfl); (case hg => rfl); (case hr => first | (go_simp; done) | (go_simp; rfl))
          intro gb295 hg w38 hbox hb
          have BK295 := jA (hbox)
          have GW295 := zg2 hg HB GE284 GE285
          have GE295 := zg2 hg HB GE284 GE285
          replace HB := zS2 HB GE284 GE285 hb
          have NB284_295 := zn hg BK284
          have NB295_284 := zN hg BK284
          replace BK284 := zB BK284 hb
          have NB285_295 := zn hg BK285
          have NB295_285 := zN hg BK285
          replace BK285 := zB BK285 hb
          clear hb hbox hg
          refine hK.out _ _ ⟨(jL BK284.out 0).trans rfl, (jL BK284.out 1).trans rfl, (jL BK284.out 2).trans rfl, (jL BK284.out 3).trans rfl, (jL BK284.out 4).trans rfl, (jL BK284.out 5).trans rfl, (zx HB hw287_0)⟩ (fun hHeld => ?_)
          clear hK K
          refine norm_ (a' := ?_) ?_ ?_
          rotate_left
          ·show Act.put _ (some 8) _ = _
           simp only [Act.put, jD, jE, jF, i64_w, i32_w]
           rfl
          exact norm_ (by simp only [putAll, Act.put, jD, jE, jF]) (hCont (gb295) _ ⟨hHeld, (zk BK284), (zk BK285), (zk BK295), GW295.out, GE295.out, NB284_295.out, NB295_284.out, NB285_295.out, NB295_285.out, (zb3 HB GE284 GE285 GE295)⟩)
         ·skip
          refine box_step ?hg (N := 8) ?hd (cs := #[.bool false, .bool false, .bool false, .bool false, .bool false, .int .i64 0]) (t := 23) ?hr ?_; (case hd => rfl); (case hg => rfl); (case hr => first | (go_simp; done) | (go_simp; rfl))
          intro gb295 hg w37 hbox hb
          have BK295 := jA (hbox)
          have GW295 := zg2 hg HB GE284 GE285
          have GE295 := zg2 hg HB GE284 GE285
          replace HB := zS2 HB GE284 GE285 hb
          have NB284_295 := zn hg BK284
          have NB295_284 := zN hg BK284
          replace BK284 := zB BK284 hb
          have NB285_295 := zn hg BK285
          have NB295_285 := zN hg BK285
          replace BK285 := zB BK285 hb
          clear hb hbox hg
          refine hK.out _ _ ⟨(jL BK284.out 0).trans rfl, (jL BK284.out 1).trans rfl, (jL BK284.out 2).trans rfl, (jL BK284.out 3).trans rfl, (jL BK284.out 4).trans rfl, (jL BK284.out 5).trans rfl, (zx HB hw287_0)⟩ (fun hHeld => ?_)
          clear hK K
          refine norm_ (a' := ?_) ?_ ?_
          rotate_left
          ·show Act.put _ (some 8) _ = _
           simp only [Act.put, jD, jE, jF, i64_w, i32_w]
           rfl
          refine one_ (i := 5) (N := some 30) m12_fc4 rfl rfl (one_of HT_.out zr) (by decide) (fun K hK => ?_)
          refine goes_ Try.func90 zr rfl #[.agg #[.bool x285000_1, .bool x285001_1, .bool x285002_1, .bool x285003_1, .bool x285004_1, .int .i64 x285005_1], .int .i64 (rd l1 x7_1)] (by rfl) rfl rfl zm ?_
          with_reducible refine (spec_l21Input.calls x285000_1 x285001_1 x285002_1 x285003_1 x285004_1 x285005_1 (rd l1 x7_1) t288 t289 t290 t291 t292 t293 t294 _ A19.out).mono ?_
          rintro e w38 ⟨rfl, hb⟩
          refine ⟨_, rfl, ?_⟩
          replace BK284 := zB BK284 hb
          replace BK285 := zB BK285 hb
          replace BK295 := zB BK295 hb
          replace HB := zS3 HB GE284 GE285 GE295 hb
          (try clear hb)
          (try clear hb2)
          (try clear hk)
          (try clear hi)
          refine hK.out _ _ ⟨(jL BK284.out 0).trans rfl, (jL BK284.out 1).trans rfl, (jL BK284.out 2).trans rfl, (jL BK284.out 3).trans rfl, (jL BK284.out 4).trans rfl, (jL BK284.out 5).trans rfl, (zx HB hw287_0)⟩ (fun hHeld => ?_)
          clear hK K
          refine norm_ (a' := ?_) ?_ ?_
          rotate_left
          ·show Act.put _ (some 30) _ = _
           simp only [Act.put, jD, jE, jF, i64_w, i32_w]
           rfl
          refine zp HT_ 6 24 m12_fe4 ?_
          refine zp HT_ 7 31 m12_ff4 ?_
          refine zp HT_ 8 32 m12_ffc ?_
          exact norm_ (by simp only [putAll, Act.put, jD, jE, jF]) (hCont (gb295) _ ⟨hHeld, (zk BK284), (zk BK285), (zk BK295), GW295.out, GE295.out, NB284_295.out, NB295_284.out, NB285_295.out, NB295_285.out, (zb3 HB GE284 GE285 GE295)⟩)
        rintro gb295 w39 ⟨hS_, h0_, h1_, h2_, h3_, h4_, h5_, h6_, h7_, h8_, h9_⟩
        replace BK284 : Aside0 (w39.heap[gb284]? = some (.cells #[.bool x285000_1, .bool x285001_1, .bool x285002_1, .bool x285003_1, .bool x285004_1, .int .i64 x285005_1] 23 (0, 0))) := ⟨h0_⟩
        replace BK285 : Aside0 (w39.heap[gb285]? = some (.cells #[.bool x286000_1, .bool x286001_1, .bool x286002_1, .bool x286003_1, .bool x286004_1, .int .i64 x286005_1] 23 (0, 0))) := ⟨h1_⟩
        have BK295 : Aside0 (w39.heap[gb295]? = some (.cells #[.bool false, .bool false, .bool false, .bool false, .bool false, .int .i64 0] 23 (0, 0))) := ⟨h2_⟩
        have GW295 : Aside0 (w.heap.size ≤ gb295) := ⟨h3_⟩
        have GE295 : Aside0 (w.heap.size ≤ gb295) := ⟨h4_⟩
        have NB284_295 : Aside0 (gb284 ≠ gb295) := ⟨h5_⟩
        have NB295_284 : Aside0 (gb295 ≠ gb284) := ⟨h6_⟩
        have NB285_295 : Aside0 (gb285 ≠ gb295) := ⟨h7_⟩
        have NB295_285 : Aside0 (gb295 ≠ gb285) := ⟨h8_⟩
        replace HB : Aside0 (Below w.heap.size w w39) := ⟨h9_⟩
        clear h0_ h1_ h2_ h3_ h4_ h5_ h6_ h7_ h8_ h9_
        have hHeld : w39.cell? ⟨gb284, 0, none⟩ = some (.bool x285000_1) ∧ w39.cell? ⟨gb284, 1, none⟩ = some (.bool x285001_1) ∧ w39.cell? ⟨gb284, 2, none⟩ = some (.bool x285002_1) ∧ w39.cell? ⟨gb284, 3, none⟩ = some (.bool x285003_1) ∧ w39.cell? ⟨gb284, 4, none⟩ = some (.bool x285004_1) ∧ w39.cell? ⟨gb284, 5, none⟩ = some (.int .i64 x285005_1) ∧ w39.cell? (ad287.add (x7_1).toNat) = some (.int .i64 (rd l1 x7_1)) := hS_
        refine norm_ (a' := ?_) ?_ ?_
        rotate_left
        ·simp only [putAll, Act.put, jD, jE, jF]
         rfl
        refine one_ (i := 10) (N := none) m12_ffe rfl rfl (one_of HT_.out zr) (by decide) (fun K hK => ?_)
        have hs40 : w39.cell? ⟨gb295, 0, none⟩ = some (.bool false) := (jL BK295.out 0).trans rfl
        have hfs40 := jW BK295.out 0
        have hns40_0 := NB284_295.out
        have hns40_1 := NB285_295.out
        have hms40_0 := NB295_284.out
        have hms40_1 := NB295_285.out
        have hs41 : w39.cell? ⟨gb295, 1, none⟩ = some (.bool false) := (jL BK295.out 1).trans rfl
        have hfs41 := jW BK295.out 1
        have hns41_0 := NB284_295.out
        have hns41_1 := NB285_295.out
        have hms41_0 := NB295_284.out
        have hms41_1 := NB295_285.out
        have hs42 : w39.cell? ⟨gb295, 2, none⟩ = some (.bool false) := (jL BK295.out 2).trans rfl
        have hfs42 := jW BK295.out 2
        have hns42_0 := NB284_295.out
        have hns42_1 := NB285_295.out
        have hms42_0 := NB295_284.out
        have hms42_1 := NB295_285.out
        have hs43 : w39.cell? ⟨gb295, 3, none⟩ = some (.bool false) := (jL BK295.out 3).trans rfl
        have hfs43 := jW BK295.out 3
        have hns43_0 := NB284_295.out
        have hns43_1 := NB285_295.out
        have hms43_0 := NB295_284.out
        have hms43_1 := NB295_285.out
        have hs44 : w39.cell? ⟨gb295, 4, none⟩ = some (.bool false) := (jL BK295.out 4).trans rfl
        have hfs44 := jW BK295.out 4
        have hns44_0 := NB284_295.out
        have hns44_1 := NB285_295.out
        have hms44_0 := NB295_284.out
        have hms44_1 := NB295_285.out
        have hs45 : w39.cell? ⟨gb295, 5, none⟩ = some (.int .i64 0) := (jL BK295.out 5).trans rfl
        have hfs45 := jW BK295.out 5
        have hns45_0 := NB284_295.out
        have hns45_1 := NB285_295.out
        have hms45_0 := NB295_284.out
        have hms45_1 := NB295_285.out
        refine skip_ (w1 := ?_) (by rfl) rfl ?_ ?_
        rotate_left
        ·go_simp
         rfl
        refine hK.out _ _ ⟨((jM (p := ⟨gb295, _, none⟩) NB284_295.out _).trans (((jM (p := ⟨gb295, _, none⟩) NB284_295.out _).trans (((jM (p := ⟨gb295, _, none⟩) NB284_295.out _).trans (((jM (p := ⟨gb295, _, none⟩) NB284_295.out _).trans (((jM (p := ⟨gb295, _, none⟩) NB284_295.out _).trans (((jM (p := ⟨gb295, _, none⟩) NB284_295.out _).trans (hHeld.1)))))))))))), ((jM (p := ⟨gb295, _, none⟩) NB284_295.out _).trans (((jM (p := ⟨gb295, _, none⟩) NB284_295.out _).trans (((jM (p := ⟨gb295, _, none⟩) NB284_295.out _).trans (((jM (p := ⟨gb295, _, none⟩) NB284_295.out _).trans (((jM (p := ⟨gb295, _, none⟩) NB284_295.out _).trans (((jM (p := ⟨gb295, _, none⟩) NB284_295.out _).trans (hHeld.2.1)))))))))))), ((jM (p := ⟨gb295, _, none⟩) NB284_295.out _).trans (((jM (p := ⟨gb295, _, none⟩) NB284_295.out _).trans (((jM (p := ⟨gb295, _, none⟩) NB284_295.out _).trans (((jM (p := ⟨gb295, _, none⟩) NB284_295.out _).trans (((jM (p := ⟨gb295, _, none⟩) NB284_295.out _).trans (((jM (p := ⟨gb295, _, none⟩) NB284_295.out _).trans (hHeld.2.2.1)))))))))))), ((jM (p := ⟨gb295, _, none⟩) NB284_295.out _).trans (((jM (p := ⟨gb295, _, none⟩) NB284_295.out _).trans (((jM (p := ⟨gb295, _, none⟩) NB284_295.out _).trans (((jM (p := ⟨gb295, _, none⟩) NB284_295.out _).trans (((jM (p := ⟨gb295, _, none⟩) NB284_295.out _).trans (((jM (p := ⟨gb295, _, none⟩) NB284_295.out _).trans (hHeld.2.2.2.1)))))))))))), ((jM (p := ⟨gb295, _, none⟩) NB284_295.out _).trans (((jM (p := ⟨gb295, _, none⟩) NB284_295.out _).trans (((jM (p := ⟨gb295, _, none⟩) NB284_295.out _).trans (((jM (p := ⟨gb295, _, none⟩) NB284_295.out _).trans (((jM (p := ⟨gb295, _, none⟩) NB284_295.out _).trans (((jM (p := ⟨gb295, _, none⟩) NB284_295.out _).trans (hHeld.2.2.2.2.1)))))))))))), ((jM (p := ⟨gb295, _, none⟩) NB284_295.out _).trans (((jM (p := ⟨gb295, _, none⟩) NB284_295.out _).trans (((jM (p := ⟨gb295, _, none⟩) NB284_295.out _).trans (((jM (p := ⟨gb295, _, none⟩) NB284_295.out _).trans (((jM (p := ⟨gb295, _, none⟩) NB284_295.out _).trans (((jM (p := ⟨gb295, _, none⟩) NB284_295.out _).trans (hHeld.2.2.2.2.2.1)))))))))))), ((jM (p := ⟨gb295, _, none⟩) (by first | exact zd hw287_0 GW295 | (rw [jV]; exact zd hw287_0 GW295) | (show (Addr.add _ _).block ≠ _; rw [jV]; exact zd hw287_0 GW295) | (dsimp only; exact zd hw287_0 GW295)) _).trans (((jM (p := ⟨gb295, _, none⟩) (by first | exact zd hw287_0 GW295 | (rw [jV]; exact zd hw287_0 GW295) | (show (Addr.add _ _).block ≠ _; rw [jV]; exact zd hw287_0 GW295) | (dsimp only; exact zd hw287_0 GW295)) _).trans (((jM (p := ⟨gb295, _, none⟩) (by first | exact zd hw287_0 GW295 | (rw [jV]; exact zd hw287_0 GW295) | (show (Addr.add _ _).block ≠ _; rw [jV]; exact zd hw287_0 GW295) | (dsimp only; exact zd hw287_0 GW295)) _).trans (((jM (p := ⟨gb295, _, none⟩) (by first | exact zd hw287_0 GW295 | (rw [jV]; exact zd hw287_0 GW295) | (show (Addr.add _ _).block ≠ _; rw [jV]; exact zd hw287_0 GW295) | (dsimp only; exact zd hw287_0 GW295)) _).trans (((jM (p := ⟨gb295, _, none⟩) (by first | exact zd hw287_0 GW295 | (rw [jV]; exact zd hw287_0 GW295) | (show (Addr.add _ _).block ≠ _; rw [jV]; exact zd hw287_0 GW295) | (dsimp only; exact zd hw287_0 GW295)) _).trans (((jM (p := ⟨gb295, _, none⟩) (by first | exact zd hw287_0 GW295 | (rw [jV]; exact zd hw287_0 GW295) | (show (Addr.add _ _).block ≠ _; rw [jV]; exact zd hw287_0 GW295) | (dsimp only; exact zd hw287_0 GW295)) _).trans (hHeld.2.2.2.2.2.2))))))))))))⟩ (fun hHeld => ?_)
        clear hK K
        refine zp HT_ 11 9 m12_fff ?_
        refine done_ (done_of HT_.out zr) ?_
        have hnb46 := NB284_285.out
        have hnc46 := NB285_284.out
        have hnb47 := NB284_295.out
        have hnc47 := NB295_284.out
        have hcz48 := zc6 BK284
        have hnb49 := NB285_295.out
        have hnc49 := NB295_285.out
        have hcz50 := zc6 BK285
        try go_wp2
        refine jQ (results_ctt rfl _ _ gb285 23 #[.bool x285000_1, .bool x285001_1, .bool x285002_1, .bool x285003_1, .bool x285004_1, .int .i64 x285005_1] (0, 0) _ rfl (zP1 BK285 NB285_295) Try.underlying23 rfl zr) rfl ?_
        exact ⟨ze, zb3 HB GE284 GE285 GE295⟩
      ·rw [if_neg c18] at H
       exact absurd H (by simp)
     ·rw [if_neg c17] at H
      have c17b0 : decide (x7_1 < (l1.length : Int)) = false := jS c17
      clear c17
      simp only [jH, jK] at H
      obtain ⟨rfl, rfl, rfl, rfl, rfl, rfl, rfl, rfl⟩ := H
      have hnb51 := NB284_285.out
      have hnc51 := NB285_284.out
      have hcz52 := zc6 BK284
      have hcz53 := zc6 BK285
      go_wp2
      refine jQ (results_ctt rfl _ _ gb285 23 #[.bool x285000_1, .bool x285001_1, .bool x285002_1, .bool x285003_1, .bool x285004_1, .int .i64 x285005_1] (0, 0) _ rfl (zP0 BK285) Try.underlying23 rfl zr) rfl ?_
      exact ⟨ze, zb2 HB GE284 GE285⟩
 ·replace c4 := Bool.eq_false_iff.mpr c4
  subst c4
  rw [if_neg zfalse] at H
  simp only [jH, jK] at H
  obtain ⟨rfl, rfl, rfl, rfl, rfl, rfl, rfl, rfl⟩ := H
  go_enter Try.func81, Try.ntmps81
  go_wp2_with (first | ((with_reducible refine jJ (N := 2) rfl ?_); refine zE 2 #[.bool a0_0, .bool a0_1, .bool a0_2, .bool a0_3, .bool a0_4, .int .i64 a0_5] 23 ?_; intro gb284 hg w54 hbox hb; have BK284 := jA (hbox); have GW284 := zg0 hg HB; have GE284 := zg0 hg HB; replace HB := zS0 HB hb; clear hb hbox hg) | ((with_reducible refine jJ (N := 4) rfl ?_); refine zE 4 #[.bool false, .bool false, .bool false, .bool false, .bool false, .int .i64 0] 23 ?_; intro gb285 hg w55 hbox hb; have BK285 := jA (hbox); have GW285 := zg1 hg HB GE284; have GE285 := zg1 hg HB GE284; replace HB := zS1 HB GE284 hb; have NB284_285 := zn hg BK284; replace BK284 := zB BK284 hb; have NB285_284 := jA NB284_285.out.symm; clear hb hbox hg; have hnb56 := NB284_285.out; have hnc56 := NB285_284.out; have hcz57 := zc6 BK284) | ((with_reducible refine jG (f := 51) rfl ?_); refine zL (some 11) Try.func51 #[.agg #[.bool a0_0, .bool a0_1, .bool a0_2, .bool a0_3, .bool a0_4, .int .i64 a0_5]] ?_; (with_reducible refine (spec_IsSound.calls a0_0 a0_1 a0_2 a0_3 a0_4 a0_5 false _ A3.out).mono ?_); rintro e w58 ⟨rfl, hb⟩; refine ⟨_, rfl, ?_⟩; replace BK284 := zB BK284 hb; replace BK285 := zB BK285 hb; replace HB := zS2 HB GE284 GE285 hb; clear hb; have hcz59 := zc6 BK285))
  refine jQ (results_ctt rfl _ _ gb285 23 #[.bool false, .bool false, .bool false, .bool false, .bool false, .int .i64 0] (0, 0) _ rfl (zP0 BK285) Try.underlying23 rfl zr) rfl ?_
  exact ⟨ze, zb2 HB GE284 GE285⟩

end Go.Proofs.Ythieppjmjgijfaa.PFnProofs
