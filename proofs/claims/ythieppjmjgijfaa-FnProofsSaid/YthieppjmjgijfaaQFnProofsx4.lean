/- Functions and contracts that FnProofs reaches (5 of 22). -/
import Derived.Test.YthieppjmjgijfaaQFnProofsx3
namespace Go.Proofs.Ythieppjmjgijfaa.PFnProofs
open Go.RowKit Go.Proofs.YthieppjmjgijfaaW.PrintWords Go.Proofs.YthieppjmjgijfaaW.PrintLast Go.Proofs.YthieppjmjgijfaaW.PrintMore
attribute [local go_sem] max2_int min2_int max_two min_two max_three min_three max_four min_four   -- for this text's walks alone
set_option linter.unusedVariables false
set_option linter.unusedSimpArgs false

/-! ### spec_l25Next: function 71 -/
def spec_l25Next.l0 : Nat → Int → List Int → List Int → Int → Option (List Int)
 | 0, _, _, _, _ => none
 | k + 1, x0, x1, x5, x6 => if x6 < (x1.length : Int) then ((spec_l25With.f x0).bind fun bt201 => (if 0 ≤ x6 then ((spec_l21Give.f bt201.1 bt201.2.1 bt201.2.2.1 bt201.2.2.2.1 bt201.2.2.2.2.1 bt201.2.2.2.2.2 (rd x1 x6)).bind fun bt208 => (if bt208.2.2.2.2.2.2 = true then ((spec_l25Number.f k bt208.1 bt208.2.1 bt208.2.2.1 bt208.2.2.2.1 bt208.2.2.2.2.1 bt208.2.2.2.2.2.1).bind fun t216 => (if x5.length < 17592186044416 then (spec_l25Next.l0 k x0 x1 (x5 ++ [t216]) (wrap64 (x6 + 1))) else (none))) else (if x5.length < 17592186044416 then (spec_l25Next.l0 k x0 x1 (x5 ++ [(-1)]) (wrap64 (x6 + 1))) else (none)))) else (none))) else (some x5)
def spec_l25Next.f (k : Nat) (a0 : Int) (l1 : List Int) : Option (List Int) := spec_l25Next.l0 k a0 l1 (([] : List Int)) 0
theorem spec_l25Next.mono_l : ∀ k, (∀ y0 y1 y2 y3, LeO (spec_l25Next.l0 k y0 y1 y2 y3) (spec_l25Next.l0 (k + 1) y0 y1 y2 y3))
 | 0 => fun _ _ _ _ r h => by simp [spec_l25Next.l0] at h
 | k + 1 => by
  have ih0 := spec_l25Next.mono_l k
  ·intro y0 y1 y2 y3
   unfold spec_l25Next.l0
   repeat' first
   | (with_reducible exact ih0 _ _ _ _)
   | (with_reducible exact spec_l25Number.mono _ _ _ _ _ _ _)
   | (with_reducible exact LeO.refl _)
   | (with_reducible exact LeO.none _)
   | (with_reducible refine LeO.ite ?_ ?_)
   | (with_reducible refine LeO.bind ?_ (fun _ => ?_))
   | exact ih0 _ _ _ _
   | exact spec_l25Number.mono _ _ _ _ _ _ _
   | exact LeO.none _
   | refine LeO.ite ?_ ?_
   | refine LeO.bind ?_ (fun _ => ?_)
theorem spec_l25Next.mono : ∀ a0 a1 k, LeO (spec_l25Next.f k a0 a1) (spec_l25Next.f (k + 1) a0 a1) := by
 intro a0 a1 k
 have ih0 := spec_l25Next.mono_l k
 unfold spec_l25Next.f
 repeat' first
   | (with_reducible exact ih0 _ _ _ _)
   | (with_reducible exact spec_l25Number.mono _ _ _ _ _ _ _)
   | (with_reducible exact LeO.refl _)
   | (with_reducible exact LeO.none _)
   | (with_reducible refine LeO.ite ?_ ?_)
   | (with_reducible refine LeO.bind ?_ (fun _ => ?_))
   | exact ih0 _ _ _ _
   | exact spec_l25Number.mono _ _ _ _ _ _ _
   | exact LeO.none _
   | refine LeO.ite ?_ ?_
   | refine LeO.bind ?_ (fun _ => ?_)
def spec_l25Next.T5 : Bool × List (List Nat × List Nat) := (true, [([], []), ([0], [0]), ([], []), ([], []), ([2, 3], [2, 3]), ([4], [4]), ([1, 5, 1], [1, 5]), ([6], [6]), ([7], [7]), ([7], [7]), ([], []), ([10, 8, 6, 0, 1, 2, 3, 4, 5, 6, 7, 8, 10], [8, 10]), ([9, 11, 0, 1, 2, 3, 4, 5, 6, 7, 8, 9, 10, 11], [9])])
def spec_l25Next.B5 : List Nat := [0, 1, 0, 0, 12, 28, 63, 127, 255, 255, 0, 1535, 4095]
theorem spec_l25Next.tab5 : rtab .any (opsOf Try.f71 5) = spec_l25Next.T5 := by kernel_rfl
theorem spec_l25Next.bits5 : waitsOk spec_l25Next.T5.2 spec_l25Next.B5 = true := by kernel_rfl
set_option maxHeartbeats 8000000 in
set_option maxRecDepth 100000 in
theorem spec_l25Next.calls (k : Nat) (a0 : Int) (A1 : Option Addr) (c1 : Nat) (l1 : List Int) (r : List Int) (w : World) (hr1 : Kd.C (Kd.int .i64) w A1 l1.length l1) (hc1 : l1.length ≤ c1) (h : spec_l25Next.f k a0 l1 = some r) :
  Calls Try.prog 71 #[.int .i64 a0, .slice A1 l1.length c1] w fun e w' => ∃ v0_ : Value, e = .returned (v0_) ∧ Kd.R (Kd.int .i64) 2 w' w.heap.size (fun _ => True) v0_ r ∧ Below w.heap.size w w' := by
 have hu23 := Try.underlying23
 have HR1 := jA hr1
 have HC1 := jA hc1
 clear hr1 hc1
 have HB := jA (Below.refl w.heap.size w)
 have H : (spec_l25Next.l0 k a0 l1 (([] : List Int)) 0) = some r := h
 clear h
 obtain ⟨y198, hy198⟩ : ∃ y_ : List Int, y_ = (([] : List Int)) := ⟨_, rfl⟩
 replace H : (spec_l25Next.l0 k a0 l1 y198 0) = some r := by first | (rw [hy198]; with_reducible exact H) | (have H2_ := (Option.bind_some _ _).symm.trans H; rw [hy198]; with_reducible exact H2_) | (have H2_ := (Option.bind_some _ _).symm.trans H; with_reducible exact H2_) | with_reducible exact H | (rw [hy198]; exact H) | exact H
 have Ny198 := jA hy198
 clear hy198
 have H' := jA H
 clear H
 go_enter Try.func71, Try.ntmps71
 go_wp2_with (first | ((with_reducible refine jJ (N := 9) rfl ?_); refine Kd.R_lit (Kd.int .i64) _ 2 ?hg (N := 9) ?hd (xs := ([] : List Int)) (inner := []) (ok := fun _ => True) (okp := fun _ => True) ?hr ?hp (fun _ hk => hk) trivial (Below.refl _ _) (Nat.le_refl _) (by simp) ?_; (case hd => rfl); (case hg => rfl); (case hr => first | (go_simp; done) | (go_simp; rfl)); (case hp => exact (Reps.none _ _)); intro v199 w3 ho4 hb hg_ hnew_; clear hg_ hnew_; (first | rw [← Ny198.out] at ho4 | (simp only [Int.reduceToNat] at ho4; rw [← Ny198.out] at ho4)); have HO200 := jA (jX ho4 (jT (zb0 HB))); replace HB := zS0 HB hb; clear hb ho4))
 go_loopg [5, 6] k (fun kq v5 v6 w' => ∃ (x5_1 : List Int) (x6_1 : Int), v6 = .int .i64 x6_1 ∧ Aside0 (spec_l25Next.l0 kq a0 l1 x5_1 x6_1 = some r) ∧ Aside0 (kq ≤ k) ∧ Aside0 (Kd.R (Kd.int .i64) 2 w' w.heap.size (fun _ => True) v5 x5_1) ∧ Aside0 (Below w.heap.size w w'))
 case atStart => exact ⟨(y198), (0), zz, H', ⟨Nat.le_refl _⟩, ⟨zo HO200⟩, ⟨zb0 HB⟩⟩
 case round =>
  clear H'
  try clear c1
  try clear p2
  obtain ⟨x5_1, x6_1, rfl, HA, HK1, HO_5, HB⟩ := hrel
  cases gk with
  | zero => exact absurd HA.out (by simp [spec_l25Next.l0])
  | succ k1 =>
   have H := HA.out
   clear HA
   simp only [spec_l25Next.l0] at H
   by_cases c5 : x6_1 < (l1.length : Int)
   ·rw [if_pos c5] at H
    have c5b0 : decide (x6_1 < (l1.length : Int)) = true := jI c5
    clear c5
    replace H := jC.mp H
    obtain ⟨⟨t201, t202, t203, t204, t205, t206⟩, A60, H⟩ := H
    replace H : (if 0 ≤ x6_1 then ((spec_l21Give.f t201 t202 t203 t204 t205 t206 (rd l1 x6_1)).bind fun bt208 => (if bt208.2.2.2.2.2.2 = true then ((spec_l25Number.f k1 bt208.1 bt208.2.1 bt208.2.2.1 bt208.2.2.2.1 bt208.2.2.2.2.1 bt208.2.2.2.2.2.1).bind fun t216 => (if x5_1.length < 17592186044416 then (spec_l25Next.l0 k1 a0 l1 (x5_1 ++ [t216]) (wrap64 (x6_1 + 1))) else (none))) else (if x5_1.length < 17592186044416 then (spec_l25Next.l0 k1 a0 l1 (x5_1 ++ [(-1)]) (wrap64 (x6_1 + 1))) else (none)))) else (none)) = some r := H
    have A6 := jA A60
    clear A60
    by_cases c7 : 0 ≤ x6_1
    ·rw [if_pos c7] at H
     have c7b0 : decide (0 ≤ x6_1) = true := jI c7
     clear c7
     replace H := jC.mp H
     obtain ⟨⟨t208, t209, t210, t211, t212, t213, t214⟩, A80, H⟩ := H
     replace H : (if t214 = true then ((spec_l25Number.f k1 t208 t209 t210 t211 t212 t213).bind fun t216 => (if x5_1.length < 17592186044416 then (spec_l25Next.l0 k1 a0 l1 (x5_1 ++ [t216]) (wrap64 (x6_1 + 1))) else (none))) else (if x5_1.length < 17592186044416 then (spec_l25Next.l0 k1 a0 l1 (x5_1 ++ [(-1)]) (wrap64 (x6_1 + 1))) else (none))) = some r := H
     have A8 := jA A80
     clear A80
     by_cases c9 : t214 = true
     ·subst c9
      rw [if_pos rfl] at H
      replace H := jC.mp H
      obtain ⟨t216, A100, H⟩ := H
      replace H : (if x5_1.length < 17592186044416 then (spec_l25Next.l0 k1 a0 l1 (x5_1 ++ [t216]) (wrap64 (x6_1 + 1))) else (none)) = some r := H
      have A10 := jA A100
      clear A100
      by_cases c11 : x5_1.length < 17592186044416
      ·rw [if_pos c11] at H
       have LMc11 := jA c11
       clear c11
       obtain ⟨y217, hy217⟩ : ∃ y_ : List Int, y_ = (x5_1 ++ [t216]) := ⟨_, rfl⟩
       replace H : (spec_l25Next.l0 k1 a0 l1 y217 (wrap64 (x6_1 + 1))) = some r := by first | (rw [hy217]; with_reducible exact H) | (have H2_ := (Option.bind_some _ _).symm.trans H; rw [hy217]; with_reducible exact H2_) | (have H2_ := (Option.bind_some _ _).symm.trans H; with_reducible exact H2_) | with_reducible exact H | (rw [hy217]; exact H) | exact H
       have Ny217 := jA hy217
       clear hy217
       have H' := jA H
       clear H
       try go_wp2
       replace HO_5 := jA (Kd.R_drew HO_5.out)
       replace HB := jA (below_drew1 HB.out)
       have p207 : 0 ≤ (x6_1 : Int) := jB za
       have q207 : x6_1 < (l1.length : Int) := jB za
       obtain ⟨ad207, e207, hx207_0⟩ := jR HR1.out x6_1 p207 q207
       have hw207_0 := hx207_0
       cases e207
       replace hx207_0 := zx HB hx207_0
       replace p207 := eq_true p207
       replace q207 := eq_true q207
       refine start_ (n := 13) (S := fun w' => w'.cell? (ad207.add (x6_1).toNat) = some (.int .i64 (rd l1 x6_1))) (ds := []) m13_0 zr rfl rfl ((zx HB hw207_0)) (fun hHeld => ?_); refine with_tabW spec_l25Next.tab5 spec_l25Next.bits5 (fun HT_ HW_ => ?_)
       generalize wr.drew = w12 at HO_5 HB hx207_0 hHeld ⊢
       refine zp HT_ 0 17 m13_1000 ?_
       refine zp HT_ 2 19 m13_1400 ?_
       refine zp HT_ 3 20 m13_1600 ?_
       refine zp HT_ 4 21 m13_1700 ?_
       refine take_ (i := 5) (N := some 22) (v := ?_) (a' := ?_) m13_1780 rfl rfl (take_ofW HT_.out HW_.out zr) (fun _ _ _ h => h) (Or.inl ⟨by rfl, ?_⟩) hHeld ?_ ?_
       rotate_left
       ·intro w' s0
        go_simp
        with_reducible rfl
       rotate_left
       ·simp only [Act.put, jD, jE, jF, i64_w, i32_w]
        rfl
       refine join_ (σ := Nat) 2 m13_1ffc (fun s_ => [(18, .agg #[.bool t201, .bool t202, .bool t203, .bool t204, .bool t205, .int .i64 t206]), (23, .tuple #[.agg #[.bool t208, .bool t209, .bool t210, .bool t211, .bool t212, .int .i64 t213], .bool true]), (7, .pointer (some ⟨s_, 0, none⟩)), (16, .tuple #[.agg #[.bool t208, .bool t209, .bool t210, .bool t211, .bool t212, .int .i64 t213], .bool true]), (24, .agg #[.bool t208, .bool t209, .bool t210, .bool t211, .bool t212, .int .i64 t213]), (25, .bool true)]) (fun s_ w' => (w'.cell? (ad207.add (x6_1).toNat) = some (.int .i64 (rd l1 x6_1))) ∧ (Kd.R (Kd.int .i64) 2 w' w.heap.size (fun _ => True) u5 x5_1) ∧ (w'.heap[s_]? = some (.cells #[.bool false, .bool false, .bool false, .bool false, .bool false, .int .i64 0] 23 (0, 0))) ∧ (w.heap.size ≤ s_) ∧ (w.heap.size ≤ s_) ∧ (Below w.heap.size w w')) ?_ ?_
       rotate_left
       ·intro hCont
        refine two_ (i := 1) (j := 10) (Ni := some 18) (Nj := some 7) m13_1f80 m13_1784 rfl rfl rfl rfl (two_of HT_.out zr) (by decide) (by decide) (fun K hK => ?_) (fun K hK => ?_)
        ·skip
         refine goes_ Try.func48 zr rfl #[.int .i64 a0] (by rfl) rfl rfl zm ?_
         with_reducible refine (spec_l25With.calls a0 t201 t202 t203 t204 t205 t206 _ A6.out).mono ?_
         rintro e w13 ⟨rfl, hb⟩
         refine ⟨_, rfl, ?_⟩
         replace HO_5 := jA (jP (zo HO_5) hb)
         replace HB := zS0 HB hb
         (try clear hb)
         (try clear hb2)
         (try clear hk)
         (try clear hi)
         refine hK.out _ _ ((zx HB hw207_0)) (fun hHeld => ?_)
         clear hK K
         refine norm_ (a' := ?_) ?_ ?_
         rotate_left
         ·show Act.put _ (some 18) _ = _
          simp only [Act.put, jD, jE, jF, i64_w, i32_w]
          rfl
         refine two_ (i := 6) (j := 10) (Ni := some 23) (Nj := some 7) m13_1fc0 m13_1f84 rfl rfl rfl rfl (two_of HT_.out zr) (by decide) (by decide) (fun K hK => ?_) (fun K hK => ?_)
         ·skip
          refine goes_ Try.func87 zr rfl #[.agg #[.bool t201, .bool t202, .bool t203, .bool t204, .bool t205, .int .i64 t206], .int .i64 (rd l1 x6_1)] (by rfl) rfl rfl zm ?_
          with_reducible refine (spec_l21Give.calls t201 t202 t203 t204 t205 t206 (rd l1 x6_1) t208 t209 t210 t211 t212 t213 true _ A8.out).mono ?_
          rintro e w14 ⟨rfl, hb⟩
          refine ⟨_, rfl, ?_⟩
          replace HO_5 := jA (jP (zo HO_5) hb)
          replace HB := zS0 HB hb
          (try clear hb)
          (try clear hb2)
          (try clear hk)
          (try clear hi)
          refine hK.out _ _ ((zx HB hw207_0)) (fun hHeld => ?_)
          clear hK K
          refine norm_ (a' := ?_) ?_ ?_
          rotate_left
          ·show Act.put _ (some 23) _ = _
           simp only [Act.put, jD, jE, jF, i64_w, i32_w]
           rfl
          refine zp HT_ 7 16 m13_1fe0 ?_
          refine zp HT_ 8 24 m13_1ff0 ?_
          refine zp HT_ 9 25 m13_1ff8 ?_
          refine one_ (i := 10) (N := some 7) m13_1ffc rfl rfl (one_of HT_.out zr) (by decide) (fun K hK => ?_)
          refine box_step ?hg (N := 7) ?hd (cs := #[.bool false, .bool false, .bool false, .bool false, .bool false, .int .i64 0]) (t := 23) ?hr ?_; (case hd => rfl); (case hg => rfl); (case hr => first | (go_simp; done) | (go_simp; rfl))
          intro gb215 hg w15 hbox hb
          replace HO_5 := jA (jP (zo HO_5) hb)
          have BK215 := jA (hbox)
          have GW215 := zg0 hg HB
          have GE215 := zg0 hg HB
          replace HB := zS0 HB hb
          clear hb hbox hg
          refine hK.out _ _ ((zx HB hw207_0)) (fun hHeld => ?_)
          clear hK K
          refine norm_ (a' := ?_) ?_ ?_
          rotate_left
          ·show Act.put _ (some 7) _ = _
           simp only [Act.put, jD, jE, jF, i64_w, i32_w]
           rfl
          exact norm_ (by simp only [putAll, Act.put, jD, jE, jF]) (hCont (gb215) _ ⟨hHeld, (zo HO_5), (zk BK215), GW215.out, GE215.out, (zb1 HB GE215)⟩)
         ·skip
          refine box_step ?hg (N := 7) ?hd (cs := #[.bool false, .bool false, .bool false, .bool false, .bool false, .int .i64 0]) (t := 23) ?hr ?_; (case hd => rfl); (case hg => rfl); (case hr => first | (go_simp; done) | (go_simp; rfl))
          intro gb215 hg w14 hbox hb
          replace HO_5 := jA (jP (zo HO_5) hb)
          have BK215 := jA (hbox)
          have GW215 := zg0 hg HB
          have GE215 := zg0 hg HB
          replace HB := zS0 HB hb
          clear hb hbox hg
          refine hK.out _ _ ((zx HB hw207_0)) (fun hHeld => ?_)
          clear hK K
          refine norm_ (a' := ?_) ?_ ?_
          rotate_left
          ·show Act.put _ (some 7) _ = _
           simp only [Act.put, jD, jE, jF, i64_w, i32_w]
           rfl
          refine one_ (i := 6) (N := some 23) m13_1fc4 rfl rfl (one_of HT_.out zr) (by decide) (fun K hK => ?_)
          refine goes_ Try.func87 zr rfl #[.agg #[.bool t201, .bool t202, .bool t203, .bool t204, .bool t205, .int .i64 t206], .int .i64 (rd l1 x6_1)] (by rfl) rfl rfl zm ?_
          with_reducible refine (spec_l21Give.calls t201 t202 t203 t204 t205 t206 (rd l1 x6_1) t208 t209 t210 t211 t212 t213 true _ A8.out).mono ?_
          rintro e w15 ⟨rfl, hb⟩
          refine ⟨_, rfl, ?_⟩
          replace HO_5 := jA (jP (zo HO_5) hb)
          replace BK215 := zB BK215 hb
          replace HB := zS1 HB GE215 hb
          (try clear hb)
          (try clear hb2)
          (try clear hk)
          (try clear hi)
          refine hK.out _ _ ((zx HB hw207_0)) (fun hHeld => ?_)
          clear hK K
          refine norm_ (a' := ?_) ?_ ?_
          rotate_left
          ·show Act.put _ (some 23) _ = _
           simp only [Act.put, jD, jE, jF, i64_w, i32_w]
           rfl
          refine zp HT_ 7 16 m13_1fe4 ?_
          refine zp HT_ 8 24 m13_1ff4 ?_
          refine zp HT_ 9 25 m13_1ffc ?_
          exact norm_ (by simp only [putAll, Act.put, jD, jE, jF]) (hCont (gb215) _ ⟨hHeld, (zo HO_5), (zk BK215), GW215.out, GE215.out, (zb1 HB GE215)⟩)
        ·skip
         refine box_step ?hg (N := 7) ?hd (cs := #[.bool false, .bool false, .bool false, .bool false, .bool false, .int .i64 0]) (t := 23) ?hr ?_; (case hd => rfl); (case hg => rfl); (case hr => first | (go_simp; done) | (go_simp; rfl))
         intro gb215 hg w13 hbox hb
         replace HO_5 := jA (jP (zo HO_5) hb)
         have BK215 := jA (hbox)
         have GW215 := zg0 hg HB
         have GE215 := zg0 hg HB
         replace HB := zS0 HB hb
         clear hb hbox hg
         refine hK.out _ _ ((zx HB hw207_0)) (fun hHeld => ?_)
         clear hK K
         refine norm_ (a' := ?_) ?_ ?_
         rotate_left
         ·show Act.put _ (some 7) _ = _
          simp only [Act.put, jD, jE, jF, i64_w, i32_w]
          rfl
         refine one_ (i := 1) (N := some 18) m13_1f84 rfl rfl (one_of HT_.out zr) (by decide) (fun K hK => ?_)
         refine goes_ Try.func48 zr rfl #[.int .i64 a0] (by rfl) rfl rfl zm ?_
         with_reducible refine (spec_l25With.calls a0 t201 t202 t203 t204 t205 t206 _ A6.out).mono ?_
         rintro e w14 ⟨rfl, hb⟩
         refine ⟨_, rfl, ?_⟩
         replace HO_5 := jA (jP (zo HO_5) hb)
         replace BK215 := zB BK215 hb
         replace HB := zS1 HB GE215 hb
         (try clear hb)
         (try clear hb2)
         (try clear hk)
         (try clear hi)
         refine hK.out _ _ ((zx HB hw207_0)) (fun hHeld => ?_)
         clear hK K
         refine norm_ (a' := ?_) ?_ ?_
         rotate_left
         ·show Act.put _ (some 18) _ = _
          simp only [Act.put, jD, jE, jF, i64_w, i32_w]
          rfl
         refine one_ (i := 6) (N := some 23) m13_1fc4 rfl rfl (one_of HT_.out zr) (by decide) (fun K hK => ?_)
         refine goes_ Try.func87 zr rfl #[.agg #[.bool t201, .bool t202, .bool t203, .bool t204, .bool t205, .int .i64 t206], .int .i64 (rd l1 x6_1)] (by rfl) rfl rfl zm ?_
         with_reducible refine (spec_l21Give.calls t201 t202 t203 t204 t205 t206 (rd l1 x6_1) t208 t209 t210 t211 t212 t213 true _ A8.out).mono ?_
         rintro e w15 ⟨rfl, hb⟩
         refine ⟨_, rfl, ?_⟩
         replace HO_5 := jA (jP (zo HO_5) hb)
         replace BK215 := zB BK215 hb
         replace HB := zS1 HB GE215 hb
         (try clear hb)
         (try clear hb2)
         (try clear hk)
         (try clear hi)
         refine hK.out _ _ ((zx HB hw207_0)) (fun hHeld => ?_)
         clear hK K
         refine norm_ (a' := ?_) ?_ ?_
         rotate_left
         ·show Act.put _ (some 23) _ = _
          simp only [Act.put, jD, jE, jF, i64_w, i32_w]
          rfl
         refine zp HT_ 7 16 m13_1fe4 ?_
         refine zp HT_ 8 24 m13_1ff4 ?_
         refine zp HT_ 9 25 m13_1ffc ?_
         exact norm_ (by simp only [putAll, Act.put, jD, jE, jF]) (hCont (gb215) _ ⟨hHeld, (zo HO_5), (zk BK215), GW215.out, GE215.out, (zb1 HB GE215)⟩)
       rintro gb215 w16 ⟨hS_, h0_, h1_, h2_, h3_, h4_⟩
       replace HO_5 : Aside0 (Kd.R (Kd.int .i64) 2 w16 w.heap.size (fun _ => True) u5 x5_1) := ⟨h0_⟩
       have BK215 : Aside0 (w16.heap[gb215]? = some (.cells #[.bool false, .bool false, .bool false, .bool false, .bool false, .int .i64 0] 23 (0, 0))) := ⟨h1_⟩
       have GW215 : Aside0 (w.heap.size ≤ gb215) := ⟨h2_⟩
       have GE215 : Aside0 (w.heap.size ≤ gb215) := ⟨h3_⟩
       replace HB : Aside0 (Below w.heap.size w w16) := ⟨h4_⟩
       clear h0_ h1_ h2_ h3_ h4_
       have hHeld : w16.cell? (ad207.add (x6_1).toNat) = some (.int .i64 (rd l1 x6_1)) := hS_
       refine norm_ (a' := ?_) ?_ ?_
       rotate_left
       ·simp only [putAll, Act.put, jD, jE, jF]
        rfl
       refine one_ (i := 11) (N := none) m13_1ffe rfl rfl (one_of HT_.out zr) (by decide) (fun K hK => ?_)
       have hs17 : w16.cell? ⟨gb215, 0, none⟩ = some (.bool false) := (jL BK215.out 0).trans rfl
       have hfs17 := jW BK215.out 0
       have hs18 : w16.cell? ⟨gb215, 1, none⟩ = some (.bool false) := (jL BK215.out 1).trans rfl
       have hfs18 := jW BK215.out 1
       have hs19 : w16.cell? ⟨gb215, 2, none⟩ = some (.bool false) := (jL BK215.out 2).trans rfl
       have hfs19 := jW BK215.out 2
       have hs20 : w16.cell? ⟨gb215, 3, none⟩ = some (.bool false) := (jL BK215.out 3).trans rfl
       have hfs20 := jW BK215.out 3
       have hs21 : w16.cell? ⟨gb215, 4, none⟩ = some (.bool false) := (jL BK215.out 4).trans rfl
       have hfs21 := jW BK215.out 4
       have hs22 : w16.cell? ⟨gb215, 5, none⟩ = some (.int .i64 0) := (jL BK215.out 5).trans rfl
       have hfs22 := jW BK215.out 5
       refine skip_ (w1 := ?_) (by rfl) rfl ?_ ?_
       rotate_left
       ·go_simp
        rfl
       refine hK.out _ _ (((jM (p := ⟨gb215, _, none⟩) (by first | exact zd hw207_0 GW215 | (rw [jV]; exact zd hw207_0 GW215) | (show (Addr.add _ _).block ≠ _; rw [jV]; exact zd hw207_0 GW215) | (dsimp only; exact zd hw207_0 GW215)) _).trans (((jM (p := ⟨gb215, _, none⟩) (by first | exact zd hw207_0 GW215 | (rw [jV]; exact zd hw207_0 GW215) | (show (Addr.add _ _).block ≠ _; rw [jV]; exact zd hw207_0 GW215) | (dsimp only; exact zd hw207_0 GW215)) _).trans (((jM (p := ⟨gb215, _, none⟩) (by first | exact zd hw207_0 GW215 | (rw [jV]; exact zd hw207_0 GW215) | (show (Addr.add _ _).block ≠ _; rw [jV]; exact zd hw207_0 GW215) | (dsimp only; exact zd hw207_0 GW215)) _).trans (((jM (p := ⟨gb215, _, none⟩) (by first | exact zd hw207_0 GW215 | (rw [jV]; exact zd hw207_0 GW215) | (show (Addr.add _ _).block ≠ _; rw [jV]; exact zd hw207_0 GW215) | (dsimp only; exact zd hw207_0 GW215)) _).trans (((jM (p := ⟨gb215, _, none⟩) (by first | exact zd hw207_0 GW215 | (rw [jV]; exact zd hw207_0 GW215) | (show (Addr.add _ _).block ≠ _; rw [jV]; exact zd hw207_0 GW215) | (dsimp only; exact zd hw207_0 GW215)) _).trans (((jM (p := ⟨gb215, _, none⟩) (by first | exact zd hw207_0 GW215 | (rw [jV]; exact zd hw207_0 GW215) | (show (Addr.add _ _).block ≠ _; rw [jV]; exact zd hw207_0 GW215) | (dsimp only; exact zd hw207_0 GW215)) _).trans (hHeld))))))))))))) (fun hHeld => ?_)
       clear hK K
       refine zp HT_ 12 8 m13_1fff ?_
       refine done_ (done_of HT_.out zr) ?_
       have hcz23 := zc6 BK215
       try go_wp2_with (first | ((with_reducible refine jG (f := 52) rfl ?_); refine zL (some 29) Try.func52 #[.agg #[.bool t208, .bool t209, .bool t210, .bool t211, .bool t212, .int .i64 t213]] ?_; (with_reducible refine (spec_l25Number.calls k1 t208 t209 t210 t211 t212 t213 t216 _ A10.out).mono ?_); rintro e w24 ⟨rfl, hb⟩; refine ⟨_, rfl, ?_⟩; replace HO_5 := jA (jP (zU HO_5 BK215) hb); replace BK215 := jA (jU (g := gb215) (o := .cells #[.bool t208, .bool t209, .bool t210, .bool t211, .bool t212, .int .i64 t213] 23 (0, 0)) (zP0 BK215) hb); replace HB := zS1 HB GE215 hb; clear hb) | ((with_reducible refine gate_builtin (b := .append) (xs := #[.tmp 27, .tmp 30]) rfl ?_); at_builtin; refine Kd.R_append (Kd.int .i64) (w0 := w) w.heap.size rfl (.tmp 27) (.tmp 30) 35 2 (.int .i64 0) 8 rfl Try.underlying35 info2 rfl (by decide) (by omega) u5 x5_1 t216 [.int .i64 t216] (fun _ => True) (fun _ => False) rfl rfl ?aP (fun _ hk => hk.elim) ?aF ?aO ?aB ?aS ?aL ?_; (case aP => exact rfl); (case aB => exact (zb1 HB GE215)); (case aF => exact (fun _ _ => trivial)); (case aO => exact (zo HO_5)); (case aS => exact (jT (zb1 HB GE215))); (case aL => have := LMc11.out; omega); intro v218 w25 ho hb hg hat; rw [← Ny217.out] at ho; replace BK215 := jA (blk_grown (g := gb215) (o := .cells #[.bool t208, .bool t209, .bool t210, .bool t211, .bool t212, .int .i64 t213] 23 (0, 0)) (zk BK215) hg (Kd.R_ne HO_5.out BK215.out (by decide))); replace HB := jA (hb); have HO219 := jA (ho); clear HO_5; clear ho hb hg hat))
       go_roundg k1
       case measure => have := HK1.out; omega
       case rel => exact ⟨(y217), (wrap64 (x6_1 + 1)), zz, H', ⟨by have := HK1.out; omega⟩, ⟨zo HO219⟩, ⟨zb1 HB GE215⟩⟩
      ·rw [if_neg c11] at H
       exact absurd H (by simp)
     ·replace c9 := Bool.eq_false_iff.mpr c9
      subst c9
      rw [if_neg zfalse] at H
      by_cases c26 : x5_1.length < 17592186044416
      ·rw [if_pos c26] at H
       have LMc26 := jA c26
       clear c26
       obtain ⟨y220, hy220⟩ : ∃ y_ : List Int, y_ = (x5_1 ++ [(-1)]) := ⟨_, rfl⟩
       replace H : (spec_l25Next.l0 k1 a0 l1 y220 (wrap64 (x6_1 + 1))) = some r := by first | (rw [hy220]; with_reducible exact H) | (have H2_ := (Option.bind_some _ _).symm.trans H; rw [hy220]; with_reducible exact H2_) | (have H2_ := (Option.bind_some _ _).symm.trans H; with_reducible exact H2_) | with_reducible exact H | (rw [hy220]; exact H) | exact H
       have Ny220 := jA hy220
       clear hy220
       have H' := jA H
       clear H
       try go_wp2
       replace HO_5 := jA (Kd.R_drew HO_5.out)
       replace HB := jA (below_drew1 HB.out)
       have p207 : 0 ≤ (x6_1 : Int) := jB za
       have q207 : x6_1 < (l1.length : Int) := jB za
       obtain ⟨ad207, e207, hx207_0⟩ := jR HR1.out x6_1 p207 q207
       have hw207_0 := hx207_0
       cases e207
       replace hx207_0 := zx HB hx207_0
       replace p207 := eq_true p207
       replace q207 := eq_true q207
       refine start_ (n := 13) (S := fun w' => w'.cell? (ad207.add (x6_1).toNat) = some (.int .i64 (rd l1 x6_1))) (ds := []) m13_0 zr rfl rfl ((zx HB hw207_0)) (fun hHeld => ?_); refine with_tabW spec_l25Next.tab5 spec_l25Next.bits5 (fun HT_ HW_ => ?_)
       generalize wr.drew = w27 at HO_5 HB hx207_0 hHeld ⊢
       refine zp HT_ 0 17 m13_1000 ?_
       refine zp HT_ 2 19 m13_1400 ?_
       refine zp HT_ 3 20 m13_1600 ?_
       refine zp HT_ 4 21 m13_1700 ?_
       refine take_ (i := 5) (N := some 22) (v := ?_) (a' := ?_) m13_1780 rfl rfl (take_ofW HT_.out HW_.out zr) (fun _ _ _ h => h) (Or.inl ⟨by rfl, ?_⟩) hHeld ?_ ?_
       rotate_left
       ·intro w' s0
        go_simp
        with_reducible rfl
       rotate_left
       ·simp only [Act.put, jD, jE, jF, i64_w, i32_w]
        rfl
       refine join_ (σ := Nat) 2 m13_1ffc (fun s_ => [(18, .agg #[.bool t201, .bool t202, .bool t203, .bool t204, .bool t205, .int .i64 t206]), (23, .tuple #[.agg #[.bool t208, .bool t209, .bool t210, .bool t211, .bool t212, .int .i64 t213], .bool false]), (7, .pointer (some ⟨s_, 0, none⟩)), (16, .tuple #[.agg #[.bool t208, .bool t209, .bool t210, .bool t211, .bool t212, .int .i64 t213], .bool false]), (24, .agg #[.bool t208, .bool t209, .bool t210, .bool t211, .bool t212, .int .i64 t213]), (25, .bool false)]) (fun s_ w' => (w'.cell? (ad207.add (x6_1).toNat) = some (.int .i64 (rd l1 x6_1))) ∧ (Kd.R (Kd.int .i64) 2 w' w.heap.size (fun _ => True) u5 x5_1) ∧ (w'.heap[s_]? = some (.cells #[.bool false, .bool false, .bool false, .bool false, .bool false, .int .i64 0] 23 (0, 0))) ∧ (w.heap.size ≤ s_) ∧ (w.heap.size ≤ s_) ∧ (Below w.heap.size w w')) ?_ ?_
       rotate_left
       ·intro hCont
        refine two_ (i := 1) (j := 10) (Ni := some 18) (Nj := some 7) m13_1f80 m13_1784 rfl rfl rfl rfl (two_of HT_.out zr) (by decide) (by decide) (fun K hK => ?_) (fun K hK => ?_)
        ·skip
         refine goes_ Try.func48 zr rfl #[.int .i64 a0] (by rfl) rfl rfl zm ?_
         with_reducible refine (spec_l25With.calls a0 t201 t202 t203 t204 t205 t206 _ A6.out).mono ?_
         rintro e w28 ⟨rfl, hb⟩
         refine ⟨_, rfl, ?_⟩
         replace HO_5 := jA (jP (zo HO_5) hb)
         replace HB := zS0 HB hb
         (try clear hb)
         (try clear hb2)
         (try clear hk)
         (try clear hi)
         refine hK.out _ _ ((zx HB hw207_0)) (fun hHeld => ?_)
         clear hK K
         refine norm_ (a' := ?_) ?_ ?_
         rotate_left
         ·show Act.put _ (some 18) _ = _
          simp only [Act.put, jD, jE, jF, i64_w, i32_w]
          rfl
         refine two_ (i := 6) (j := 10) (Ni := some 23) (Nj := some 7) m13_1fc0 m13_1f84 rfl rfl rfl rfl (two_of HT_.out zr) (by decide) (by decide) (fun K hK => ?_) (fun K hK => ?_)
         ·skip
          refine goes_ Try.func87 zr rfl #[.agg #[.bool t201, .bool t202, .bool t203, .bool t204, .bool t205, .int .i64 t206], .int .i64 (rd l1 x6_1)] (by rfl) rfl rfl zm ?_
          with_reducible refine (spec_l21Give.calls t201 t202 t203 t204 t205 t206 (rd l1 x6_1) t208 t209 t210 t211 t212 t213 false _ A8.out).mono ?_
          rintro e w29 ⟨rfl, hb⟩
          refine ⟨_, rfl, ?_⟩
          replace HO_5 := jA (jP (zo HO_5) hb)
          replace HB := zS0 HB hb
          (try clear hb)
          (try clear hb2)
          (try clear hk)
          (try clear hi)
          refine hK.out _ _ ((zx HB hw207_0)) (fun hHeld => ?_)
          clear hK K
          refine norm_ (a' := ?_) ?_ ?_
          rotate_left
          ·show Act.put _ (some 23) _ = _
           simp only [Act.put, jD, jE, jF, i64_w, i32_w]
           rfl
          refine zp HT_ 7 16 m13_1fe0 ?_
          refine zp HT_ 8 24 m13_1ff0 ?_
          refine zp HT_ 9 25 m13_1ff8 ?_
          refine one_ (i := 10) (N := some 7) m13_1ffc rfl rfl (one_of HT_.out zr) (by decide) (fun K hK => ?_)
          refine box_step ?hg (N := 7) ?hd (cs := #[.bool false, .bool false, .bool false, .bool false, .bool false, .int .i64 0]) (t := 23) ?hr ?_; (case hd => rfl); (case hg => rfl); (case hr => first | (go_simp; done) | (go_simp; rfl))
          intro gb215 hg w30 hbox hb
          replace HO_5 := jA (jP (zo HO_5) hb)
          have BK215 := jA (hbox)
          have GW215 := zg0 hg HB
          have GE215 := zg0 hg HB
          replace HB := zS0 HB hb
          clear hb hbox hg
          refine hK.out _ _ ((zx HB hw207_0)) (fun hHeld => ?_)
          clear hK K
          refine norm_ (a' := ?_) ?_ ?_
          rotate_left
          ·show Act.put _ (some 7) _ = _
           simp only [Act.put, jD, jE, jF, i64_w, i32_w]
           rfl
          exact norm_ (by simp only [putAll, Act.put, jD, jE, jF]) (hCont (gb215) _ ⟨hHeld, (zo HO_5), (zk BK215), GW215.out, GE215.out, (zb1 HB GE215)⟩)
         ·skip
          refine box_step ?hg (N := 7) ?hd (cs := #[.bool false, .bool false, .bool false, .bool false, .bool false, .int .i64 0]) (t := 23) ?hr ?_; (case hd => rfl); (case hg => rfl); (case hr => first | (go_simp; done) | (go_simp; rfl))
          intro gb215 hg w29 hbox hb
          replace HO_5 := jA (jP (zo HO_5) hb)
          have BK215 := jA (hbox)
          have GW215 := zg0 hg HB
          have GE215 := zg0 hg HB
          replace HB := zS0 HB hb
          clear hb hbox hg
          refine hK.out _ _ ((zx HB hw207_0)) (fun hHeld => ?_)
          clear hK K
          refine norm_ (a' := ?_) ?_ ?_
          rotate_left
          ·show Act.put _ (some 7) _ = _
           simp only [Act.put, jD, jE, jF, i64_w, i32_w]
           rfl
          refine one_ (i := 6) (N := some 23) m13_1fc4 rfl rfl (one_of HT_.out zr) (by decide) (fun K hK => ?_)
          refine goes_ Try.func87 zr rfl #[.agg #[.bool t201, .bool t202, .bool t203, .bool t204, .bool t205, .int .i64 t206], .int .i64 (rd l1 x6_1)] (by rfl) rfl rfl zm ?_
          with_reducible refine (spec_l21Give.calls t201 t202 t203 t204 t205 t206 (rd l1 x6_1) t208 t209 t210 t211 t212 t213 false _ A8.out).mono ?_
          rintro e w30 ⟨rfl, hb⟩
          refine ⟨_, rfl, ?_⟩
          replace HO_5 := jA (jP (zo HO_5) hb)
          replace BK215 := zB BK215 hb
          replace HB := zS1 HB GE215 hb
          (try clear hb)
          (try clear hb2)
          (try clear hk)
          (try clear hi)
          refine hK.out _ _ ((zx HB hw207_0)) (fun hHeld => ?_)
          clear hK K
          refine norm_ (a' := ?_) ?_ ?_
          rotate_left
          ·show Act.put _ (some 23) _ = _
           simp only [Act.put, jD, jE, jF, i64_w, i32_w]
           rfl
          refine zp HT_ 7 16 m13_1fe4 ?_
          refine zp HT_ 8 24 m13_1ff4 ?_
          refine zp HT_ 9 25 m13_1ffc ?_
          exact norm_ (by simp only [putAll, Act.put, jD, jE, jF]) (hCont (gb215) _ ⟨hHeld, (zo HO_5), (zk BK215), GW215.out, GE215.out, (zb1 HB GE215)⟩)
        ·skip
         refine box_step ?hg (N := 7) ?hd (cs := #[.bool false, .bool false, .bool false, .bool false, .bool false, .int .i64 0]) (t := 23) ?hr ?_; (case hd => rfl); (case hg => rfl); (case hr => first | (go_simp; done) | (go_simp; rfl))
         intro gb215 hg w28 hbox hb
         replace HO_5 := jA (jP (zo HO_5) hb)
         have BK215 := jA (hbox)
         have GW215 := zg0 hg HB
         have GE215 := zg0 hg HB
         replace HB := zS0 HB hb
         clear hb hbox hg
         refine hK.out _ _ ((zx HB hw207_0)) (fun hHeld => ?_)
         clear hK K
         refine norm_ (a' := ?_) ?_ ?_
         rotate_left
         ·show Act.put _ (some 7) _ = _
          simp only [Act.put, jD, jE, jF, i64_w, i32_w]
          rfl
         refine one_ (i := 1) (N := some 18) m13_1f84 rfl rfl (one_of HT_.out zr) (by decide) (fun K hK => ?_)
         refine goes_ Try.func48 zr rfl #[.int .i64 a0] (by rfl) rfl rfl zm ?_
         with_reducible refine (spec_l25With.calls a0 t201 t202 t203 t204 t205 t206 _ A6.out).mono ?_
         rintro e w29 ⟨rfl, hb⟩
         refine ⟨_, rfl, ?_⟩
         replace HO_5 := jA (jP (zo HO_5) hb)
         replace BK215 := zB BK215 hb
         replace HB := zS1 HB GE215 hb
         (try clear hb)
         (try clear hb2)
         (try clear hk)
         (try clear hi)
         refine hK.out _ _ ((zx HB hw207_0)) (fun hHeld => ?_)
         clear hK K
         refine norm_ (a' := ?_) ?_ ?_
         rotate_left
         ·show Act.put _ (some 18) _ = _
          simp only [Act.put, jD, jE, jF, i64_w, i32_w]
          rfl
         refine one_ (i := 6) (N := some 23) m13_1fc4 rfl rfl (one_of HT_.out zr) (by decide) (fun K hK => ?_)
         refine goes_ Try.func87 zr rfl #[.agg #[.bool t201, .bool t202, .bool t203, .bool t204, .bool t205, .int .i64 t206], .int .i64 (rd l1 x6_1)] (by rfl) rfl rfl zm ?_
         with_reducible refine (spec_l21Give.calls t201 t202 t203 t204 t205 t206 (rd l1 x6_1) t208 t209 t210 t211 t212 t213 false _ A8.out).mono ?_
         rintro e w30 ⟨rfl, hb⟩
         refine ⟨_, rfl, ?_⟩
         replace HO_5 := jA (jP (zo HO_5) hb)
         replace BK215 := zB BK215 hb
         replace HB := zS1 HB GE215 hb
         (try clear hb)
         (try clear hb2)
         (try clear hk)
         (try clear hi)
         refine hK.out _ _ ((zx HB hw207_0)) (fun hHeld => ?_)
         clear hK K
         refine norm_ (a' := ?_) ?_ ?_
         rotate_left
         ·show Act.put _ (some 23) _ = _
          simp only [Act.put, jD, jE, jF, i64_w, i32_w]
          rfl
         refine zp HT_ 7 16 m13_1fe4 ?_
         refine zp HT_ 8 24 m13_1ff4 ?_
         refine zp HT_ 9 25 m13_1ffc ?_
         exact norm_ (by simp only [putAll, Act.put, jD, jE, jF]) (hCont (gb215) _ ⟨hHeld, (zo HO_5), (zk BK215), GW215.out, GE215.out, (zb1 HB GE215)⟩)
       rintro gb215 w31 ⟨hS_, h0_, h1_, h2_, h3_, h4_⟩
       replace HO_5 : Aside0 (Kd.R (Kd.int .i64) 2 w31 w.heap.size (fun _ => True) u5 x5_1) := ⟨h0_⟩
       have BK215 : Aside0 (w31.heap[gb215]? = some (.cells #[.bool false, .bool false, .bool false, .bool false, .bool false, .int .i64 0] 23 (0, 0))) := ⟨h1_⟩
       have GW215 : Aside0 (w.heap.size ≤ gb215) := ⟨h2_⟩
       have GE215 : Aside0 (w.heap.size ≤ gb215) := ⟨h3_⟩
       replace HB : Aside0 (Below w.heap.size w w31) := ⟨h4_⟩
       clear h0_ h1_ h2_ h3_ h4_
       have hHeld : w31.cell? (ad207.add (x6_1).toNat) = some (.int .i64 (rd l1 x6_1)) := hS_
       refine norm_ (a' := ?_) ?_ ?_
       rotate_left
       ·simp only [putAll, Act.put, jD, jE, jF]
        rfl
       refine one_ (i := 11) (N := none) m13_1ffe rfl rfl (one_of HT_.out zr) (by decide) (fun K hK => ?_)
       have hs32 : w31.cell? ⟨gb215, 0, none⟩ = some (.bool false) := (jL BK215.out 0).trans rfl
       have hfs32 := jW BK215.out 0
       have hs33 : w31.cell? ⟨gb215, 1, none⟩ = some (.bool false) := (jL BK215.out 1).trans rfl
       have hfs33 := jW BK215.out 1
       have hs34 : w31.cell? ⟨gb215, 2, none⟩ = some (.bool false) := (jL BK215.out 2).trans rfl
       have hfs34 := jW BK215.out 2
       have hs35 : w31.cell? ⟨gb215, 3, none⟩ = some (.bool false) := (jL BK215.out 3).trans rfl
       have hfs35 := jW BK215.out 3
       have hs36 : w31.cell? ⟨gb215, 4, none⟩ = some (.bool false) := (jL BK215.out 4).trans rfl
       have hfs36 := jW BK215.out 4
       have hs37 : w31.cell? ⟨gb215, 5, none⟩ = some (.int .i64 0) := (jL BK215.out 5).trans rfl
       have hfs37 := jW BK215.out 5
       refine skip_ (w1 := ?_) (by rfl) rfl ?_ ?_
       rotate_left
       ·go_simp
        rfl
       refine hK.out _ _ (((jM (p := ⟨gb215, _, none⟩) (by first | exact zd hw207_0 GW215 | (rw [jV]; exact zd hw207_0 GW215) | (show (Addr.add _ _).block ≠ _; rw [jV]; exact zd hw207_0 GW215) | (dsimp only; exact zd hw207_0 GW215)) _).trans (((jM (p := ⟨gb215, _, none⟩) (by first | exact zd hw207_0 GW215 | (rw [jV]; exact zd hw207_0 GW215) | (show (Addr.add _ _).block ≠ _; rw [jV]; exact zd hw207_0 GW215) | (dsimp only; exact zd hw207_0 GW215)) _).trans (((jM (p := ⟨gb215, _, none⟩) (by first | exact zd hw207_0 GW215 | (rw [jV]; exact zd hw207_0 GW215) | (show (Addr.add _ _).block ≠ _; rw [jV]; exact zd hw207_0 GW215) | (dsimp only; exact zd hw207_0 GW215)) _).trans (((jM (p := ⟨gb215, _, none⟩) (by first | exact zd hw207_0 GW215 | (rw [jV]; exact zd hw207_0 GW215) | (show (Addr.add _ _).block ≠ _; rw [jV]; exact zd hw207_0 GW215) | (dsimp only; exact zd hw207_0 GW215)) _).trans (((jM (p := ⟨gb215, _, none⟩) (by first | exact zd hw207_0 GW215 | (rw [jV]; exact zd hw207_0 GW215) | (show (Addr.add _ _).block ≠ _; rw [jV]; exact zd hw207_0 GW215) | (dsimp only; exact zd hw207_0 GW215)) _).trans (((jM (p := ⟨gb215, _, none⟩) (by first | exact zd hw207_0 GW215 | (rw [jV]; exact zd hw207_0 GW215) | (show (Addr.add _ _).block ≠ _; rw [jV]; exact zd hw207_0 GW215) | (dsimp only; exact zd hw207_0 GW215)) _).trans (hHeld))))))))))))) (fun hHeld => ?_)
       clear hK K
       refine zp HT_ 12 8 m13_1fff ?_
       refine done_ (done_of HT_.out zr) ?_
       try go_wp2_with (first | ((with_reducible refine gate_builtin (b := .append) (xs := #[.tmp 32, .tmp 33]) rfl ?_); at_builtin; refine Kd.R_append (Kd.int .i64) (w0 := w) w.heap.size rfl (.tmp 32) (.tmp 33) 35 2 (.int .i64 0) 8 rfl Try.underlying35 info2 rfl (by decide) (by omega) u5 x5_1 (-1) [.int .i64 (-1)] (fun _ => True) (fun _ => False) rfl (by first | (go_simp; done) | (go_simp; rfl)) ?aP (fun _ hk => hk.elim) ?aF ?aO ?aB ?aS ?aL ?_; (case aP => exact rfl); (case aB => exact (zb1 HB GE215)); (case aF => exact (fun _ _ => trivial)); (case aO => exact (zT HO_5 BK215)); (case aS => exact (jT (zb1 HB GE215))); (case aL => have := LMc26.out; omega); intro v221 w38 ho hb hg hat; rw [← Ny220.out] at ho; replace BK215 := jA (blk_grown (g := gb215) (o := .cells #[.bool t208, .bool t209, .bool t210, .bool t211, .bool t212, .int .i64 t213] 23 (0, 0)) (zP0 BK215) hg (Kd.R_ne HO_5.out BK215.out (by decide))); replace HB := jA (hb); have HO222 := jA (ho); clear HO_5; clear ho hb hg hat))
       go_roundg k1
       case measure => have := HK1.out; omega
       case rel => exact ⟨(y220), (wrap64 (x6_1 + 1)), zz, H', ⟨by have := HK1.out; omega⟩, ⟨zo HO222⟩, ⟨zb1 HB GE215⟩⟩
      ·rw [if_neg c26] at H
       exact absurd H (by simp)
    ·rw [if_neg c7] at H
     exact absurd H (by simp)
   ·rw [if_neg c5] at H
    have c5b0 : decide (x6_1 < (l1.length : Int)) = false := jS c5
    clear c5
    obtain rfl := jN H
    go_wp2
    go_ret
    exact ⟨_, ze, zo HO_5, zb0 HB⟩

end Go.Proofs.Ythieppjmjgijfaa.PFnProofs
