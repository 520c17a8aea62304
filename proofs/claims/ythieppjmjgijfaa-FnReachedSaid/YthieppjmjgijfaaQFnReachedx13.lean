/- Functions and contracts that FnReached reaches (14 of 22). -/
import Derived.Test.YthieppjmjgijfaaQFnReachedx12
namespace Go.Proofs.Ythieppjmjgijfaa.PFnReached
open Go.RowKit Go.Proofs.YthieppjmjgijfaaW.PrintWords Go.Proofs.YthieppjmjgijfaaW.PrintLast Go.Proofs.YthieppjmjgijfaaW.PrintMore
attribute [local go_sem] max2_int min2_int max_two min_two max_three min_three max_four min_four   -- for this text's walks alone
set_option linter.unusedVariables false
set_option linter.unusedSimpArgs false

/-! ### spec_l21Inputs: function 82 -/
mutual
def spec_l21Inputs.j0 : Nat → List Int → List Int → Int → Int → Option (List Int × Int × Int)
 | 0, _, _, _, _ => none
 | k + 1, x3, x1000, x1001, x1002 => (spec_l01Next.f x1000 x1001 x1002 8).bind fun bt431 => (spec_l21Inputs.l0 k x3 bt431.1 x1000 bt431.2.1 bt431.2.2)
def spec_l21Inputs.l0 : Nat → List Int → Int → List Int → Int → Int → Option (List Int × Int × Int)
 | 0, _, _, _, _, _ => none
 | k + 1, x3, x4, x1000, x1001, x1002 => if x4 > 0 then ((spec_l01Next.f x1000 x1001 x1002 10).bind fun bt434 => ((spec_l01Pick.f x1000 bt434.2.1 bt434.2.2 (([bt434.1, 7, 8, 8, 4, 5, 2] : List Int))).bind fun bt440 => (if x3.length < 17592186044416 then (spec_l21Inputs.l0 k (x3 ++ [bt440.1]) (wrap64 (x4 - 1)) x1000 bt440.2.1 bt440.2.2) else (none)))) else ((spec_l01Next.f x1000 x1001 x1002 40).bind fun bt446 => (if bt446.1 = 0 then ((spec_l01Pick.f x1000 bt446.2.1 bt446.2.2 (([(-1), 10] : List Int))).bind fun bt452 => (if x3.length < 17592186044416 then (some ((x3 ++ [bt452.1]), bt452.2.1, bt452.2.2)) else (none))) else (if bt446.1 = 1 then ((spec_l01Next.f x1000 bt446.2.1 bt446.2.2 2).bind fun bt458 => (if 0 ≤ (wrap64 (60 + bt458.1)) then (if (wrap64 (60 + bt458.1) : Int).toNat ≤ 35184372088832 then (some ((List.replicate (wrap64 (60 + bt458.1) : Int).toNat 0), bt458.2.1, bt458.2.2)) else (none)) else (none))) else (some (x3, bt446.2.1, bt446.2.2)))))
end
def spec_l21Inputs.f (k : Nat) (s0_0 : List Int) (s0_1 : Int) (s0_2 : Int) : Option (List Int × Int × Int) := (some (([] : List Int) : List Int)).bind fun y419 => ((spec_l01Next.f s0_0 s0_1 s0_2 2).bind fun bt422 => (if bt422.1 = 0 then ((some (([0, 1, 2] : List Int) : List Int)).bind fun y425 => (if y419.length + y425.length < 17592186044416 then (spec_l21Inputs.j0 k (y419 ++ y425) s0_0 bt422.2.1 bt422.2.2) else (none))) else (spec_l21Inputs.j0 k y419 s0_0 bt422.2.1 bt422.2.2)))
theorem spec_l21Inputs.mono_l : ∀ k, (∀ y0 y1 y2 y3, LeO (spec_l21Inputs.j0 k y0 y1 y2 y3) (spec_l21Inputs.j0 (k + 1) y0 y1 y2 y3)) ∧ (∀ y0 y1 y2 y3 y4, LeO (spec_l21Inputs.l0 k y0 y1 y2 y3 y4) (spec_l21Inputs.l0 (k + 1) y0 y1 y2 y3 y4))
 | 0 => ⟨fun _ _ _ _ r h => by simp [spec_l21Inputs.j0] at h, fun _ _ _ _ _ r h => by simp [spec_l21Inputs.l0] at h⟩
 | k + 1 => by
  obtain ⟨ih0, ih1⟩ := spec_l21Inputs.mono_l k
  refine ⟨?_, ?_⟩
  ·intro y0 y1 y2 y3
   unfold spec_l21Inputs.j0
   repeat' first
   | (with_reducible exact ih0 _ _ _ _)
   | (with_reducible exact ih1 _ _ _ _ _)
   | (with_reducible exact LeO.refl _)
   | (with_reducible exact LeO.none _)
   | (with_reducible refine LeO.ite ?_ ?_)
   | (with_reducible refine LeO.bind ?_ (fun _ => ?_))
   | exact ih0 _ _ _ _
   | exact ih1 _ _ _ _ _
   | exact LeO.none _
   | refine LeO.ite ?_ ?_
   | refine LeO.bind ?_ (fun _ => ?_)
  ·intro y0 y1 y2 y3 y4
   unfold spec_l21Inputs.l0
   repeat' first
   | (with_reducible exact ih0 _ _ _ _)
   | (with_reducible exact ih1 _ _ _ _ _)
   | (with_reducible exact LeO.refl _)
   | (with_reducible exact LeO.none _)
   | (with_reducible refine LeO.ite ?_ ?_)
   | (with_reducible refine LeO.bind ?_ (fun _ => ?_))
   | exact ih0 _ _ _ _
   | exact ih1 _ _ _ _ _
   | exact LeO.none _
   | refine LeO.ite ?_ ?_
   | refine LeO.bind ?_ (fun _ => ?_)
theorem spec_l21Inputs.mono : ∀ a0 a1 a2 k, LeO (spec_l21Inputs.f k a0 a1 a2) (spec_l21Inputs.f (k + 1) a0 a1 a2) := by
 intro a0 a1 a2 k
 obtain ⟨ih0, ih1⟩ := spec_l21Inputs.mono_l k
 unfold spec_l21Inputs.f
 repeat' first
   | (with_reducible exact ih0 _ _ _ _)
   | (with_reducible exact ih1 _ _ _ _ _)
   | (with_reducible exact LeO.refl _)
   | (with_reducible exact LeO.none _)
   | (with_reducible refine LeO.ite ?_ ?_)
   | (with_reducible refine LeO.bind ?_ (fun _ => ?_))
   | exact ih0 _ _ _ _
   | exact ih1 _ _ _ _ _
   | exact LeO.none _
   | refine LeO.ite ?_ ?_
   | refine LeO.bind ?_ (fun _ => ?_)
set_option maxHeartbeats 8000000 in
set_option maxRecDepth 100000 in
theorem spec_l21Inputs.calls (k : Nat) (g : Nat) (s0_0 : List Int) (s0_1 : Int) (s0_2 : Int) (r1 : List Int) (r2 : Int) (r3 : Int) (w0 w : World) (hI : IsS95 w0 w g s0_0 s0_1 s0_2) (hB : Below w0.heap.size w0 w) (h : spec_l21Inputs.f k s0_0 s0_1 s0_2 = some (r1, r2, r3)) :
  Calls Try.prog 82 #[.pointer (some ⟨g, 0, none⟩)] w fun e w' => ∃ v0_ : Value, e = .returned (v0_) ∧ Kd.R (Kd.int .i64) 2 w' w.heap.size (fun _ => True) v0_ r1 ∧ IsS95 w0 w' g s0_0 r2 r3 ∧ Below w0.heap.size w0 w' ∧ KeepBut w w' g none := by
 have HI0 := jA hI
 have HK := jA (KeepBut.refl w g none)
 have HL := jA hB.size
 clear hI
 have HW0 := jA hB.size
 have HB := jA hB
 clear hB
 have H := h
 unfold spec_l21Inputs.f at H
 clear h
 obtain ⟨y419, hy419⟩ : ∃ y_ : List Int, y_ = (([] : List Int)) := ⟨_, rfl⟩
 replace H : ((spec_l01Next.f s0_0 s0_1 s0_2 2).bind fun bt422 => (if bt422.1 = 0 then ((some (([0, 1, 2] : List Int) : List Int)).bind fun y425 => (if y419.length + y425.length < 17592186044416 then (spec_l21Inputs.j0 k (y419 ++ y425) s0_0 bt422.2.1 bt422.2.2) else (none))) else (spec_l21Inputs.j0 k y419 s0_0 bt422.2.1 bt422.2.2))) = some (r1, r2, r3) := by first | (rw [hy419]; with_reducible exact H) | (have H2_ := (Option.bind_some _ _).symm.trans H; rw [hy419]; with_reducible exact H2_) | (have H2_ := (Option.bind_some _ _).symm.trans H; with_reducible exact H2_) | with_reducible exact H | (rw [hy419]; exact H) | exact H
 have Ny419 := jA hy419
 clear hy419
 replace H := jD.mp H
 obtain ⟨⟨t422, t423, t424⟩, A20, H⟩ := H
 try dsimp only at H
 have A2 := jA A20
 clear A20
 have HC3 := jA H
 clear H
 go_enter Try.func82, Try.ntmps82
 go_upto_if 8 with (first | ((with_reducible refine jK (N := 5) rfl ?_); refine Kd.R_lit (Kd.int .i64) _ 2 ?hg (N := 5) ?hd (xs := ([] : List Int)) (inner := []) (ok := fun _ => True) (okp := fun _ => True) ?hr ?hp (fun _ hk => hk) trivial (Below.refl _ _) (Nat.le_refl _) (by simp) ?_; (case hd => rfl); (case hg => rfl); (case hr => first | (go_simp; done) | (go_simp; rfl)); (case hp => exact (Reps.none _ _)); intro v420 w4 ho5 hb hg_ hnew_; clear hg_ hnew_; (first | rw [← Ny419.out] at ho5 | (simp only [Int.reduceToNat] at ho5; rw [← Ny419.out] at ho5)); have HO421 := jA (jZ ho5 (keep_size (w := w) (g := g) (row := none) (zh0 HK))); replace HK := jA (KeepBut.trans (zh0 HK) (KeepBut.of_below hb g none) (.inl rfl)); replace HB := jA (below_step (zr4 HB HI0) hb); replace HI0 := jA (IsS95.below (zr3 HI0) hb); clear hb ho5) | ((with_reducible refine jH (f := 62) rfl ?_); refine zL (some 7) Try.func62 #[.pointer (some ⟨g, 0, none⟩), .int .i64 2] ?_; (with_reducible refine (spec_l01Next.calls g s0_0 s0_1 s0_2 2 t422 t423 t424 w0 _ ?side1 ?side2 A2.out).mono ?_); (case side1 => exact zr3 HI0); (case side2 => exact zr4 HB HI0); rintro e w6 ⟨rfl, hi, hb, hk⟩; refine ⟨_, rfl, ?_⟩; replace HO421 := jA (Kd.R_mono (Kd.R_keep (IsS95.apart (show IsS95 w0 _ g s0_0 s0_1 s0_2 from zr3 HI0) (zo HO421) (by decide)) hk (fun _ h => h.2)) (fun _ h => h.1)); replace HK := jA (KeepBut.trans (zh0 HK) hk (.inl rfl)); replace HB := jA (hb); replace HI0 := jA (hi); (try clear hb); (try clear hb2); (try clear hk); (try clear hi)))
 (try simp only [Act.put, jC, jE, jF])
 go_cut [3] (fun v3 wc => ∃ (kq : Nat) (x3_2 : List Int), Aside0 (spec_l21Inputs.j0 kq x3_2 s0_0 t423 t424 = some (r1, r2, r3)) ∧ Aside0 (kq ≤ k) ∧ Aside0 (Kd.R (Kd.int .i64) 2 wc w.heap.size (fun _ => True) v3 x3_2) ∧ Aside0 (IsS95 w0 wc g s0_0 t423 t424) ∧ Aside0 (KeepBut w wc g none) ∧ Aside0 (Below w0.heap.size w0 wc))
 case first =>
  have H := HC3.out
  clear HC3
  by_cases c7 : t422 = 0
  ·rw [if_pos c7] at H
   have c7b0 : (t422 == 0) = true := beq_iff_eq.mpr c7
   have c7b1 : (t422 != 0) = false := bne_eq_false_iff_eq.mpr c7
   clear c7
   (first | rw [c7b0] | (simp only [i64_w, i32_w]; rw [c7b0]) | skip)
   obtain ⟨y425, hy425⟩ : ∃ y_ : List Int, y_ = (([0, 1, 2] : List Int)) := ⟨_, rfl⟩
   replace H : (if y419.length + y425.length < 17592186044416 then (spec_l21Inputs.j0 k (y419 ++ y425) s0_0 t423 t424) else (none)) = some (r1, r2, r3) := by first | (rw [hy425]; with_reducible exact H) | (have H2_ := (Option.bind_some _ _).symm.trans H; rw [hy425]; with_reducible exact H2_) | (have H2_ := (Option.bind_some _ _).symm.trans H; with_reducible exact H2_) | with_reducible exact H | (rw [hy425]; exact H) | exact H
   have Ny425 := jA hy425
   clear hy425
   by_cases c8 : y419.length + y425.length < 17592186044416
   ·rw [if_pos c8] at H
    have LMc8 := jA c8
    clear c8
    obtain ⟨y428, hy428⟩ : ∃ y_ : List Int, y_ = (y419 ++ y425) := ⟨_, rfl⟩
    replace H : (spec_l21Inputs.j0 k y428 s0_0 t423 t424) = some (r1, r2, r3) := by first | (rw [hy428]; with_reducible exact H) | (have H2_ := (Option.bind_some _ _).symm.trans H; rw [hy428]; with_reducible exact H2_) | (have H2_ := (Option.bind_some _ _).symm.trans H; with_reducible exact H2_) | with_reducible exact H | (rw [hy428]; exact H) | exact H
    have Ny428 := jA hy428
    clear hy428
    have H' := jA H
    clear H
    go_wp2_with (first | ((with_reducible refine jK (N := 10) rfl ?_); refine Kd.R_lit (Kd.int .i64) _ 2 ?hg (N := 10) ?hd (xs := ([0, 1, 2] : List Int)) (inner := [.int .i64 0, .int .i64 1, .int .i64 2]) (ok := fun _ => True) (okp := fun _ => True) ?hr ?hp (fun _ hk => hk) trivial (Below.refl _ _) (Nat.le_refl _) (by simp) ?_; (case hd => rfl); (case hg => rfl); (case hr => first | (go_simp; done) | (go_simp; rfl)); (case hp => exact (Reps.one (show Kd.M (Kd.int .i64) _ _ _ 0 [.int .i64 0] from rfl) (Reps.one (show Kd.M (Kd.int .i64) _ _ _ 1 [.int .i64 1] from rfl) (Reps.one (show Kd.M (Kd.int .i64) _ _ _ 2 [.int .i64 2] from rfl) (Reps.none _ _))))); intro v426 w9 ho10 hb hg_ hnew_; clear hg_ hnew_; (first | rw [← Ny425.out] at ho10 | (simp only [Int.reduceToNat] at ho10; rw [← Ny425.out] at ho10)); have HO427 := jA (jZ (Kd.R_new' ho10 (Kd.R_lt (zo HO421))) (keep_size (w := w) (g := g) (row := none) (zh0 HK))); replace HO421 := jA (Kd.R_elder' (zo HO421) (Kd.R_base ho10) hb); replace HK := jA (KeepBut.trans (zh0 HK) (KeepBut.of_below hb g none) (.inl rfl)); replace HB := jA (below_step (zr4 HB HI0) hb); replace HI0 := jA (IsS95.below (zr3 HI0) hb); clear hb ho10; obtain ⟨Ao12, co12, eo12⟩ := Kd.R_slice HO427.out; subst eo12) | ((with_reducible refine gate_builtin (b := .append) (xs := #[.tmp 9, .tmp 10]) rfl ?_); at_builtin; refine Kd.R_append_rows (Kd.int .i64) w.heap.size rfl (.tmp 9) (.tmp 10) 35 2 (.int .i64 0) 8 rfl Try.underlying35 info2 rfl (by decide) (by omega) v420 y419 y425 _ _ _ (fun k_ => some k_ ≠ (.slice Ao12 y425.length co12 : Value).ownBlock) (fun _ => False) rfl rfl ?aO ?aR (fun _ _ h => h) (fun _ h => h.elim) ?aF (Below.refl _ _) ?aS ?aL ?_; (case aR => repeat (first | exact (jO HO427.out).2.2 | (with_reducible refine Kd.C_alloc ?_ _) | (with_reducible refine Kd.C_drewN ?_ _) | (with_reducible refine Kd.C_drew ?_))); (case aF => exact (fun k_ hk => Kd.fresh' (Kd.R_lt (zo HO427)) k_ hk)); (case aO => exact (by (with_reducible repeat (first | apply jV | apply jU | apply jS)); exact Kd.R_mono HO421.out (fun _ hk => hk.2))); (case aS => exact (keep_size (w := w) (g := g) (row := none) (zh0 HK))); (case aL => have := LMc8.out; omega); intro v429 w11 ho hb hg hat; rw [← Ny428.out] at ho; replace HO427 := jA (Kd.R_after (ok := (fun _ => True)) (zo HO427) hg hat); replace HB := jA (below_weaken (zr4 HB HI0) HL.out hb); replace HI0 := jA (IsS95.grown (zr3 HI0) hg (IsS95.own_ne HI0.out HO421.out (by decide))); replace HK := jA (KeepBut.trans (zh0 HK) (KeepBut.of_grown hg g) (Kd.R_base2 HO421.out)); have HO430 := jA (ho); clear HO421; clear ho hb hg hat))
    go_meet
    case rel => exact ⟨_, (y428), H', ⟨by first | omega | exact Nat.le_refl _⟩, ⟨by (with_reducible repeat (first | apply jV | apply jU | apply jS)); exact Kd.R_mono HO430.out (fun _ hk => trivial)⟩, ⟨zr3 HI0⟩, ⟨zh0 HK⟩, ⟨zr4 HB HI0⟩⟩
   ·rw [if_neg c8] at H
    exact absurd H (by simp)
  ·rw [if_neg c7] at H
   have c7b0 : (t422 == 0) = false := beq_eq_false_iff_ne.mpr c7
   have c7b1 : (t422 != 0) = true := bne_iff_ne.mpr c7
   (first | rw [c7b0] | (simp only [i64_w, i32_w]; rw [c7b0]) | skip)
   have H' := jA H
   clear H
   go_wp2
   go_meet
   case rel => exact ⟨_, (y419), H', ⟨by first | omega | exact Nat.le_refl _⟩, ⟨zo HO421⟩, ⟨zr3 HI0⟩, ⟨zh0 HK⟩, ⟨zr4 HB HI0⟩⟩
 case rest =>
  clear HC3
  try clear p2
  try clear c6
  try clear c7
  try clear c7b0
  try clear c7b1
  try clear c8
  obtain ⟨kq, x3_2, HA, HJ2, HO_3, HI0, HK, HB⟩ := hcut
  cases kq with
  | zero => exact absurd HA.out (by simp [spec_l21Inputs.j0])
  | succ kj2 =>
   have H := HA.out
   clear HA
   simp only [spec_l21Inputs.j0] at H
   replace H := jD.mp H
   obtain ⟨⟨t431, t432, t433⟩, A130, H⟩ := H
   try dsimp only at H
   have A13 := jA A130
   clear A130
   have H' := jA H
   clear H
   go_wp2_with (first | ((with_reducible refine jH (f := 62) rfl ?_); refine zL (some 13) Try.func62 #[.pointer (some ⟨g, 0, none⟩), .int .i64 8] ?_; (with_reducible refine (spec_l01Next.calls g s0_0 t423 t424 8 t431 t432 t433 w0 _ ?side1 ?side2 A13.out).mono ?_); (case side1 => exact zr3 HI0); (case side2 => exact zr4 HB HI0); rintro e w14 ⟨rfl, hi, hb, hk⟩; refine ⟨_, rfl, ?_⟩; replace HO_3 := jA (Kd.R_mono (Kd.R_keep (IsS95.apart (show IsS95 w0 _ g s0_0 t423 t424 from zr3 HI0) (zo HO_3) (by decide)) hk (fun _ h => h.2)) (fun _ h => h.1)); replace HK := jA (KeepBut.trans (zh0 HK) hk (.inl rfl)); replace HB := jA (hb); replace HI0 := jA (hi); (try clear hb); (try clear hb2); (try clear hk); (try clear hi)))
   go_loopg [3, 4] kj2 (fun kq v3 v4 w' => ∃ (x3_2 : List Int) (x4_2 : Int) (x1001_2 : Int) (x1002_2 : Int), v4 = .int .i64 x4_2 ∧ Aside0 (spec_l21Inputs.l0 kq x3_2 x4_2 s0_0 x1001_2 x1002_2 = some (r1, r2, r3)) ∧ Aside0 (kq ≤ kj2) ∧ Aside0 (Kd.R (Kd.int .i64) 2 w' w.heap.size (fun _ => True) v3 x3_2) ∧ Aside0 (IsS95 w0 w' g s0_0 x1001_2 x1002_2) ∧ Aside0 (KeepBut w w' g none) ∧ Aside0 (Below w0.heap.size w0 w'))
   case atStart => exact ⟨(x3_2), (t431), (t432), (t433), zz, H', ⟨Nat.le_refl _⟩, ⟨zo HO_3⟩, ⟨zr3 HI0⟩, ⟨zh0 HK⟩, ⟨zr4 HB HI0⟩⟩
   case round =>
    clear H'
    try clear p2
    try clear c6
    try clear c7
    try clear c7b0
    try clear c7b1
    try clear c8
    try clear p2
    obtain ⟨x3_2, x4_2, x1001_2, x1002_2, rfl, HA, HK2, HO_3, HI0, HK, HB⟩ := hrel
    cases gk with
    | zero => exact absurd HA.out (by simp [spec_l21Inputs.l0])
    | succ k2 =>
     have H := HA.out
     clear HA
     simp only [spec_l21Inputs.l0] at H
     by_cases c15 : x4_2 > 0
     ·rw [if_pos c15] at H
      have c15b0 : decide (0 < x4_2) = true := jJ c15
      clear c15
      replace H := jD.mp H
      obtain ⟨⟨t434, t435, t436⟩, A160, H⟩ := H
      replace H : ((spec_l01Pick.f s0_0 t435 t436 (([t434, 7, 8, 8, 4, 5, 2] : List Int))).bind fun bt440 => (if x3_2.length < 17592186044416 then (spec_l21Inputs.l0 k2 (x3_2 ++ [bt440.1]) (wrap64 (x4_2 - 1)) s0_0 bt440.2.1 bt440.2.2) else (none))) = some (r1, r2, r3) := H
      have A16 := jA A160
      clear A160
      obtain ⟨y437, hy437⟩ : ∃ y_ : List Int, y_ = (([t434, 7, 8, 8, 4, 5, 2] : List Int)) := ⟨_, rfl⟩
      replace H : ((spec_l01Pick.f s0_0 t435 t436 y437).bind fun bt440 => (if x3_2.length < 17592186044416 then (spec_l21Inputs.l0 k2 (x3_2 ++ [bt440.1]) (wrap64 (x4_2 - 1)) s0_0 bt440.2.1 bt440.2.2) else (none))) = some (r1, r2, r3) := by first | (rw [hy437]; with_reducible exact H) | (have H2_ := (Option.bind_some _ _).symm.trans H; rw [hy437]; with_reducible exact H2_) | (have H2_ := (Option.bind_some _ _).symm.trans H; with_reducible exact H2_) | with_reducible exact H | (rw [hy437]; exact H) | exact H
      have Ny437 := jA hy437
      clear hy437
      replace H := jD.mp H
      obtain ⟨⟨t440, t441, t442⟩, A170, H⟩ := H
      replace H : (if x3_2.length < 17592186044416 then (spec_l21Inputs.l0 k2 (x3_2 ++ [t440]) (wrap64 (x4_2 - 1)) s0_0 t441 t442) else (none)) = some (r1, r2, r3) := H
      have A17 := jA A170
      clear A170
      by_cases c18 : x3_2.length < 17592186044416
      ·rw [if_pos c18] at H
       have LMc18 := jA c18
       clear c18
       obtain ⟨y443, hy443⟩ : ∃ y_ : List Int, y_ = (x3_2 ++ [t440]) := ⟨_, rfl⟩
       replace H : (spec_l21Inputs.l0 k2 y443 (wrap64 (x4_2 - 1)) s0_0 t441 t442) = some (r1, r2, r3) := by first | (rw [hy443]; with_reducible exact H) | (have H2_ := (Option.bind_some _ _).symm.trans H; rw [hy443]; with_reducible exact H2_) | (have H2_ := (Option.bind_some _ _).symm.trans H; with_reducible exact H2_) | with_reducible exact H | (rw [hy443]; exact H) | exact H
       have Ny443 := jA hy443
       clear hy443
       have H' := jA H
       clear H
       go_wp2_with (first | ((with_reducible refine jH (f := 62) rfl ?_); refine zL (some 21) Try.func62 #[.pointer (some ⟨g, 0, none⟩), .int .i64 10] ?_; (with_reducible refine (spec_l01Next.calls g s0_0 x1001_2 x1002_2 10 t434 t435 t436 w0 _ ?side1 ?side2 A16.out).mono ?_); (case side1 => exact zr3 HI0); (case side2 => exact zr4 HB HI0); rintro e w19 ⟨rfl, hi, hb, hk⟩; refine ⟨_, rfl, ?_⟩; replace HO_3 := jA (Kd.R_mono (Kd.R_keep (IsS95.apart (show IsS95 w0 _ g s0_0 x1001_2 x1002_2 from zr3 HI0) (zo HO_3) (by decide)) hk (fun _ h => h.2)) (fun _ h => h.1)); replace HK := jA (KeepBut.trans (zh0 HK) hk (.inl rfl)); replace HB := jA (hb); replace HI0 := jA (hi); (try clear hb); (try clear hb2); (try clear hk); (try clear hi)) | ((with_reducible refine jK (N := 22) rfl ?_); refine Kd.R_lit (Kd.int .i64) _ 2 ?hg (N := 22) ?hd (xs := ([t434, 7, 8, 8, 4, 5, 2] : List Int)) (inner := [.int .i64 t434, .int .i64 7, .int .i64 8, .int .i64 8, .int .i64 4, .int .i64 5, .int .i64 2]) (ok := fun _ => True) (okp := fun _ => True) ?hr ?hp (fun _ hk => hk) trivial (Below.refl _ _) (Nat.le_refl _) (by simp) ?_; (case hd => rfl); (case hg => rfl); (case hr => first | (go_simp; done) | (go_simp; rfl)); (case hp => exact (Reps.one (show Kd.M (Kd.int .i64) _ _ _ t434 [.int .i64 t434] from rfl) (Reps.one (show Kd.M (Kd.int .i64) _ _ _ 7 [.int .i64 7] from rfl) (Reps.one (show Kd.M (Kd.int .i64) _ _ _ 8 [.int .i64 8] from rfl) (Reps.one (show Kd.M (Kd.int .i64) _ _ _ 8 [.int .i64 8] from rfl) (Reps.one (show Kd.M (Kd.int .i64) _ _ _ 4 [.int .i64 4] from rfl) (Reps.one (show Kd.M (Kd.int .i64) _ _ _ 5 [.int .i64 5] from rfl) (Reps.one (show Kd.M (Kd.int .i64) _ _ _ 2 [.int .i64 2] from rfl) (Reps.none _ _))))))))); intro v438 w20 ho21 hb hg_ hnew_; clear hg_ hnew_; (first | rw [← Ny437.out] at ho21 | (simp only [Int.reduceToNat] at ho21; rw [← Ny437.out] at ho21)); have HO439 := jA (jZ (Kd.R_new' ho21 (Kd.R_lt (zo HO_3))) (keep_size (w := w) (g := g) (row := none) (zh0 HK))); replace HO_3 := jA (Kd.R_elder' (zo HO_3) (Kd.R_base ho21) hb); replace HK := jA (KeepBut.trans (zh0 HK) (KeepBut.of_below hb g none) (.inl rfl)); replace HB := jA (below_step (zr4 HB HI0) hb); replace HI0 := jA (IsS95.below (zr3 HI0) hb); clear hb ho21; obtain ⟨Ao22, co22, eo22⟩ := Kd.R_slice HO439.out; subst eo22) | ((with_reducible refine jH (f := 61) rfl ?_); refine zL (some 23) Try.func61 #[.pointer (some ⟨g, 0, none⟩), .slice Ao22 y437.length co22] ?_; (with_reducible refine (spec_l01Pick.calls g s0_0 t435 t436 _ _ y437 t440 t441 t442 w0 _ ?side1 ?side2 ?side3 ?side4 ?side5 A17.out).mono ?_); (case side1 => exact zr3 HI0); (case side2 => exact zr4 HB HI0); (case side3 => exact zv HO439); (case side4 => exact (jO HO439.out).2.1); (case side5 => exact far_slice (IsS95.own_ne HI0.out HO439.out (by decide))); rintro e w23 ⟨rfl, hi, hb, hk⟩; refine ⟨_, rfl, ?_⟩; replace HO_3 := jA (Kd.R_mono (Kd.R_keep (IsS95.apart (show IsS95 w0 _ g s0_0 t435 t436 from zr3 HI0) (zo HO_3) (by decide)) hk (fun _ h => h.2)) (fun _ h => h.1)); replace HO439 := jA (Kd.R_mono (Kd.R_keep (IsS95.apart (show IsS95 w0 _ g s0_0 t435 t436 from zr3 HI0) (zo HO439) (by decide)) hk (fun _ h => h.2)) (fun _ h => h.1)); replace HK := jA (KeepBut.trans (zh0 HK) hk (.inl rfl)); replace HB := jA (hb); replace HI0 := jA (hi); (try clear hb); (try clear hb2); (try clear hk); (try clear hi)) | ((with_reducible refine gate_builtin (b := .append) (xs := #[.tmp 18, .tmp 24]) rfl ?_); at_builtin; refine Kd.R_append (Kd.int .i64) w.heap.size rfl (.tmp 18) (.tmp 24) 35 2 (.int .i64 0) 8 rfl Try.underlying35 info2 rfl (by decide) (by omega) u3 x3_2 t440 [.int .i64 t440] (fun k_ => some k_ ≠ (.slice Ao22 y437.length co22 : Value).ownBlock) (fun _ => False) rfl rfl ?aP (fun _ hk => hk.elim) ?aF ?aO (Below.refl _ _) ?aS ?aL ?_; (case aP => exact rfl); (case aF => exact (fun k_ hk => Kd.fresh' (Kd.R_lt (zo HO439)) k_ hk)); (case aO => exact (by (with_reducible repeat (first | apply jV | apply jU | apply jS)); exact Kd.R_mono HO_3.out (fun _ hk => hk.2))); (case aS => exact (keep_size (w := w) (g := g) (row := none) (zh0 HK))); (case aL => have := LMc18.out; omega); intro v444 w24 ho hb hg hat; rw [← Ny443.out] at ho; replace HO439 := jA (Kd.R_after (ok := (fun _ => True)) (zo HO439) hg hat); replace HB := jA (below_weaken (zr4 HB HI0) HL.out hb); replace HI0 := jA (IsS95.grown (zr3 HI0) hg (IsS95.own_ne HI0.out HO_3.out (by decide))); replace HK := jA (KeepBut.trans (zh0 HK) (KeepBut.of_grown hg g) (Kd.R_base2 HO_3.out)); have HO445 := jA (ho); clear HO_3; clear ho hb hg hat))
       go_roundg k2
       case measure => have := HJ2.out; have := HK2.out; omega
       case rel => exact ⟨(y443), (wrap64 (x4_2 - 1)), (t441), (t442), zz, H', ⟨by have := HJ2.out; have := HK2.out; omega⟩, ⟨by (with_reducible repeat (first | apply jV | apply jU | apply jS)); exact Kd.R_mono HO445.out (fun _ hk => trivial)⟩, ⟨zr3 HI0⟩, ⟨zh0 HK⟩, ⟨zr4 HB HI0⟩⟩
      ·rw [if_neg c18] at H
       exact absurd H (by simp)
     ·rw [if_neg c15] at H
      have c15b0 : decide (0 < x4_2) = false := jW c15
      clear c15
      replace H := jD.mp H
      obtain ⟨⟨t446, t447, t448⟩, A250, H⟩ := H
      try dsimp only at H
      have A25 := jA A250
      clear A250
      by_cases c26 : t446 = 0
      ·rw [if_pos c26] at H
       have c26b0 : (t446 == 0) = true := beq_iff_eq.mpr c26
       have c26b1 : (t446 != 0) = false := bne_eq_false_iff_eq.mpr c26
       clear c26
       obtain ⟨y449, hy449⟩ : ∃ y_ : List Int, y_ = (([(-1), 10] : List Int)) := ⟨_, rfl⟩
       replace H : ((spec_l01Pick.f s0_0 t447 t448 y449).bind fun bt452 => (if x3_2.length < 17592186044416 then (some ((x3_2 ++ [bt452.1]), bt452.2.1, bt452.2.2)) else (none))) = some (r1, r2, r3) := by first | (rw [hy449]; with_reducible exact H) | (have H2_ := (Option.bind_some _ _).symm.trans H; rw [hy449]; with_reducible exact H2_) | (have H2_ := (Option.bind_some _ _).symm.trans H; with_reducible exact H2_) | with_reducible exact H | (rw [hy449]; exact H) | exact H
       have Ny449 := jA hy449
       clear hy449
       replace H := jD.mp H
       obtain ⟨⟨t452, t453, t454⟩, A270, H⟩ := H
       try dsimp only at H
       have A27 := jA A270
       clear A270
       by_cases c28 : x3_2.length < 17592186044416
       ·rw [if_pos c28] at H
        have LMc28 := jA c28
        clear c28
        obtain ⟨y455, hy455⟩ : ∃ y_ : List Int, y_ = (x3_2 ++ [t452]) := ⟨_, rfl⟩
        replace H : (some (y455, t453, t454)) = some (r1, r2, r3) := by first | (rw [hy455]; with_reducible exact H) | (have H2_ := (Option.bind_some _ _).symm.trans H; rw [hy455]; with_reducible exact H2_) | (have H2_ := (Option.bind_some _ _).symm.trans H; with_reducible exact H2_) | with_reducible exact H | (rw [hy455]; exact H) | exact H
        have Ny455 := jA hy455
        clear hy455
        simp only [jI, jM] at H
        obtain ⟨rfl, rfl, rfl⟩ := H
        go_wp2_with (first | ((with_reducible refine jH (f := 62) rfl ?_); refine zL (some 27) Try.func62 #[.pointer (some ⟨g, 0, none⟩), .int .i64 40] ?_; (with_reducible refine (spec_l01Next.calls g s0_0 x1001_2 x1002_2 40 t446 t447 t448 w0 _ ?side1 ?side2 A25.out).mono ?_); (case side1 => exact zr3 HI0); (case side2 => exact zr4 HB HI0); rintro e w29 ⟨rfl, hi, hb, hk⟩; refine ⟨_, rfl, ?_⟩; replace HO_3 := jA (Kd.R_mono (Kd.R_keep (IsS95.apart (show IsS95 w0 _ g s0_0 x1001_2 x1002_2 from zr3 HI0) (zo HO_3) (by decide)) hk (fun _ h => h.2)) (fun _ h => h.1)); replace HK := jA (KeepBut.trans (zh0 HK) hk (.inl rfl)); replace HB := jA (hb); replace HI0 := jA (hi); (try clear hb); (try clear hb2); (try clear hk); (try clear hi)) | ((with_reducible refine jK (N := 32) rfl ?_); refine Kd.R_lit (Kd.int .i64) _ 2 ?hg (N := 32) ?hd (xs := ([(-1), 10] : List Int)) (inner := [.int .i64 (-1), .int .i64 10]) (ok := fun _ => True) (okp := fun _ => True) ?hr ?hp (fun _ hk => hk) trivial (Below.refl _ _) (Nat.le_refl _) (by simp) ?_; (case hd => rfl); (case hg => rfl); (case hr => first | (go_simp; done) | (go_simp; rfl)); (case hp => exact (Reps.one (show Kd.M (Kd.int .i64) _ _ _ (-1) [.int .i64 (-1)] from rfl) (Reps.one (show Kd.M (Kd.int .i64) _ _ _ 10 [.int .i64 10] from rfl) (Reps.none _ _)))); intro v450 w30 ho31 hb hg_ hnew_; clear hg_ hnew_; (first | rw [← Ny449.out] at ho31 | (simp only [Int.reduceToNat] at ho31; rw [← Ny449.out] at ho31)); have HO451 := jA (jZ (Kd.R_new' ho31 (Kd.R_lt (zo HO_3))) (keep_size (w := w) (g := g) (row := none) (zh0 HK))); replace HO_3 := jA (Kd.R_elder' (zo HO_3) (Kd.R_base ho31) hb); replace HK := jA (KeepBut.trans (zh0 HK) (KeepBut.of_below hb g none) (.inl rfl)); replace HB := jA (below_step (zr4 HB HI0) hb); replace HI0 := jA (IsS95.below (zr3 HI0) hb); clear hb ho31; obtain ⟨Ao32, co32, eo32⟩ := Kd.R_slice HO451.out; subst eo32) | ((with_reducible refine jH (f := 61) rfl ?_); refine zL (some 33) Try.func61 #[.pointer (some ⟨g, 0, none⟩), .slice Ao32 y449.length co32] ?_; (with_reducible refine (spec_l01Pick.calls g s0_0 t447 t448 _ _ y449 t452 t453 t454 w0 _ ?side1 ?side2 ?side3 ?side4 ?side5 A27.out).mono ?_); (case side1 => exact zr3 HI0); (case side2 => exact zr4 HB HI0); (case side3 => exact zv HO451); (case side4 => exact (jO HO451.out).2.1); (case side5 => exact far_slice (IsS95.own_ne HI0.out HO451.out (by decide))); rintro e w33 ⟨rfl, hi, hb, hk⟩; refine ⟨_, rfl, ?_⟩; replace HO_3 := jA (Kd.R_mono (Kd.R_keep (IsS95.apart (show IsS95 w0 _ g s0_0 t447 t448 from zr3 HI0) (zo HO_3) (by decide)) hk (fun _ h => h.2)) (fun _ h => h.1)); replace HO451 := jA (Kd.R_mono (Kd.R_keep (IsS95.apart (show IsS95 w0 _ g s0_0 t447 t448 from zr3 HI0) (zo HO451) (by decide)) hk (fun _ h => h.2)) (fun _ h => h.1)); replace HK := jA (KeepBut.trans (zh0 HK) hk (.inl rfl)); replace HB := jA (hb); replace HI0 := jA (hi); (try clear hb); (try clear hb2); (try clear hk); (try clear hi)) | ((with_reducible refine gate_builtin (b := .append) (xs := #[.tmp 30, .tmp 34]) rfl ?_); at_builtin; refine Kd.R_append (Kd.int .i64) w.heap.size rfl (.tmp 30) (.tmp 34) 35 2 (.int .i64 0) 8 rfl Try.underlying35 info2 rfl (by decide) (by omega) u3 x3_2 t452 [.int .i64 t452] (fun k_ => some k_ ≠ (.slice Ao32 y449.length co32 : Value).ownBlock) (fun _ => False) rfl rfl ?aP (fun _ hk => hk.elim) ?aF ?aO (Below.refl _ _) ?aS ?aL ?_; (case aP => exact rfl); (case aF => exact (fun k_ hk => Kd.fresh' (Kd.R_lt (zo HO451)) k_ hk)); (case aO => exact (by (with_reducible repeat (first | apply jV | apply jU | apply jS)); exact Kd.R_mono HO_3.out (fun _ hk => hk.2))); (case aS => exact (keep_size (w := w) (g := g) (row := none) (zh0 HK))); (case aL => have := LMc28.out; omega); intro v456 w34 ho hb hg hat; rw [← Ny455.out] at ho; replace HO451 := jA (Kd.R_after (ok := (fun _ => True)) (zo HO451) hg hat); replace HB := jA (below_weaken (zr4 HB HI0) HL.out hb); replace HI0 := jA (IsS95.grown (zr3 HI0) hg (IsS95.own_ne HI0.out HO_3.out (by decide))); replace HK := jA (KeepBut.trans (zh0 HK) (KeepBut.of_grown hg g) (Kd.R_base2 HO_3.out)); have HO457 := jA (ho); clear HO_3; clear ho hb hg hat))
        go_ret
        exact ⟨_, ze, by (with_reducible repeat (first | apply jV | apply jU | apply jS)); exact Kd.R_mono HO457.out (fun _ hk => trivial), zr3 HI0, zr4 HB HI0, zh0 HK⟩
       ·rw [if_neg c28] at H
        exact absurd H (by simp)
      ·rw [if_neg c26] at H
       have c26b0 : (t446 == 0) = false := beq_eq_false_iff_ne.mpr c26
       have c26b1 : (t446 != 0) = true := bne_iff_ne.mpr c26
       by_cases c35 : t446 = 1
       ·rw [if_pos c35] at H
        have c35b0 : (t446 == 1) = true := beq_iff_eq.mpr c35
        have c35b1 : (t446 != 1) = false := bne_eq_false_iff_eq.mpr c35
        clear c35
        replace H := jD.mp H
        obtain ⟨⟨t458, t459, t460⟩, A360, H⟩ := H
        try dsimp only at H
        have A36 := jA A360
        clear A360
        obtain ⟨ji37, hji37⟩ : ∃ j_ : Int, (wrap64 (60 + t458)) = j_ := ⟨_, rfl⟩
        replace H : (if 0 ≤ (ji37) then (if (ji37 : Int).toNat ≤ 35184372088832 then (some ((List.replicate (ji37 : Int).toNat 0), t459, t460)) else (none)) else (none)) = some (r1, r2, r3) := by first | (rw [hji37] at H; exact H) | (simp only [hji37] at H ⊢; exact H)
        (try rw [hji37] at A25)
        (try rw [hji37] at A36)
        have hji37w : (IntKind.i64.wrap (60 + t458)) = ji37 := (i64_w _).trans hji37
        by_cases c38 : 0 ≤ (ji37)
        ·rw [if_pos c38] at H
         have c38b0 := eq_true c38
         have c38b1 : decide (0 ≤ (ji37)) = true := jJ c38
         clear c38
         by_cases c39 : (ji37 : Int).toNat ≤ 35184372088832
         ·rw [if_pos c39] at H
          have c39b0 := eq_true c39
          have c39b1 : decide ((ji37 : Int).toNat ≤ 35184372088832) = true := jJ c39
          clear c39
          obtain ⟨y461, hy461⟩ : ∃ y_ : List Int, y_ = (List.replicate (ji37 : Int).toNat 0) := ⟨_, rfl⟩
          replace H : (some (y461, t459, t460)) = some (r1, r2, r3) := by first | (rw [hy461]; with_reducible exact H) | (have H2_ := (Option.bind_some _ _).symm.trans H; rw [hy461]; with_reducible exact H2_) | (have H2_ := (Option.bind_some _ _).symm.trans H; with_reducible exact H2_) | with_reducible exact H | (rw [hy461]; exact H) | exact H
          have Ny461 := jA hy461
          clear hy461
          simp only [jI, jM] at H
          obtain ⟨rfl, rfl, rfl⟩ := H
          go_wp2_with (first | ((with_reducible refine jH (f := 62) rfl ?_); refine zL (some 27) Try.func62 #[.pointer (some ⟨g, 0, none⟩), .int .i64 40] ?_; (with_reducible refine (spec_l01Next.calls g s0_0 x1001_2 x1002_2 40 t446 t447 t448 w0 _ ?side1 ?side2 A25.out).mono ?_); (case side1 => exact zr3 HI0); (case side2 => exact zr4 HB HI0); rintro e w40 ⟨rfl, hi, hb, hk⟩; refine ⟨_, rfl, ?_⟩; replace HO_3 := jA (Kd.R_mono (Kd.R_keep (IsS95.apart (show IsS95 w0 _ g s0_0 x1001_2 x1002_2 from zr3 HI0) (zo HO_3) (by decide)) hk (fun _ h => h.2)) (fun _ h => h.1)); replace HK := jA (KeepBut.trans (zh0 HK) hk (.inl rfl)); replace HB := jA (hb); replace HI0 := jA (hi); (try clear hb); (try clear hb2); (try clear hk); (try clear hi)) | ((with_reducible refine jH (f := 62) rfl ?_); refine zL (some 39) Try.func62 #[.pointer (some ⟨g, 0, none⟩), .int .i64 2] ?_; (with_reducible refine (spec_l01Next.calls g s0_0 t447 t448 2 t458 t459 t460 w0 _ ?side1 ?side2 A36.out).mono ?_); (case side1 => exact zr3 HI0); (case side2 => exact zr4 HB HI0); rintro e w41 ⟨rfl, hi, hb, hk⟩; refine ⟨_, rfl, ?_⟩; replace HO_3 := jA (Kd.R_mono (Kd.R_keep (IsS95.apart (show IsS95 w0 _ g s0_0 t447 t448 from zr3 HI0) (zo HO_3) (by decide)) hk (fun _ h => h.2)) (fun _ h => h.1)); replace HK := jA (KeepBut.trans (zh0 HK) hk (.inl rfl)); replace HB := jA (hb); replace HI0 := jA (hi); (try clear hb); (try clear hb2); (try clear hk); (try clear hi)) | ((with_reducible refine jK (N := 41) rfl ?_); refine Kd.R_make (Kd.int .i64) _ 2 rfl (N := 41) rfl 35 _ _ rfl ji37 rfl rfl Try.underlying35 (.int .i64 0) 8 info2 rfl (by decide) (by omega) 0 (ok := fun _ => True) (okp := fun _ => True) rfl (fun _ hk => hk) trivial (jB za) (Nat.le_trans (Nat.mul_le_mul_right _ (jB za : ji37.toNat ≤ 35184372088832)) (by omega)) (Below.refl _ _) (Nat.le_refl _) ?_; intro v462 w42 ho43 hb hg_ hnew_; clear hg_ hnew_; (first | rw [← Ny461.out] at ho43 | (simp only [Int.reduceToNat] at ho43; rw [← Ny461.out] at ho43)); have HO463 := jA (jZ (Kd.R_new' ho43 (Kd.R_lt (zo HO_3))) (keep_size (w := w) (g := g) (row := none) (zh0 HK))); replace HO_3 := jA (Kd.R_elder' (zo HO_3) (Kd.R_base ho43) hb); replace HK := jA (KeepBut.trans (zh0 HK) (KeepBut.of_below hb g none) (.inl rfl)); replace HB := jA (below_step (zr4 HB HI0) hb); replace HI0 := jA (IsS95.below (zr3 HI0) hb); clear hb ho43))
          go_ret
          exact ⟨_, by first | rfl | (simp [errW_none, errW_some] <;> rfl) | (simp only [← hji37]; first | rfl | (simp [errW_none, errW_some] <;> rfl)) | (simp [*, errW_none, errW_some] <;> rfl), by (with_reducible repeat (first | apply jV | apply jU | apply jS)); exact Kd.R_mono HO463.out (fun _ hk => trivial), zr3 HI0, zr4 HB HI0, zh0 HK⟩
         ·rw [if_neg c39] at H
          exact absurd H (by simp)
        ·rw [if_neg c38] at H
         exact absurd H (by simp)
       ·rw [if_neg c35] at H
        have c35b0 : (t446 == 1) = false := beq_eq_false_iff_ne.mpr c35
        have c35b1 : (t446 != 1) = true := bne_iff_ne.mpr c35
        simp only [jI, jM] at H
        obtain ⟨rfl, rfl, rfl⟩ := H
        go_wp2_with (first | ((with_reducible refine jH (f := 62) rfl ?_); refine zL (some 27) Try.func62 #[.pointer (some ⟨g, 0, none⟩), .int .i64 40] ?_; (with_reducible refine (spec_l01Next.calls g s0_0 x1001_2 x1002_2 40 t446 t447 t448 w0 _ ?side1 ?side2 A25.out).mono ?_); (case side1 => exact zr3 HI0); (case side2 => exact zr4 HB HI0); rintro e w44 ⟨rfl, hi, hb, hk⟩; refine ⟨_, rfl, ?_⟩; replace HO_3 := jA (Kd.R_mono (Kd.R_keep (IsS95.apart (show IsS95 w0 _ g s0_0 x1001_2 x1002_2 from zr3 HI0) (zo HO_3) (by decide)) hk (fun _ h => h.2)) (fun _ h => h.1)); replace HK := jA (KeepBut.trans (zh0 HK) hk (.inl rfl)); replace HB := jA (hb); replace HI0 := jA (hi); (try clear hb); (try clear hb2); (try clear hk); (try clear hi)))
        go_ret
        exact ⟨_, ze, zo HO_3, zr3 HI0, zr4 HB HI0, zh0 HK⟩

/-! ### spec_l21Good: function 63 -/
def spec_l21Good.f (k : Nat) (s0_0 : List Int) (s0_1 : Int) (s0_2 : Int) : Option (Bool × Bool × Bool × Bool × Bool × Int × Int × Int) := (spec_l21Inputs.f k s0_0 s0_1 s0_2).bind fun bt465 => ((spec_GiveInputs.f k false false false false false 0 bt465.1).bind fun bt470 => (some (bt470.1, bt470.2.1, bt470.2.2.1, bt470.2.2.2.1, bt470.2.2.2.2.1, bt470.2.2.2.2.2.1, bt465.2.1, bt465.2.2)))
theorem spec_l21Good.mono : ∀ a0 a1 a2 k, LeO (spec_l21Good.f k a0 a1 a2) (spec_l21Good.f (k + 1) a0 a1 a2) := by
 intro a0 a1 a2 k
 unfold spec_l21Good.f
 repeat' first
   | (with_reducible exact spec_GiveInputs.mono _ _ _ _ _ _ _ _)
   | (with_reducible exact spec_l21Inputs.mono _ _ _ _)
   | (with_reducible exact LeO.refl _)
   | (with_reducible exact LeO.none _)
   | (with_reducible refine LeO.ite ?_ ?_)
   | (with_reducible refine LeO.bind ?_ (fun _ => ?_))
   | exact spec_GiveInputs.mono _ _ _ _ _ _ _ _
   | exact spec_l21Inputs.mono _ _ _ _
   | exact LeO.none _
   | refine LeO.ite ?_ ?_
   | refine LeO.bind ?_ (fun _ => ?_)
set_option maxHeartbeats 8000000 in
set_option maxRecDepth 100000 in
theorem spec_l21Good.calls (k : Nat) (g : Nat) (s0_0 : List Int) (s0_1 : Int) (s0_2 : Int) (r1 : Bool) (r2 : Bool) (r3 : Bool) (r4 : Bool) (r5 : Bool) (r6 : Int) (r7 : Int) (r8 : Int) (w0 w : World) (hI : IsS95 w0 w g s0_0 s0_1 s0_2) (hB : Below w0.heap.size w0 w) (h : spec_l21Good.f k s0_0 s0_1 s0_2 = some (r1, r2, r3, r4, r5, r6, r7, r8)) :
  Calls Try.prog 63 #[.pointer (some ⟨g, 0, none⟩)] w fun e w' => e = .returned (.agg #[.bool r1, .bool r2, .bool r3, .bool r4, .bool r5, .int .i64 r6]) ∧ IsS95 w0 w' g s0_0 r7 r8 ∧ Below w0.heap.size w0 w' ∧ KeepBut w w' g none := by
 have hu23 := Try.underlying23
 have HI0 := jA hI
 have HK := jA (KeepBut.refl w g none)
 have HL := jA hB.size
 clear hI
 have HW0 := jA hB.size
 have HB := jA hB
 clear hB
 have H := h
 unfold spec_l21Good.f at H
 clear h
 replace H := jD.mp H
 obtain ⟨⟨t465, t468, t469⟩, A20, H⟩ := H
 try dsimp only at H
 have A2 := jA A20
 clear A20
 replace H := jD.mp H
 obtain ⟨⟨t470, t471, t472, t473, t474, t475, t476, t477⟩, A30, H⟩ := H
 try dsimp only at H
 have A3 := jA A30
 clear A30
 simp only [jI, jM] at H
 obtain ⟨rfl, rfl, rfl, rfl, rfl, rfl, rfl, rfl⟩ := H
 go_enter Try.func63, Try.ntmps63
 go_wp2_with (first | ((with_reducible refine jK (N := 2) rfl ?_); refine zE 2 #[.bool false, .bool false, .bool false, .bool false, .bool false, .int .i64 0] 23 ?_; intro gb464 hg w4 hbox hb; replace HB := jA (below_step (zr4 HB HI0) hb); have BK464 := jA (hbox); have GW464 := jA ((by rw [hg]; exact (keep_size (w := w) (g := g) (row := none) (zh0 HK)) : w.heap.size ≤ gb464)); have GE464 := jA ((Nat.le_trans HW0.out (by rw [hg]; exact (keep_size (w := w) (g := g) (row := none) (zh0 HK)) : w.heap.size ≤ gb464) : w0.heap.size ≤ gb464)); replace HK := jA (KeepBut.trans (zh0 HK) (KeepBut.of_below hb g none) (.inl rfl)); have NB0_464 := jA ((by rw [hg]; exact Nat.ne_of_lt (IsS95.lt (show IsS95 w0 _ g s0_0 s0_1 s0_2 from zr3 HI0)) : g ≠ gb464)); have NB464_0 := jA ((by rw [hg]; exact Nat.ne_of_gt (IsS95.lt (show IsS95 w0 _ g s0_0 s0_1 s0_2 from zr3 HI0)) : gb464 ≠ g)); replace HI0 := jA (IsS95.below (zr3 HI0) hb); clear hb hbox hg) | ((with_reducible refine jH (f := 82) rfl ?_); refine zL (some 9) Try.func82 #[.pointer (some ⟨g, 0, none⟩)] ?_; (with_reducible refine (spec_l21Inputs.calls k g s0_0 s0_1 s0_2 t465 t468 t469 w0 _ ?side1 ?side2 A2.out).mono ?_); (case side1 => exact zr5 HI0 NB0_464); (case side2 => exact zr6 HB HI0 GE464); rintro e w5 ⟨v466, rfl, ho0, hi, hb, hk⟩; refine ⟨_, rfl, ?_⟩; replace BK464 := zK hk BK464 NB464_0; have HO467 := jA (jZ ho0 (keep_size (w := w) (g := g) (row := none) (zh1 HK GW464))); replace HK := jA (KeepBut.trans (zh1 HK GW464) hk (.inl rfl)); replace HB := jA (hb); replace HI0 := jA (hi); (try clear hb); (try clear hb2); (try clear hk); (try clear hi); (try clear ho0); obtain ⟨Ao6, co6, eo6⟩ := Kd.R_slice HO467.out; subst eo6) | ((with_reducible refine jH (f := 81) rfl ?_); refine zL (some 10) Try.func81 #[.agg #[.bool false, .bool false, .bool false, .bool false, .bool false, .int .i64 0], .slice Ao6 t465.length co6] ?_; (with_reducible refine (spec_GiveInputs.calls k false false false false false 0 _ _ t465 t470 t471 t472 t473 t474 t475 t476 t477 _ ?side1 ?side2 A3.out).mono ?_); (case side1 => exact zv HO467); (case side2 => exact (jO HO467.out).2.1); rintro e w7 ⟨rfl, hb⟩; refine ⟨_, rfl, ?_⟩; replace HO467 := jA (jQ (zo HO467) hb); replace BK464 := zB BK464 hb; replace HK := jA (KeepBut.trans (zh1 HK GW464) (KeepBut.of_below hb g none) (.inl rfl)); replace HB := jA (below_step (zr6 HB HI0 GE464) hb); replace HI0 := jA (IsS95.below (zr5 HI0 NB0_464) hb); clear hb) | ((with_reducible refine jK (N := 3) rfl ?_); refine zE 3 #[.bool false, .bool false, .bool false, .bool false, .bool false, .int .i64 0] 23 ?_; intro gb478 hg w8 hbox hb; replace HO467 := jA (jQ (zo HO467) hb); replace HB := jA (below_step (zr6 HB HI0 GE464) hb); have BK478 := jA (hbox); have GW478 := jA ((by rw [hg]; exact (keep_size (w := w) (g := g) (row := none) (zh1 HK GW464)) : w.heap.size ≤ gb478)); have GE478 := jA ((Nat.le_trans HW0.out (by rw [hg]; exact (keep_size (w := w) (g := g) (row := none) (zh1 HK GW464)) : w.heap.size ≤ gb478) : w0.heap.size ≤ gb478)); replace HK := jA (KeepBut.trans (zh1 HK GW464) (KeepBut.of_below hb g none) (.inl rfl)); have NB464_478 := zn hg BK464; replace BK464 := zB BK464 hb; have NB478_464 := jA NB464_478.out.symm; have NB0_478 := jA ((by rw [hg]; exact Nat.ne_of_lt (IsS95.lt (show IsS95 w0 _ g s0_0 t468 t469 from zr5 HI0 NB0_464)) : g ≠ gb478)); have NB478_0 := jA ((by rw [hg]; exact Nat.ne_of_gt (IsS95.lt (show IsS95 w0 _ g s0_0 t468 t469 from zr5 HI0 NB0_464)) : gb478 ≠ g)); replace HI0 := jA (IsS95.below (zr5 HI0 NB0_464) hb); clear hb hbox hg; have hnb9 := NB478_464.out; have hnc9 := NB464_478.out; have hnb10 := NB478_0.out; have hnc10 := NB0_478.out; have hcz11 := zc6 BK478; have hnb12 := NB464_0.out; have hnc12 := NB0_464.out; have hcz13 := zc6 BK464))
 refine jT (results_cell_row rfl _ _ gb464 23 #[.bool t470, .bool t471, .bool t472, .bool t473, .bool t474, .int .i64 t475] (0, 0) _ rfl (zP1 BK464 NB464_478) Try.underlying23 rfl zr) rfl ?_
 exact ⟨ze, zr7 HI0 NB0_464 NB0_478, zr8 HB HI0 GE464 GE478, zh2 HK GW464 GW478⟩

end Go.Proofs.Ythieppjmjgijfaa.PFnReached
