/- Functions and contracts that FnProofs reaches (10 of 22). -/
import Derived.Test.YthieppjmjgijfaaQFnProofsx8
namespace Go.Proofs.Ythieppjmjgijfaa.PFnProofs
open Go.RowKit Go.Proofs.YthieppjmjgijfaaW.PrintWords Go.Proofs.YthieppjmjgijfaaW.PrintLast Go.Proofs.YthieppjmjgijfaaW.PrintMore
attribute [local go_sem] max2_int min2_int max_two min_two max_three min_three max_four min_four   -- for this text's walks alone
set_option linter.unusedVariables false
set_option linter.unusedSimpArgs false

/-! ### spec_l21Inputs: function 82 -/
mutual
def spec_l21Inputs.j0 : Nat → List Int → List Int → Int → Int → Option (List Int × Int × Int)
 | 0, _, _, _, _ => none
 | k + 1, x3, x1000, x1001, x1002 => (spec_l01Next.f x1000 x1001 x1002 8).bind fun bt308 => (spec_l21Inputs.l0 k x3 bt308.1 x1000 bt308.2.1 bt308.2.2)
def spec_l21Inputs.l0 : Nat → List Int → Int → List Int → Int → Int → Option (List Int × Int × Int)
 | 0, _, _, _, _, _ => none
 | k + 1, x3, x4, x1000, x1001, x1002 => if x4 > 0 then ((spec_l01Next.f x1000 x1001 x1002 10).bind fun bt311 => ((spec_l01Pick.f x1000 bt311.2.1 bt311.2.2 (([bt311.1, 7, 8, 8, 4, 5, 2] : List Int))).bind fun bt317 => (if x3.length < 17592186044416 then (spec_l21Inputs.l0 k (x3 ++ [bt317.1]) (wrap64 (x4 - 1)) x1000 bt317.2.1 bt317.2.2) else (none)))) else ((spec_l01Next.f x1000 x1001 x1002 40).bind fun bt323 => (if bt323.1 = 0 then ((spec_l01Pick.f x1000 bt323.2.1 bt323.2.2 (([(-1), 10] : List Int))).bind fun bt329 => (if x3.length < 17592186044416 then (some ((x3 ++ [bt329.1]), bt329.2.1, bt329.2.2)) else (none))) else (if bt323.1 = 1 then ((spec_l01Next.f x1000 bt323.2.1 bt323.2.2 2).bind fun bt335 => (if 0 ≤ (wrap64 (60 + bt335.1)) then (if (wrap64 (60 + bt335.1) : Int).toNat ≤ 35184372088832 then (some ((List.replicate (wrap64 (60 + bt335.1) : Int).toNat 0), bt335.2.1, bt335.2.2)) else (none)) else (none))) else (some (x3, bt323.2.1, bt323.2.2)))))
end
def spec_l21Inputs.f (k : Nat) (s0_0 : List Int) (s0_1 : Int) (s0_2 : Int) : Option (List Int × Int × Int) := (some (([] : List Int) : List Int)).bind fun y296 => ((spec_l01Next.f s0_0 s0_1 s0_2 2).bind fun bt299 => (if bt299.1 = 0 then ((some (([0, 1, 2] : List Int) : List Int)).bind fun y302 => (if y296.length + y302.length < 17592186044416 then (spec_l21Inputs.j0 k (y296 ++ y302) s0_0 bt299.2.1 bt299.2.2) else (none))) else (spec_l21Inputs.j0 k y296 s0_0 bt299.2.1 bt299.2.2)))
theorem spec_l21Inputs.mono_l : ∀ k, (∀ y0 y1 y2 y3, LeO (spec_l21Inputs.j0 k y0 y1 y2 y3) (spec_l21Inputs.j0 (k + 1) y0 y1 y2 y3)) ∧ (∀ y0 y1 y2 y3 y4, LeO (spec_l21Inputs.l0 k y0 y1 y2 y3 y4) (spec_l21Inputs.l0 (k + 1) y0 y1 y2 y3 y4))
 | 0 => ⟨fun _ _ _ _ r h => by simp [spec_l21Inputs.j0] at h, fun _ _ _ _ _ r h => by simp [spec_l21Inputs.l0] at h⟩
 | k + 1 => by
  obtain ⟨ih0, ih1⟩ := spec_l21Inputs.mono_l k
  refine ⟨?_, ?_⟩
  ·intro y0 y1 y2 y3
   unfold spec_l21Inputs.j0
   repeat' first
   | (with_reducible exact ih0 _ _ _ _)
   | (with_reducible exact ih1 _ _ _ _ _)
   | (with_reducible exact LeO.refl _)
   | (with_reducible exact LeO.none _)
   | (with_reducible refine LeO.ite ?_ ?_)
   | (with_reducible refine LeO.bind ?_ (fun _ => ?_))
   | exact ih0 _ _ _ _
   | exact ih1 _ _ _ _ _
   | exact LeO.none _
   | refine LeO.ite ?_ ?_
   | refine LeO.bind ?_ (fun _ => ?_)
  ·intro y0 y1 y2 y3 y4
   unfold spec_l21Inputs.l0
   repeat' first
   | (with_reducible exact ih0 _ _ _ _)
   | (with_reducible exact ih1 _ _ _ _ _)
   | (with_reducible exact LeO.refl _)
   | (with_reducible exact LeO.none _)
   | (with_reducible refine LeO.ite ?_ ?_)
   | (with_reducible refine LeO.bind ?_ (fun _ => ?_))
   | exact ih0 _ _ _ _
   | exact ih1 _ _ _ _ _
   | exact LeO.none _
   | refine LeO.ite ?_ ?_
   | refine LeO.bind ?_ (fun _ => ?_)
theorem spec_l21Inputs.mono : ∀ a0 a1 a2 k, LeO (spec_l21Inputs.f k a0 a1 a2) (spec_l21Inputs.f (k + 1) a0 a1 a2) := by
 intro a0 a1 a2 k
 obtain ⟨ih0, ih1⟩ := spec_l21Inputs.mono_l k
 unfold spec_l21Inputs.f
 repeat' first
   | (with_reducible exact ih0 _ _ _ _)
   | (with_reducible exact ih1 _ _ _ _ _)
   | (with_reducible exact LeO.refl _)
   | (with_reducible exact LeO.none _)
   | (with_reducible refine LeO.ite ?_ ?_)
   | (with_reducible refine LeO.bind ?_ (fun _ => ?_))
   | exact ih0 _ _ _ _
   | exact ih1 _ _ _ _ _
   | exact LeO.none _
   | refine LeO.ite ?_ ?_
   | refine LeO.bind ?_ (fun _ => ?_)
set_option maxHeartbeats 8000000 in
set_option maxRecDepth 100000 in
theorem spec_l21Inputs.calls (k : Nat) (g : Nat) (s0_0 : List Int) (s0_1 : Int) (s0_2 : Int) (r1 : List Int) (r2 : Int) (r3 : Int) (w0 w : World) (hI : IsS95 w0 w g s0_0 s0_1 s0_2) (hB : Below w0.heap.size w0 w) (h : spec_l21Inputs.f k s0_0 s0_1 s0_2 = some (r1, r2, r3)) :
  Calls Try.prog 82 #[.pointer (some ⟨g, 0, none⟩)] w fun e w' => ∃ v0_ : Value, e = .returned (v0_) ∧ Kd.R (Kd.int .i64) 2 w' w.heap.size (fun _ => True) v0_ r1 ∧ IsS95 w0 w' g s0_0 r2 r3 ∧ Below w0.heap.size w0 w' ∧ KeepBut w w' g none := by
 have HI0 := jA hI
 have HK := jA (KeepBut.refl w g none)
 have HL := jA hB.size
 clear hI
 have HW0 := jA hB.size
 have HB := jA hB
 clear hB
 have H := h
 unfold spec_l21Inputs.f at H
 clear h
 obtain ⟨y296, hy296⟩ : ∃ y_ : List Int, y_ = (([] : List Int)) := ⟨_, rfl⟩
 replace H : ((spec_l01Next.f s0_0 s0_1 s0_2 2).bind fun bt299 => (if bt299.1 = 0 then ((some (([0, 1, 2] : List Int) : List Int)).bind fun y302 => (if y296.length + y302.length < 17592186044416 then (spec_l21Inputs.j0 k (y296 ++ y302) s0_0 bt299.2.1 bt299.2.2) else (none))) else (spec_l21Inputs.j0 k y296 s0_0 bt299.2.1 bt299.2.2))) = some (r1, r2, r3) := by first | (rw [hy296]; with_reducible exact H) | (have H2_ := (Option.bind_some _ _).symm.trans H; rw [hy296]; with_reducible exact H2_) | (have H2_ := (Option.bind_some _ _).symm.trans H; with_reducible exact H2_) | with_reducible exact H | (rw [hy296]; exact H) | exact H
 have Ny296 := jA hy296
 clear hy296
 replace H := jC.mp H
 obtain ⟨⟨t299, t300, t301⟩, A20, H⟩ := H
 try dsimp only at H
 have A2 := jA A20
 clear A20
 have HC3 := jA H
 clear H
 go_enter Try.func82, Try.ntmps82
 go_upto_if 8 with (first | ((with_reducible refine jJ (N := 5) rfl ?_); refine Kd.R_lit (Kd.int .i64) _ 2 ?hg (N := 5) ?hd (xs := ([] : List Int)) (inner := []) (ok := fun _ => True) (okp := fun _ => True) ?hr ?hp (fun _ hk => hk) trivial (Below.refl _ _) (Nat.le_refl _) (by simp) ?_; (case hd => rfl); (case hg => rfl); (case hr => first | (go_simp; done) | (go_simp; rfl)); (case hp => exact (Reps.none _ _)); intro v297 w4 ho5 hb hg_ hnew_; clear hg_ hnew_; (first | rw [← Ny296.out] at ho5 | (simp only [Int.reduceToNat] at ho5; rw [← Ny296.out] at ho5)); have HO298 := jA (jX ho5 (keep_size (w := w) (g := g) (row := none) (zh0 HK))); replace HK := jA (KeepBut.trans (zh0 HK) (KeepBut.of_below hb g none) (.inl rfl)); replace HB := jA (jY (zr4 HB HI0) hb); replace HI0 := jA (IsS95.below (zr3 HI0) hb); clear hb ho5) | ((with_reducible refine jG (f := 62) rfl ?_); refine zL (some 7) Try.func62 #[.pointer (some ⟨g, 0, none⟩), .int .i64 2] ?_; (with_reducible refine (spec_l01Next.calls g s0_0 s0_1 s0_2 2 t299 t300 t301 w0 _ ?side1 ?side2 A2.out).mono ?_); (case side1 => exact zr3 HI0); (case side2 => exact zr4 HB HI0); rintro e w6 ⟨rfl, hi, hb, hk⟩; refine ⟨_, rfl, ?_⟩; replace HO298 := jA (Kd.R_mono (Kd.R_keep (IsS95.apart (show IsS95 w0 _ g s0_0 s0_1 s0_2 from zr3 HI0) (zo HO298) (by decide)) hk (fun _ h => h.2)) (fun _ h => h.1)); replace HK := jA (KeepBut.trans (zh0 HK) hk (.inl rfl)); replace HB := jA (hb); replace HI0 := jA (hi); (try clear hb); (try clear hb2); (try clear hk); (try clear hi)))
 (try simp only [Act.put, jD, jE, jF])
 go_cut [3] (fun v3 wc => ∃ (kq : Nat) (x3_2 : List Int), Aside0 (spec_l21Inputs.j0 kq x3_2 s0_0 t300 t301 = some (r1, r2, r3)) ∧ Aside0 (kq ≤ k) ∧ Aside0 (Kd.R (Kd.int .i64) 2 wc w.heap.size (fun _ => True) v3 x3_2) ∧ Aside0 (IsS95 w0 wc g s0_0 t300 t301) ∧ Aside0 (KeepBut w wc g none) ∧ Aside0 (Below w0.heap.size w0 wc))
 case first =>
  have H := HC3.out
  clear HC3
  by_cases c7 : t299 = 0
  ·rw [if_pos c7] at H
   have c7b0 : (t299 == 0) = true := beq_iff_eq.mpr c7
   have c7b1 : (t299 != 0) = false := bne_eq_false_iff_eq.mpr c7
   clear c7
   (first | rw [c7b0] | (simp only [i64_w, i32_w]; rw [c7b0]) | skip)
   obtain ⟨y302, hy302⟩ : ∃ y_ : List Int, y_ = (([0, 1, 2] : List Int)) := ⟨_, rfl⟩
   replace H : (if y296.length + y302.length < 17592186044416 then (spec_l21Inputs.j0 k (y296 ++ y302) s0_0 t300 t301) else (none)) = some (r1, r2, r3) := by first | (rw [hy302]; with_reducible exact H) | (have H2_ := (Option.bind_some _ _).symm.trans H; rw [hy302]; with_reducible exact H2_) | (have H2_ := (Option.bind_some _ _).symm.trans H; with_reducible exact H2_) | with_reducible exact H | (rw [hy302]; exact H) | exact H
   have Ny302 := jA hy302
   clear hy302
   by_cases c8 : y296.length + y302.length < 17592186044416
   ·rw [if_pos c8] at H
    have LMc8 := jA c8
    clear c8
    obtain ⟨y305, hy305⟩ : ∃ y_ : List Int, y_ = (y296 ++ y302) := ⟨_, rfl⟩
    replace H : (spec_l21Inputs.j0 k y305 s0_0 t300 t301) = some (r1, r2, r3) := by first | (rw [hy305]; with_reducible exact H) | (have H2_ := (Option.bind_some _ _).symm.trans H; rw [hy305]; with_reducible exact H2_) | (have H2_ := (Option.bind_some _ _).symm.trans H; with_reducible exact H2_) | with_reducible exact H | (rw [hy305]; exact H) | exact H
    have Ny305 := jA hy305
    clear hy305
    have H' := jA H
    clear H
    go_wp2_with (first | ((with_reducible refine jJ (N := 10) rfl ?_); refine Kd.R_lit (Kd.int .i64) _ 2 ?hg (N := 10) ?hd (xs := ([0, 1, 2] : List Int)) (inner := [.int .i64 0, .int .i64 1, .int .i64 2]) (ok := fun _ => True) (okp := fun _ => True) ?hr ?hp (fun _ hk => hk) trivial (Below.refl _ _) (Nat.le_refl _) (by simp) ?_; (case hd => rfl); (case hg => rfl); (case hr => first | (go_simp; done) | (go_simp; rfl)); (case hp => exact (Reps.one (show Kd.M (Kd.int .i64) _ _ _ 0 [.int .i64 0] from rfl) (Reps.one (show Kd.M (Kd.int .i64) _ _ _ 1 [.int .i64 1] from rfl) (Reps.one (show Kd.M (Kd.int .i64) _ _ _ 2 [.int .i64 2] from rfl) (Reps.none _ _))))); intro v303 w9 ho10 hb hg_ hnew_; clear hg_ hnew_; (first | rw [← Ny302.out] at ho10 | (simp only [Int.reduceToNat] at ho10; rw [← Ny302.out] at ho10)); have HO304 := jA (jX (Kd.R_new' ho10 (Kd.R_lt (zo HO298))) (keep_size (w := w) (g := g) (row := none) (zh0 HK))); replace HO298 := jA (Kd.R_elder' (zo HO298) (Kd.R_base ho10) hb); replace HK := jA (KeepBut.trans (zh0 HK) (KeepBut.of_below hb g none) (.inl rfl)); replace HB := jA (jY (zr4 HB HI0) hb); replace HI0 := jA (IsS95.below (zr3 HI0) hb); clear hb ho10; obtain ⟨Ao12, co12, eo12⟩ := Kd.R_slice HO304.out; subst eo12) | ((with_reducible refine gate_builtin (b := .append) (xs := #[.tmp 9, .tmp 10]) rfl ?_); at_builtin; refine Kd.R_append_rows (Kd.int .i64) w.heap.size rfl (.tmp 9) (.tmp 10) 35 2 (.int .i64 0) 8 rfl Try.underlying35 info2 rfl (by decide) (by omega) v297 y296 y302 _ _ _ (fun k_ => some k_ ≠ (.slice Ao12 y302.length co12 : Value).ownBlock) (fun _ => False) rfl rfl ?aO ?aR (fun _ _ h => h) (fun _ h => h.elim) ?aF (Below.refl _ _) ?aS ?aL ?_; (case aR => repeat (first | exact (jO HO304.out).2.2 | (with_reducible refine Kd.C_alloc ?_ _) | (with_reducible refine Kd.C_drewN ?_ _) | (with_reducible refine Kd.C_drew ?_))); (case aF => exact (fun k_ hk => Kd.fresh' (Kd.R_lt (zo HO304)) k_ hk)); (case aO => exact (by (with_reducible repeat (first | apply ja | apply jZ | apply Kd.R_drew)); exact Kd.R_mono HO298.out (fun _ hk => hk.2))); (case aS => exact (keep_size (w := w) (g := g) (row := none) (zh0 HK))); (case aL => have := LMc8.out; omega); intro v306 w11 ho hb hg hat; rw [← Ny305.out] at ho; replace HO304 := jA (Kd.R_after (ok := (fun _ => True)) (zo HO304) hg hat); replace HB := jA (below_weaken (zr4 HB HI0) HL.out hb); replace HI0 := jA (IsS95.grown (zr3 HI0) hg (IsS95.own_ne HI0.out HO298.out (by decide))); replace HK := jA (KeepBut.trans (zh0 HK) (KeepBut.of_grown hg g) (Kd.R_base2 HO298.out)); have HO307 := jA (ho); clear HO298; clear ho hb hg hat))
    go_meet
    case rel => exact ⟨_, (y305), H', ⟨by first | omega | exact Nat.le_refl _⟩, ⟨by (with_reducible repeat (first | apply ja | apply jZ | apply Kd.R_drew)); exact Kd.R_mono HO307.out (fun _ hk => trivial)⟩, ⟨zr3 HI0⟩, ⟨zh0 HK⟩, ⟨zr4 HB HI0⟩⟩
   ·rw [if_neg c8] at H
    exact absurd H (by simp)
  ·rw [if_neg c7] at H
   have c7b0 : (t299 == 0) = false := beq_eq_false_iff_ne.mpr c7
   have c7b1 : (t299 != 0) = true := bne_iff_ne.mpr c7
   (first | rw [c7b0] | (simp only [i64_w, i32_w]; rw [c7b0]) | skip)
   have H' := jA H
   clear H
   go_wp2
   go_meet
   case rel => exact ⟨_, (y296), H', ⟨by first | omega | exact Nat.le_refl _⟩, ⟨zo HO298⟩, ⟨zr3 HI0⟩, ⟨zh0 HK⟩, ⟨zr4 HB HI0⟩⟩
 case rest =>
  clear HC3
  try clear p2
  try clear c6
  try clear c7
  try clear c7b0
  try clear c7b1
  try clear c8
  obtain ⟨kq, x3_2, HA, HJ2, HO_3, HI0, HK, HB⟩ := hcut
  cases kq with
  | zero => exact absurd HA.out (by simp [spec_l21Inputs.j0])
  | succ kj2 =>
   have H := HA.out
   clear HA
   simp only [spec_l21Inputs.j0] at H
   replace H := jC.mp H
   obtain ⟨⟨t308, t309, t310⟩, A130, H⟩ := H
   try dsimp only at H
   have A13 := jA A130
   clear A130
   have H' := jA H
   clear H
   go_wp2_with (first | ((with_reducible refine jG (f := 62) rfl ?_); refine zL (some 13) Try.func62 #[.pointer (some ⟨g, 0, none⟩), .int .i64 8] ?_; (with_reducible refine (spec_l01Next.calls g s0_0 t300 t301 8 t308 t309 t310 w0 _ ?side1 ?side2 A13.out).mono ?_); (case side1 => exact zr3 HI0); (case side2 => exact zr4 HB HI0); rintro e w14 ⟨rfl, hi, hb, hk⟩; refine ⟨_, rfl, ?_⟩; replace HO_3 := jA (Kd.R_mono (Kd.R_keep (IsS95.apart (show IsS95 w0 _ g s0_0 t300 t301 from zr3 HI0) (zo HO_3) (by decide)) hk (fun _ h => h.2)) (fun _ h => h.1)); replace HK := jA (KeepBut.trans (zh0 HK) hk (.inl rfl)); replace HB := jA (hb); replace HI0 := jA (hi); (try clear hb); (try clear hb2); (try clear hk); (try clear hi)))
   go_loopg [3, 4] kj2 (fun kq v3 v4 w' => ∃ (x3_2 : List Int) (x4_2 : Int) (x1001_2 : Int) (x1002_2 : Int), v4 = .int .i64 x4_2 ∧ Aside0 (spec_l21Inputs.l0 kq x3_2 x4_2 s0_0 x1001_2 x1002_2 = some (r1, r2, r3)) ∧ Aside0 (kq ≤ kj2) ∧ Aside0 (Kd.R (Kd.int .i64) 2 w' w.heap.size (fun _ => True) v3 x3_2) ∧ Aside0 (IsS95 w0 w' g s0_0 x1001_2 x1002_2) ∧ Aside0 (KeepBut w w' g none) ∧ Aside0 (Below w0.heap.size w0 w'))
   case atStart => exact ⟨(x3_2), (t308), (t309), (t310), zz, H', ⟨Nat.le_refl _⟩, ⟨zo HO_3⟩, ⟨zr3 HI0⟩, ⟨zh0 HK⟩, ⟨zr4 HB HI0⟩⟩
   case round =>
    clear H'
    try clear p2
    try clear c6
    try clear c7
    try clear c7b0
    try clear c7b1
    try clear c8
    try clear p2
    obtain ⟨x3_2, x4_2, x1001_2, x1002_2, rfl, HA, HK2, HO_3, HI0, HK, HB⟩ := hrel
    cases gk with
    | zero => exact absurd HA.out (by simp [spec_l21Inputs.l0])
    | succ k2 =>
     have H := HA.out
     clear HA
     simp only [spec_l21Inputs.l0] at H
     by_cases c15 : x4_2 > 0
     ·rw [if_pos c15] at H
      have c15b0 : decide (0 < x4_2) = true := jI c15
      clear c15
      replace H := jC.mp H
      obtain ⟨⟨t311, t312, t313⟩, A160, H⟩ := H
      replace H : ((spec_l01Pick.f s0_0 t312 t313 (([t311, 7, 8, 8, 4, 5, 2] : List Int))).bind fun bt317 => (if x3_2.length < 17592186044416 then (spec_l21Inputs.l0 k2 (x3_2 ++ [bt317.1]) (wrap64 (x4_2 - 1)) s0_0 bt317.2.1 bt317.2.2) else (none))) = some (r1, r2, r3) := H
      have A16 := jA A160
      clear A160
      obtain ⟨y314, hy314⟩ : ∃ y_ : List Int, y_ = (([t311, 7, 8, 8, 4, 5, 2] : List Int)) := ⟨_, rfl⟩
      replace H : ((spec_l01Pick.f s0_0 t312 t313 y314).bind fun bt317 => (if x3_2.length < 17592186044416 then (spec_l21Inputs.l0 k2 (x3_2 ++ [bt317.1]) (wrap64 (x4_2 - 1)) s0_0 bt317.2.1 bt317.2.2) else (none))) = some (r1, r2, r3) := by first | (rw [hy314]; with_reducible exact H) | (have H2_ := (Option.bind_some _ _).symm.trans H; rw [hy314]; with_reducible exact H2_) | (have H2_ := (Option.bind_some _ _).symm.trans H; with_reducible exact H2_) | with_reducible exact H | (rw [hy314]; exact H) | exact H
      have Ny314 := jA hy314
      clear hy314
      replace H := jC.mp H
      obtain ⟨⟨t317, t318, t319⟩, A170, H⟩ := H
      replace H : (if x3_2.length < 17592186044416 then (spec_l21Inputs.l0 k2 (x3_2 ++ [t317]) (wrap64 (x4_2 - 1)) s0_0 t318 t319) else (none)) = some (r1, r2, r3) := H
      have A17 := jA A170
      clear A170
      by_cases c18 : x3_2.length < 17592186044416
      ·rw [if_pos c18] at H
       have LMc18 := jA c18
       clear c18
       obtain ⟨y320, hy320⟩ : ∃ y_ : List Int, y_ = (x3_2 ++ [t317]) := ⟨_, rfl⟩
       replace H : (spec_l21Inputs.l0 k2 y320 (wrap64 (x4_2 - 1)) s0_0 t318 t319) = some (r1, r2, r3) := by first | (rw [hy320]; with_reducible exact H) | (have H2_ := (Option.bind_some _ _).symm.trans H; rw [hy320]; with_reducible exact H2_) | (have H2_ := (Option.bind_some _ _).symm.trans H; with_reducible exact H2_) | with_reducible exact H | (rw [hy320]; exact H) | exact H
       have Ny320 := jA hy320
       clear hy320
       have H' := jA H
       clear H
       go_wp2_with (first | ((with_reducible refine jG (f := 62) rfl ?_); refine zL (some 21) Try.func62 #[.pointer (some ⟨g, 0, none⟩), .int .i64 10] ?_; (with_reducible refine (spec_l01Next.calls g s0_0 x1001_2 x1002_2 10 t311 t312 t313 w0 _ ?side1 ?side2 A16.out).mono ?_); (case side1 => exact zr3 HI0); (case side2 => exact zr4 HB HI0); rintro e w19 ⟨rfl, hi, hb, hk⟩; refine ⟨_, rfl, ?_⟩; replace HO_3 := jA (Kd.R_mono (Kd.R_keep (IsS95.apart (show IsS95 w0 _ g s0_0 x1001_2 x1002_2 from zr3 HI0) (zo HO_3) (by decide)) hk (fun _ h => h.2)) (fun _ h => h.1)); replace HK := jA (KeepBut.trans (zh0 HK) hk (.inl rfl)); replace HB := jA (hb); replace HI0 := jA (hi); (try clear hb); (try clear hb2); (try clear hk); (try clear hi)) | ((with_reducible refine jJ (N := 22) rfl ?_); refine Kd.R_lit (Kd.int .i64) _ 2 ?hg (N := 22) ?hd (xs := ([t311, 7, 8, 8, 4, 5, 2] : List Int)) (inner := [.int .i64 t311, .int .i64 7, .int .i64 8, .int .i64 8, .int .i64 4, .int .i64 5, .int .i64 2]) (ok := fun _ => True) (okp := fun _ => True) ?hr ?hp (fun _ hk => hk) trivial (Below.refl _ _) (Nat.le_refl _) (by simp) ?_; (case hd => rfl); (case hg => rfl); (case hr => first | (go_simp; done) | (go_simp; rfl)); (case hp => exact (Reps.one (show Kd.M (Kd.int .i64) _ _ _ t311 [.int .i64 t311] from rfl) (Reps.one (show Kd.M (Kd.int .i64) _ _ _ 7 [.int .i64 7] from rfl) (Reps.one (show Kd.M (Kd.int .i64) _ _ _ 8 [.int .i64 8] from rfl) (Reps.one (show Kd.M (Kd.int .i64) _ _ _ 8 [.int .i64 8] from rfl) (Reps.one (show Kd.M (Kd.int .i64) _ _ _ 4 [.int .i64 4] from rfl) (Reps.one (show Kd.M (Kd.int .i64) _ _ _ 5 [.int .i64 5] from rfl) (Reps.one (show Kd.M (Kd.int .i64) _ _ _ 2 [.int .i64 2] from rfl) (Reps.none _ _))))))))); intro v315 w20 ho21 hb hg_ hnew_; clear hg_ hnew_; (first | rw [← Ny314.out] at ho21 | (simp only [Int.reduceToNat] at ho21; rw [← Ny314.out] at ho21)); have HO316 := jA (jX (Kd.R_new' ho21 (Kd.R_lt (zo HO_3))) (keep_size (w := w) (g := g) (row := none) (zh0 HK))); replace HO_3 := jA (Kd.R_elder' (zo HO_3) (Kd.R_base ho21) hb); replace HK := jA (KeepBut.trans (zh0 HK) (KeepBut.of_below hb g none) (.inl rfl)); replace HB := jA (jY (zr4 HB HI0) hb); replace HI0 := jA (IsS95.below (zr3 HI0) hb); clear hb ho21; obtain ⟨Ao22, co22, eo22⟩ := Kd.R_slice HO316.out; subst eo22) | ((with_reducible refine jG (f := 61) rfl ?_); refine zL (some 23) Try.func61 #[.pointer (some ⟨g, 0, none⟩), .slice Ao22 y314.length co22] ?_; (with_reducible refine (spec_l01Pick.calls g s0_0 t312 t313 _ _ y314 t317 t318 t319 w0 _ ?side1 ?side2 ?side3 ?side4 ?side5 A17.out).mono ?_); (case side1 => exact zr3 HI0); (case side2 => exact zr4 HB HI0); (case side3 => exact zv HO316); (case side4 => exact (jO HO316.out).2.1); (case side5 => exact far_slice (IsS95.own_ne HI0.out HO316.out (by decide))); rintro e w23 ⟨rfl, hi, hb, hk⟩; refine ⟨_, rfl, ?_⟩; replace HO_3 := jA (Kd.R_mono (Kd.R_keep (IsS95.apart (show IsS95 w0 _ g s0_0 t312 t313 from zr3 HI0) (zo HO_3) (by decide)) hk (fun _ h => h.2)) (fun _ h => h.1)); replace HO316 := jA (Kd.R_mono (Kd.R_keep (IsS95.apart (show IsS95 w0 _ g s0_0 t312 t313 from zr3 HI0) (zo HO316) (by decide)) hk (fun _ h => h.2)) (fun _ h => h.1)); replace HK := jA (KeepBut.trans (zh0 HK) hk (.inl rfl)); replace HB := jA (hb); replace HI0 := jA (hi); (try clear hb); (try clear hb2); (try clear hk); (try clear hi)) | ((with_reducible refine gate_builtin (b := .append) (xs := #[.tmp 18, .tmp 24]) rfl ?_); at_builtin; refine Kd.R_append (Kd.int .i64) w.heap.size rfl (.tmp 18) (.tmp 24) 35 2 (.int .i64 0) 8 rfl Try.underlying35 info2 rfl (by decide) (by omega) u3 x3_2 t317 [.int .i64 t317] (fun k_ => some k_ ≠ (.slice Ao22 y314.length co22 : Value).ownBlock) (fun _ => False) rfl rfl ?aP (fun _ hk => hk.elim) ?aF ?aO (Below.refl _ _) ?aS ?aL ?_; (case aP => exact rfl); (case aF => exact (fun k_ hk => Kd.fresh' (Kd.R_lt (zo HO316)) k_ hk)); (case aO => exact (by (with_reducible repeat (first | apply ja | apply jZ | apply Kd.R_drew)); exact Kd.R_mono HO_3.out (fun _ hk => hk.2))); (case aS => exact (keep_size (w := w) (g := g) (row := none) (zh0 HK))); (case aL => have := LMc18.out; omega); intro v321 w24 ho hb hg hat; rw [← Ny320.out] at ho; replace HO316 := jA (Kd.R_after (ok := (fun _ => True)) (zo HO316) hg hat); replace HB := jA (below_weaken (zr4 HB HI0) HL.out hb); replace HI0 := jA (IsS95.grown (zr3 HI0) hg (IsS95.own_ne HI0.out HO_3.out (by decide))); replace HK := jA (KeepBut.trans (zh0 HK) (KeepBut.of_grown hg g) (Kd.R_base2 HO_3.out)); have HO322 := jA (ho); clear HO_3; clear ho hb hg hat))
       go_roundg k2
       case measure => have := HJ2.out; have := HK2.out; omega
       case rel => exact ⟨(y320), (wrap64 (x4_2 - 1)), (t318), (t319), zz, H', ⟨by have := HJ2.out; have := HK2.out; omega⟩, ⟨by (with_reducible repeat (first | apply ja | apply jZ | apply Kd.R_drew)); exact Kd.R_mono HO322.out (fun _ hk => trivial)⟩, ⟨zr3 HI0⟩, ⟨zh0 HK⟩, ⟨zr4 HB HI0⟩⟩
      ·rw [if_neg c18] at H
       exact absurd H (by simp)
     ·rw [if_neg c15] at H
      have c15b0 : decide (0 < x4_2) = false := jS c15
      clear c15
      replace H := jC.mp H
      obtain ⟨⟨t323, t324, t325⟩, A250, H⟩ := H
      try dsimp only at H
      have A25 := jA A250
      clear A250
      by_cases c26 : t323 = 0
      ·rw [if_pos c26] at H
       have c26b0 : (t323 == 0) = true := beq_iff_eq.mpr c26
       have c26b1 : (t323 != 0) = false := bne_eq_false_iff_eq.mpr c26
       clear c26
       obtain ⟨y326, hy326⟩ : ∃ y_ : List Int, y_ = (([(-1), 10] : List Int)) := ⟨_, rfl⟩
       replace H : ((spec_l01Pick.f s0_0 t324 t325 y326).bind fun bt329 => (if x3_2.length < 17592186044416 then (some ((x3_2 ++ [bt329.1]), bt329.2.1, bt329.2.2)) else (none))) = some (r1, r2, r3) := by first | (rw [hy326]; with_reducible exact H) | (have H2_ := (Option.bind_some _ _).symm.trans H; rw [hy326]; with_reducible exact H2_) | (have H2_ := (Option.bind_some _ _).symm.trans H; with_reducible exact H2_) | with_reducible exact H | (rw [hy326]; exact H) | exact H
       have Ny326 := jA hy326
       clear hy326
       replace H := jC.mp H
       obtain ⟨⟨t329, t330, t331⟩, A270, H⟩ := H
       try dsimp only at H
       have A27 := jA A270
       clear A270
       by_cases c28 : x3_2.length < 17592186044416
       ·rw [if_pos c28] at H
        have LMc28 := jA c28
        clear c28
        obtain ⟨y332, hy332⟩ : ∃ y_ : List Int, y_ = (x3_2 ++ [t329]) := ⟨_, rfl⟩
        replace H : (some (y332, t330, t331)) = some (r1, r2, r3) := by first | (rw [hy332]; with_reducible exact H) | (have H2_ := (Option.bind_some _ _).symm.trans H; rw [hy332]; with_reducible exact H2_) | (have H2_ := (Option.bind_some _ _).symm.trans H; with_reducible exact H2_) | with_reducible exact H | (rw [hy332]; exact H) | exact H
        have Ny332 := jA hy332
        clear hy332
        simp only [jH, jK] at H
        obtain ⟨rfl, rfl, rfl⟩ := H
        go_wp2_with (first | ((with_reducible refine jG (f := 62) rfl ?_); refine zL (some 27) Try.func62 #[.pointer (some ⟨g, 0, none⟩), .int .i64 40] ?_; (with_reducible refine (spec_l01Next.calls g s0_0 x1001_2 x1002_2 40 t323 t324 t325 w0 _ ?side1 ?side2 A25.out).mono ?_); (case side1 => exact zr3 HI0); (case side2 => exact zr4 HB HI0); rintro e w29 ⟨rfl, hi, hb, hk⟩; refine ⟨_, rfl, ?_⟩; replace HO_3 := jA (Kd.R_mono (Kd.R_keep (IsS95.apart (show IsS95 w0 _ g s0_0 x1001_2 x1002_2 from zr3 HI0) (zo HO_3) (by decide)) hk (fun _ h => h.2)) (fun _ h => h.1)); replace HK := jA (KeepBut.trans (zh0 HK) hk (.inl rfl)); replace HB := jA (hb); replace HI0 := jA (hi); (try clear hb); (try clear hb2); (try clear hk); (try clear hi)) | ((with_reducible refine jJ (N := 32) rfl ?_); refine Kd.R_lit (Kd.int .i64) _ 2 ?hg (N := 32) ?hd (xs := ([(-1), 10] : List Int)) (inner := [.int .i64 (-1), .int .i64 10]) (ok := fun _ => True) (okp := fun _ => True) ?hr ?hp (fun _ hk => hk) trivial (Below.refl _ _) (Nat.le_refl _) (by simp) ?_; (case hd => rfl); (case hg => rfl); (case hr => first | (go_simp; done) | (go_simp; rfl)); (case hp => exact (Reps.one (show Kd.M (Kd.int .i64) _ _ _ (-1) [.int .i64 (-1)] from rfl) (Reps.one (show Kd.M (Kd.int .i64) _ _ _ 10 [.int .i64 10] from rfl) (Reps.none _ _)))); intro v327 w30 ho31 hb hg_ hnew_; clear hg_ hnew_; (first | rw [← Ny326.out] at ho31 | (simp only [Int.reduceToNat] at ho31; rw [← Ny326.out] at ho31)); have HO328 := jA (jX (Kd.R_new' ho31 (Kd.R_lt (zo HO_3))) (keep_size (w := w) (g := g) (row := none) (zh0 HK))); replace HO_3 := jA (Kd.R_elder' (zo HO_3) (Kd.R_base ho31) hb); replace HK := jA (KeepBut.trans (zh0 HK) (KeepBut.of_below hb g none) (.inl rfl)); replace HB := jA (jY (zr4 HB HI0) hb); replace HI0 := jA (IsS95.below (zr3 HI0) hb); clear hb ho31; obtain ⟨Ao32, co32, eo32⟩ := Kd.R_slice HO328.out; subst eo32) | ((with_reducible refine jG (f := 61) rfl ?_); refine zL (some 33) Try.func61 #[.pointer (some ⟨g, 0, none⟩), .slice Ao32 y326.length co32] ?_; (with_reducible refine (spec_l01Pick.calls g s0_0 t324 t325 _ _ y326 t329 t330 t331 w0 _ ?side1 ?side2 ?side3 ?side4 ?side5 A27.out).mono ?_); (case side1 => exact zr3 HI0); (case side2 => exact zr4 HB HI0); (case side3 => exact zv HO328); (case side4 => exact (jO HO328.out).2.1); (case side5 => exact far_slice (IsS95.own_ne HI0.out HO328.out (by decide))); rintro e w33 ⟨rfl, hi, hb, hk⟩; refine ⟨_, rfl, ?_⟩; replace HO_3 := jA (Kd.R_mono (Kd.R_keep (IsS95.apart (show IsS95 w0 _ g s0_0 t324 t325 from zr3 HI0) (zo HO_3) (by decide)) hk (fun _ h => h.2)) (fun _ h => h.1)); replace HO328 := jA (Kd.R_mono (Kd.R_keep (IsS95.apart (show IsS95 w0 _ g s0_0 t324 t325 from zr3 HI0) (zo HO328) (by decide)) hk (fun _ h => h.2)) (fun _ h => h.1)); replace HK := jA (KeepBut.trans (zh0 HK) hk (.inl rfl)); replace HB := jA (hb); replace HI0 := jA (hi); (try clear hb); (try clear hb2); (try clear hk); (try clear hi)) | ((with_reducible refine gate_builtin (b := .append) (xs := #[.tmp 30, .tmp 34]) rfl ?_); at_builtin; refine Kd.R_append (Kd.int .i64) w.heap.size rfl (.tmp 30) (.tmp 34) 35 2 (.int .i64 0) 8 rfl Try.underlying35 info2 rfl (by decide) (by omega) u3 x3_2 t329 [.int .i64 t329] (fun k_ => some k_ ≠ (.slice Ao32 y326.length co32 : Value).ownBlock) (fun _ => False) rfl rfl ?aP (fun _ hk => hk.elim) ?aF ?aO (Below.refl _ _) ?aS ?aL ?_; (case aP => exact rfl); (case aF => exact (fun k_ hk => Kd.fresh' (Kd.R_lt (zo HO328)) k_ hk)); (case aO => exact (by (with_reducible repeat (first | apply ja | apply jZ | apply Kd.R_drew)); exact Kd.R_mono HO_3.out (fun _ hk => hk.2))); (case aS => exact (keep_size (w := w) (g := g) (row := none) (zh0 HK))); (case aL => have := LMc28.out; omega); intro v333 w34 ho hb hg hat; rw [← Ny332.out] at ho; replace HO328 := jA (Kd.R_after (ok := (fun _ => True)) (zo HO328) hg hat); replace HB := jA (below_weaken (zr4 HB HI0) HL.out hb); replace HI0 := jA (IsS95.grown (zr3 HI0) hg (IsS95.own_ne HI0.out HO_3.out (by decide))); replace HK := jA (KeepBut.trans (zh0 HK) (KeepBut.of_grown hg g) (Kd.R_base2 HO_3.out)); have HO334 := jA (ho); clear HO_3; clear ho hb hg hat))
        go_ret
        exact ⟨_, ze, by (with_reducible repeat (first | apply ja | apply jZ | apply Kd.R_drew)); exact Kd.R_mono HO334.out (fun _ hk => trivial), zr3 HI0, zr4 HB HI0, zh0 HK⟩
       ·rw [if_neg c28] at H
        exact absurd H (by simp)
      ·rw [if_neg c26] at H
       have c26b0 : (t323 == 0) = false := beq_eq_false_iff_ne.mpr c26
       have c26b1 : (t323 != 0) = true := bne_iff_ne.mpr c26
       by_cases c35 : t323 = 1
       ·rw [if_pos c35] at H
        have c35b0 : (t323 == 1) = true := beq_iff_eq.mpr c35
        have c35b1 : (t323 != 1) = false := bne_eq_false_iff_eq.mpr c35
        clear c35
        replace H := jC.mp H
        obtain ⟨⟨t335, t336, t337⟩, A360, H⟩ := H
        try dsimp only at H
        have A36 := jA A360
        clear A360
        obtain ⟨ji37, hji37⟩ : ∃ j_ : Int, (wrap64 (60 + t335)) = j_ := ⟨_, rfl⟩
        replace H : (if 0 ≤ (ji37) then (if (ji37 : Int).toNat ≤ 35184372088832 then (some ((List.replicate (ji37 : Int).toNat 0), t336, t337)) else (none)) else (none)) = some (r1, r2, r3) := by first | (rw [hji37] at H; exact H) | (simp only [hji37] at H ⊢; exact H)
        (try rw [hji37] at A25)
        (try rw [hji37] at A36)
        have hji37w : (IntKind.i64.wrap (60 + t335)) = ji37 := (i64_w _).trans hji37
        by_cases c38 : 0 ≤ (ji37)
        ·rw [if_pos c38] at H
         have c38b0 := eq_true c38
         have c38b1 : decide (0 ≤ (ji37)) = true := jI c38
         clear c38
         by_cases c39 : (ji37 : Int).toNat ≤ 35184372088832
         ·rw [if_pos c39] at H
          have c39b0 := eq_true c39
          have c39b1 : decide ((ji37 : Int).toNat ≤ 35184372088832) = true := jI c39
          clear c39
          obtain ⟨y338, hy338⟩ : ∃ y_ : List Int, y_ = (List.replicate (ji37 : Int).toNat 0) := ⟨_, rfl⟩
          replace H : (some (y338, t336, t337)) = some (r1, r2, r3) := by first | (rw [hy338]; with_reducible exact H) | (have H2_ := (Option.bind_some _ _).symm.trans H; rw [hy338]; with_reducible exact H2_) | (have H2_ := (Option.bind_some _ _).symm.trans H; with_reducible exact H2_) | with_reducible exact H | (rw [hy338]; exact H) | exact H
          have Ny338 := jA hy338
          clear hy338
          simp only [jH, jK] at H
          obtain ⟨rfl, rfl, rfl⟩ := H
          go_wp2_with (first | ((with_reducible refine jG (f := 62) rfl ?_); refine zL (some 27) Try.func62 #[.pointer (some ⟨g, 0, none⟩), .int .i64 40] ?_; (with_reducible refine (spec_l01Next.calls g s0_0 x1001_2 x1002_2 40 t323 t324 t325 w0 _ ?side1 ?side2 A25.out).mono ?_); (case side1 => exact zr3 HI0); (case side2 => exact zr4 HB HI0); rintro e w40 ⟨rfl, hi, hb, hk⟩; refine ⟨_, rfl, ?_⟩; replace HO_3 := jA (Kd.R_mono (Kd.R_keep (IsS95.apart (show IsS95 w0 _ g s0_0 x1001_2 x1002_2 from zr3 HI0) (zo HO_3) (by decide)) hk (fun _ h => h.2)) (fun _ h => h.1)); replace HK := jA (KeepBut.trans (zh0 HK) hk (.inl rfl)); replace HB := jA (hb); replace HI0 := jA (hi); (try clear hb); (try clear hb2); (try clear hk); (try clear hi)) | ((with_reducible refine jG (f := 62) rfl ?_); refine zL (some 39) Try.func62 #[.pointer (some ⟨g, 0, none⟩), .int .i64 2] ?_; (with_reducible refine (spec_l01Next.calls g s0_0 t324 t325 2 t335 t336 t337 w0 _ ?side1 ?side2 A36.out).mono ?_); (case side1 => exact zr3 HI0); (case side2 => exact zr4 HB HI0); rintro e w41 ⟨rfl, hi, hb, hk⟩; refine ⟨_, rfl, ?_⟩; replace HO_3 := jA (Kd.R_mono (Kd.R_keep (IsS95.apart (show IsS95 w0 _ g s0_0 t324 t325 from zr3 HI0) (zo HO_3) (by decide)) hk (fun _ h => h.2)) (fun _ h => h.1)); replace HK := jA (KeepBut.trans (zh0 HK) hk (.inl rfl)); replace HB := jA (hb); replace HI0 := jA (hi); (try clear hb); (try clear hb2); (try clear hk); (try clear hi)) | ((with_reducible refine jJ (N := 41) rfl ?_); refine Kd.R_make (Kd.int .i64) _ 2 rfl (N := 41) rfl 35 _ _ rfl ji37 rfl rfl Try.underlying35 (.int .i64 0) 8 info2 rfl (by decide) (by omega) 0 (ok := fun _ => True) (okp := fun _ => True) rfl (fun _ hk => hk) trivial (jB za) (Nat.le_trans (Nat.mul_le_mul_right _ (jB za : ji37.toNat ≤ 35184372088832)) (by omega)) (Below.refl _ _) (Nat.le_refl _) ?_; intro v339 w42 ho43 hb hg_ hnew_; clear hg_ hnew_; (first | rw [← Ny338.out] at ho43 | (simp only [Int.reduceToNat] at ho43; rw [← Ny338.out] at ho43)); have HO340 := jA (jX (Kd.R_new' ho43 (Kd.R_lt (zo HO_3))) (keep_size (w := w) (g := g) (row := none) (zh0 HK))); replace HO_3 := jA (Kd.R_elder' (zo HO_3) (Kd.R_base ho43) hb); replace HK := jA (KeepBut.trans (zh0 HK) (KeepBut.of_below hb g none) (.inl rfl)); replace HB := jA (jY (zr4 HB HI0) hb); replace HI0 := jA (IsS95.below (zr3 HI0) hb); clear hb ho43))
          go_ret
          exact ⟨_, by first | rfl | (simp [errW_none, errW_some] <;> rfl) | (simp only [← hji37]; first | rfl | (simp [errW_none, errW_some] <;> rfl)) | (simp [*, errW_none, errW_some] <;> rfl), by (with_reducible repeat (first | apply ja | apply jZ | apply Kd.R_drew)); exact Kd.R_mono HO340.out (fun _ hk => trivial), zr3 HI0, zr4 HB HI0, zh0 HK⟩
         ·rw [if_neg c39] at H
          exact absurd H (by simp)
        ·rw [if_neg c38] at H
         exact absurd H (by simp)
       ·rw [if_neg c35] at H
        have c35b0 : (t323 == 1) = false := beq_eq_false_iff_ne.mpr c35
        have c35b1 : (t323 != 1) = true := bne_iff_ne.mpr c35
        simp only [jH, jK] at H
        obtain ⟨rfl, rfl, rfl⟩ := H
        go_wp2_with (first | ((with_reducible refine jG (f := 62) rfl ?_); refine zL (some 27) Try.func62 #[.pointer (some ⟨g, 0, none⟩), .int .i64 40] ?_; (with_reducible refine (spec_l01Next.calls g s0_0 x1001_2 x1002_2 40 t323 t324 t325 w0 _ ?side1 ?side2 A25.out).mono ?_); (case side1 => exact zr3 HI0); (case side2 => exact zr4 HB HI0); rintro e w44 ⟨rfl, hi, hb, hk⟩; refine ⟨_, rfl, ?_⟩; replace HO_3 := jA (Kd.R_mono (Kd.R_keep (IsS95.apart (show IsS95 w0 _ g s0_0 x1001_2 x1002_2 from zr3 HI0) (zo HO_3) (by decide)) hk (fun _ h => h.2)) (fun _ h => h.1)); replace HK := jA (KeepBut.trans (zh0 HK) hk (.inl rfl)); replace HB := jA (hb); replace HI0 := jA (hi); (try clear hb); (try clear hb2); (try clear hk); (try clear hi)))
        go_ret
        exact ⟨_, ze, zo HO_3, zr3 HI0, zr4 HB HI0, zh0 HK⟩

/-! ### spec_l21Good: function 63 -/
def spec_l21Good.f (k : Nat) (s0_0 : List Int) (s0_1 : Int) (s0_2 : Int) : Option (Bool × Bool × Bool × Bool × Bool × Int × Int × Int) := (spec_l21Inputs.f k s0_0 s0_1 s0_2).bind fun bt342 => ((spec_GiveInputs.f k false false false false false 0 bt342.1).bind fun bt347 => (some (bt347.1, bt347.2.1, bt347.2.2.1, bt347.2.2.2.1, bt347.2.2.2.2.1, bt347.2.2.2.2.2.1, bt342.2.1, bt342.2.2)))
theorem spec_l21Good.mono : ∀ a0 a1 a2 k, LeO (spec_l21Good.f k a0 a1 a2) (spec_l21Good.f (k + 1) a0 a1 a2) := by
 intro a0 a1 a2 k
 unfold spec_l21Good.f
 repeat' first
   | (with_reducible exact spec_GiveInputs.mono _ _ _ _ _ _ _ _)
   | (with_reducible exact spec_l21Inputs.mono _ _ _ _)
   | (with_reducible exact LeO.refl _)
   | (with_reducible exact LeO.none _)
   | (with_reducible refine LeO.ite ?_ ?_)
   | (with_reducible refine LeO.bind ?_ (fun _ => ?_))
   | exact spec_GiveInputs.mono _ _ _ _ _ _ _ _
   | exact spec_l21Inputs.mono _ _ _ _
   | exact LeO.none _
   | refine LeO.ite ?_ ?_
   | refine LeO.bind ?_ (fun _ => ?_)
set_option maxHeartbeats 8000000 in
set_option maxRecDepth 100000 in
theorem spec_l21Good.calls (k : Nat) (g : Nat) (s0_0 : List Int) (s0_1 : Int) (s0_2 : Int) (r1 : Bool) (r2 : Bool) (r3 : Bool) (r4 : Bool) (r5 : Bool) (r6 : Int) (r7 : Int) (r8 : Int) (w0 w : World) (hI : IsS95 w0 w g s0_0 s0_1 s0_2) (hB : Below w0.heap.size w0 w) (h : spec_l21Good.f k s0_0 s0_1 s0_2 = some (r1, r2, r3, r4, r5, r6, r7, r8)) :
  Calls Try.prog 63 #[.pointer (some ⟨g, 0, none⟩)] w fun e w' => e = .returned (.agg #[.bool r1, .bool r2, .bool r3, .bool r4, .bool r5, .int .i64 r6]) ∧ IsS95 w0 w' g s0_0 r7 r8 ∧ Below w0.heap.size w0 w' ∧ KeepBut w w' g none := by
 have hu23 := Try.underlying23
 have HI0 := jA hI
 have HK := jA (KeepBut.refl w g none)
 have HL := jA hB.size
 clear hI
 have HW0 := jA hB.size
 have HB := jA hB
 clear hB
 have H := h
 unfold spec_l21Good.f at H
 clear h
 replace H := jC.mp H
 obtain ⟨⟨t342, t345, t346⟩, A20, H⟩ := H
 try dsimp only at H
 have A2 := jA A20
 clear A20
 replace H := jC.mp H
 obtain ⟨⟨t347, t348, t349, t350, t351, t352, t353, t354⟩, A30, H⟩ := H
 try dsimp only at H
 have A3 := jA A30
 clear A30
 simp only [jH, jK] at H
 obtain ⟨rfl, rfl, rfl, rfl, rfl, rfl, rfl, rfl⟩ := H
 go_enter Try.func63, Try.ntmps63
 go_wp2_with (first | ((with_reducible refine jJ (N := 2) rfl ?_); refine zE 2 #[.bool false, .bool false, .bool false, .bool false, .bool false, .int .i64 0] 23 ?_; intro gb341 hg w4 hbox hb; replace HB := jA (jY (zr4 HB HI0) hb); have BK341 := jA (hbox); have GW341 := jA ((by rw [hg]; exact (keep_size (w := w) (g := g) (row := none) (zh0 HK)) : w.heap.size ≤ gb341)); have GE341 := jA ((Nat.le_trans HW0.out (by rw [hg]; exact (keep_size (w := w) (g := g) (row := none) (zh0 HK)) : w.heap.size ≤ gb341) : w0.heap.size ≤ gb341)); replace HK := jA (KeepBut.trans (zh0 HK) (KeepBut.of_below hb g none) (.inl rfl)); have NB0_341 := jA ((by rw [hg]; exact Nat.ne_of_lt (IsS95.lt (show IsS95 w0 _ g s0_0 s0_1 s0_2 from zr3 HI0)) : g ≠ gb341)); have NB341_0 := jA ((by rw [hg]; exact Nat.ne_of_gt (IsS95.lt (show IsS95 w0 _ g s0_0 s0_1 s0_2 from zr3 HI0)) : gb341 ≠ g)); replace HI0 := jA (IsS95.below (zr3 HI0) hb); clear hb hbox hg) | ((with_reducible refine jG (f := 82) rfl ?_); refine zL (some 9) Try.func82 #[.pointer (some ⟨g, 0, none⟩)] ?_; (with_reducible refine (spec_l21Inputs.calls k g s0_0 s0_1 s0_2 t342 t345 t346 w0 _ ?side1 ?side2 A2.out).mono ?_); (case side1 => exact zr5 HI0 NB0_341); (case side2 => exact zr6 HB HI0 GE341); rintro e w5 ⟨v343, rfl, ho0, hi, hb, hk⟩; refine ⟨_, rfl, ?_⟩; replace BK341 := zK hk BK341 NB341_0; have HO344 := jA (jX ho0 (keep_size (w := w) (g := g) (row := none) (zh1 HK GW341))); replace HK := jA (KeepBut.trans (zh1 HK GW341) hk (.inl rfl)); replace HB := jA (hb); replace HI0 := jA (hi); (try clear hb); (try clear hb2); (try clear hk); (try clear hi); (try clear ho0); obtain ⟨Ao6, co6, eo6⟩ := Kd.R_slice HO344.out; subst eo6) | ((with_reducible refine jG (f := 81) rfl ?_); refine zL (some 10) Try.func81 #[.agg #[.bool false, .bool false, .bool false, .bool false, .bool false, .int .i64 0], .slice Ao6 t342.length co6] ?_; (with_reducible refine (spec_GiveInputs.calls k false false false false false 0 _ _ t342 t347 t348 t349 t350 t351 t352 t353 t354 _ ?side1 ?side2 A3.out).mono ?_); (case side1 => exact zv HO344); (case side2 => exact (jO HO344.out).2.1); rintro e w7 ⟨rfl, hb⟩; refine ⟨_, rfl, ?_⟩; replace HO344 := jA (jP (zo HO344) hb); replace BK341 := zB BK341 hb; replace HK := jA (KeepBut.trans (zh1 HK GW341) (KeepBut.of_below hb g none) (.inl rfl)); replace HB := jA (jY (zr6 HB HI0 GE341) hb); replace HI0 := jA (IsS95.below (zr5 HI0 NB0_341) hb); clear hb) | ((with_reducible refine jJ (N := 3) rfl ?_); refine zE 3 #[.bool false, .bool false, .bool false, .bool false, .bool false, .int .i64 0] 23 ?_; intro gb355 hg w8 hbox hb; replace HO344 := jA (jP (zo HO344) hb); replace HB := jA (jY (zr6 HB HI0 GE341) hb); have BK355 := jA (hbox); have GW355 := jA ((by rw [hg]; exact (keep_size (w := w) (g := g) (row := none) (zh1 HK GW341)) : w.heap.size ≤ gb355)); have GE355 := jA ((Nat.le_trans HW0.out (by rw [hg]; exact (keep_size (w := w) (g := g) (row := none) (zh1 HK GW341)) : w.heap.size ≤ gb355) : w0.heap.size ≤ gb355)); replace HK := jA (KeepBut.trans (zh1 HK GW341) (KeepBut.of_below hb g none) (.inl rfl)); have NB341_355 := zn hg BK341; replace BK341 := zB BK341 hb; have NB355_341 := jA NB341_355.out.symm; have NB0_355 := jA ((by rw [hg]; exact Nat.ne_of_lt (IsS95.lt (show IsS95 w0 _ g s0_0 t345 t346 from zr5 HI0 NB0_341)) : g ≠ gb355)); have NB355_0 := jA ((by rw [hg]; exact Nat.ne_of_gt (IsS95.lt (show IsS95 w0 _ g s0_0 t345 t346 from zr5 HI0 NB0_341)) : gb355 ≠ g)); replace HI0 := jA (IsS95.below (zr5 HI0 NB0_341) hb); clear hb hbox hg; have hnb9 := NB355_341.out; have hnc9 := NB341_355.out; have hnb10 := NB355_0.out; have hnc10 := NB0_355.out; have hcz11 := zc6 BK355; have hnb12 := NB341_0.out; have hnc12 := NB0_341.out; have hcz13 := zc6 BK341))
 refine jQ (results_cell_row rfl _ _ gb341 23 #[.bool t347, .bool t348, .bool t349, .bool t350, .bool t351, .int .i64 t352] (0, 0) _ rfl (zP1 BK341 NB341_355) Try.underlying23 rfl zr) rfl ?_
 exact ⟨ze, zr7 HI0 NB0_341 NB0_355, zr8 HB HI0 GE341 GE355, zh2 HK GW341 GW355⟩

end Go.Proofs.Ythieppjmjgijfaa.PFnProofs
