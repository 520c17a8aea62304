/- Functions and contracts that FnMagazines reaches (18 of 24). -/
import Derived.Test.YtdgglhfnlljmeaaQFnMagazinesx16
namespace Go.Proofs.Ytdgglhfnlljmeaa.PFnMagazines
open Go.RowKit Go.Proofs.YtdgglhfnlljmeaaW.PrintWords Go.Proofs.YtdgglhfnlljmeaaW.PrintLast Go.Proofs.YtdgglhfnlljmeaaW.PrintMore
attribute [local go_sem] max2_int min2_int max_two min_two max_three min_three max_four min_four   -- for this text's walks alone
set_option linter.unusedVariables false
set_option linter.unusedSimpArgs false

/-! ### spec_l17Name: function 77 -/
def spec_l17Name.j0 : Nat → List (S65) → Bool → List Int → Int → Int → Option (ByteArray × Int × Int)
 | 0, _, _, _, _, _ => none
 | k + 1, x1, x12, x1000, x1001, x1002 => if x12 = true then ((spec_l01Next.f x1000 x1001 x1002 (x1.length : Int)).bind fun bt429 => (if 0 ≤ bt429.1 then (if bt429.1 < (x1.length : Int) then (some ((rd_T65 x1 bt429.1).f0, bt429.2.1, bt429.2.2)) else (none)) else (none))) else ((some (([(⟨#[110, 111, 110, 101]⟩ : ByteArray), (⟨#[]⟩ : ByteArray), (⟨#[45]⟩ : ByteArray), (⟨#[112, 101, 111, 110, 121]⟩ : ByteArray)] : List ByteArray) : List ByteArray)).bind fun y433 => ((spec_l01Next.f x1000 x1001 x1002 4).bind fun bt436 => (if 0 ≤ bt436.1 then (if bt436.1 < (y433.length : Int) then (some (rdOf ByteArray.empty y433 bt436.1, bt436.2.1, bt436.2.2)) else (none)) else (none))))
def spec_l17Name.f (k : Nat) (s0_0 : List Int) (s0_1 : Int) (s0_2 : Int) (l1 : List (S65)) : Option (ByteArray × Int × Int) := if (l1.length : Int) > 0 then ((spec_l01Next.f s0_0 s0_1 s0_2 8).bind fun bt426 => (spec_l17Name.j0 k l1 (decide (bt426.1 > 0)) s0_0 bt426.2.1 bt426.2.2)) else (spec_l17Name.j0 k l1 false s0_0 s0_1 s0_2)
theorem spec_l17Name.mono_l : ∀ k, (∀ y0 y1 y2 y3 y4, LeO (spec_l17Name.j0 k y0 y1 y2 y3 y4) (spec_l17Name.j0 (k + 1) y0 y1 y2 y3 y4))
 | 0 => fun _ _ _ _ _ r h => by simp [spec_l17Name.j0] at h
 | k + 1 => by
  have ih0 := spec_l17Name.mono_l k
  ·intro y0 y1 y2 y3 y4
   unfold spec_l17Name.j0
   repeat' first
   | (with_reducible exact ih0 _ _ _ _ _)
   | (with_reducible exact LeO.refl _)
   | (with_reducible exact LeO.none _)
   | (with_reducible refine LeO.ite ?_ ?_)
   | (with_reducible refine LeO.bind ?_ (fun _ => ?_))
   | exact ih0 _ _ _ _ _
   | exact LeO.none _
   | refine LeO.ite ?_ ?_
   | refine LeO.bind ?_ (fun _ => ?_)
theorem spec_l17Name.mono : ∀ a0 a1 a2 a3 k, LeO (spec_l17Name.f k a0 a1 a2 a3) (spec_l17Name.f (k + 1) a0 a1 a2 a3) := by
 intro a0 a1 a2 a3 k
 have ih0 := spec_l17Name.mono_l k
 unfold spec_l17Name.f
 repeat' first
   | (with_reducible exact ih0 _ _ _ _ _)
   | (with_reducible exact LeO.refl _)
   | (with_reducible exact LeO.none _)
   | (with_reducible refine LeO.ite ?_ ?_)
   | (with_reducible refine LeO.bind ?_ (fun _ => ?_))
   | exact ih0 _ _ _ _ _
   | exact LeO.none _
   | refine LeO.ite ?_ ?_
   | refine LeO.bind ?_ (fun _ => ?_)
set_option maxHeartbeats 8000000 in
set_option maxRecDepth 100000 in
theorem spec_l17Name.calls (k : Nat) (g : Nat) (s0_0 : List Int) (s0_1 : Int) (s0_2 : Int) (A1 : Option Addr) (c1 : Nat) (l1 : List (S65)) (r1 : ByteArray) (r2 : Int) (r3 : Int) (w0 w : World) (hI : IsS92 w0 w g s0_0 s0_1 s0_2) (hB : Below w0.heap.size w0 w) (hr1 : ∀ W_, KeepBut w W_ g none → Kd.C k65 W_ A1 l1.length l1) (hc1 : l1.length ≤ c1) (h : spec_l17Name.f k s0_0 s0_1 s0_2 l1 = some (r1, r2, r3)) :
  Calls Try.prog 77 #[.pointer (some ⟨g, 0, none⟩), .slice A1 l1.length c1] w fun e w' => e = .returned (.string r1) ∧ IsS92 w0 w' g s0_0 r2 r3 ∧ Below w0.heap.size w0 w' ∧ KeepBut w w' g none := by
 have HR1 := jA hr1
 have HC1 := jA hc1
 clear hr1 hc1
 have HI0 := jA hI
 have HK := jA (KeepBut.refl w g none)
 have HL := jA hB.size
 clear hI
 have HW0 := jA hB.size
 have HB := jA hB
 clear hB
 have H := h
 unfold spec_l17Name.f at H
 clear h
 have HC3 := jA H
 clear H
 go_enter Try.func77, Try.ntmps77
 go_upto_region 1 with (fail)
 go_cut [12] (fun v12 wc => ∃ (kq : Nat) (x12_2 : Bool) (x1001_2 : Int) (x1002_2 : Int), v12 = .bool x12_2 ∧ Aside0 (spec_l17Name.j0 kq l1 x12_2 s0_0 x1001_2 x1002_2 = some (r1, r2, r3)) ∧ Aside0 (kq ≤ k) ∧ Aside0 (IsS92 w0 wc g s0_0 x1001_2 x1002_2) ∧ Aside0 (KeepBut w wc g none) ∧ Aside0 (Below w0.heap.size w0 wc))
 case first =>
  have H := HC3.out
  clear HC3
  by_cases c4 : (l1.length : Int) > 0
  ·rw [if_pos c4] at H
   have c4b0 : decide (0 < (l1.length : Int)) = true := jJ c4
   have c4b1 : decide (0 < l1.length) = true := jJ (by omega)
   clear c4
   (first | rw [c4b0] | (simp only [i64_w, i32_w]; rw [c4b0]) | rw [c4b1] | skip)
   replace H := jB.mp H
   obtain ⟨⟨t426, t427, t428⟩, A50, H⟩ := H
   try dsimp only at H
   have A5 := jA A50
   clear A50
   have H' := jA H
   clear H
   go_wp2_with (first | (go_at_call 79; (with_reducible refine (spec_l01Next.calls g s0_0 s0_1 s0_2 8 t426 t427 t428 w0 _ ?side1 ?side2 A5.out).mono ?_); (case side1 => exact zr2 HI0); (case side2 => exact zr3 HB HI0); rintro e w6 ⟨rfl, hi, hb, hk⟩; replace HK := jA (KeepBut.trans (zh0 HK) hk (.inl rfl)); replace HB := jA (hb); replace HI0 := jA (hi); (try clear hb); (try clear hb2); (try clear hk); (try clear hi)))
   go_meet
   case rel => exact ⟨_, (decide (t426 > 0)), (t427), (t428), zz, H', ⟨by first | omega | exact Nat.le_refl _⟩, ⟨zr2 HI0⟩, ⟨zh0 HK⟩, ⟨zr3 HB HI0⟩⟩
  ·rw [if_neg c4] at H
   have c4b0 : decide (0 < (l1.length : Int)) = false := jQ c4
   have c4b1 : decide (0 < l1.length) = false := jQ (by omega)
   clear c4
   (first | rw [c4b0] | (simp only [i64_w, i32_w]; rw [c4b0]) | rw [c4b1] | skip)
   have H' := jA H
   clear H
   go_wp2
   go_meet
   case rel => exact ⟨_, (false), (s0_1), (s0_2), zz, H', ⟨by first | omega | exact Nat.le_refl _⟩, ⟨zr2 HI0⟩, ⟨zh0 HK⟩, ⟨zr3 HB HI0⟩⟩
 case rest =>
  clear HC3
  try clear c1
  try clear p2
  try clear c4
  try clear c4b0
  try clear c4b1
  obtain ⟨kq, x12_2, x1001_2, x1002_2, rfl, HA, HJ2, HI0, HK, HB⟩ := hcut
  cases kq with
  | zero => exact absurd HA.out (by simp [spec_l17Name.j0])
  | succ kj2 =>
   have H := HA.out
   clear HA
   simp only [spec_l17Name.j0] at H
   by_cases c7 : x12_2 = true
   ·subst c7
    rw [if_pos rfl] at H
    replace H := jB.mp H
    obtain ⟨⟨t429, t430, t431⟩, A80, H⟩ := H
    try dsimp only at H
    have A8 := jA A80
    clear A80
    by_cases c9 : 0 ≤ t429
    ·rw [if_pos c9] at H
     have c9b0 : decide (0 ≤ t429) = true := jJ c9
     clear c9
     by_cases c10 : t429 < (l1.length : Int)
     ·rw [if_pos c10] at H
      have c10b0 : decide (t429 < (l1.length : Int)) = true := jJ c10
      clear c10
      simp only [jN, jO] at H
      obtain ⟨rfl, rfl, rfl⟩ := H
      go_wp2_with (first | ((with_reducible refine jD (f := 79) rfl ?_); refine zL (some 17) Try.func79 #[.pointer (some ⟨g, 0, none⟩), .int .i64 (l1.length : Int)] ?_; (with_reducible refine (spec_l01Next.calls g s0_0 x1001_2 x1002_2 (l1.length : Int) t429 t430 t431 w0 _ ?side1 ?side2 A8.out).mono ?_); (case side1 => exact zr2 HI0); (case side2 => exact zr3 HB HI0); rintro e w11 ⟨rfl, hi, hb, hk⟩; refine ⟨_, rfl, ?_⟩; replace HK := jA (KeepBut.trans (zh0 HK) hk (.inl rfl)); replace HB := jA (hb); replace HI0 := jA (hi); (try clear hb); (try clear hb2); (try clear hk); (try clear hi); have p432 : 0 ≤ (t429 : Int) := jC za; have q432 : t429 < (l1.length : Int) := jC za; obtain ⟨ad432, e432, hx432_0, hx432_1, hx432_2, hx432_3, hx432_4, hx432_5, hx432_6, hx432_7, hx432_8⟩ := at_T65 (Kd.C_foot_now HR1.out HK.out) t429 p432 q432; cases e432; replace p432 := eq_true p432; replace q432 := eq_true q432))
      go_ret
      exact ⟨ze, zr2 HI0, zr3 HB HI0, zh0 HK⟩
     ·rw [if_neg c10] at H
      exact absurd H (by simp)
    ·rw [if_neg c9] at H
     exact absurd H (by simp)
   ·replace c7 := Bool.eq_false_iff.mpr c7
    subst c7
    rw [if_neg zfalse] at H
    obtain ⟨y433, hy433⟩ : ∃ y_ : List ByteArray, y_ = (([(⟨#[110, 111, 110, 101]⟩ : ByteArray), (⟨#[]⟩ : ByteArray), (⟨#[45]⟩ : ByteArray), (⟨#[112, 101, 111, 110, 121]⟩ : ByteArray)] : List ByteArray)) := ⟨_, rfl⟩
    replace H : ((spec_l01Next.f s0_0 x1001_2 x1002_2 4).bind fun bt436 => (if 0 ≤ bt436.1 then (if bt436.1 < (y433.length : Int) then (some (rdOf ByteArray.empty y433 bt436.1, bt436.2.1, bt436.2.2)) else (none)) else (none))) = some (r1, r2, r3) := by first | (rw [hy433]; with_reducible exact H) | (have H2_ := (Option.bind_some _ _).symm.trans H; rw [hy433]; with_reducible exact H2_) | (have H2_ := (Option.bind_some _ _).symm.trans H; with_reducible exact H2_) | with_reducible exact H | (rw [hy433]; exact H) | exact H
    have Ny433 := jA hy433
    clear hy433
    replace H := jB.mp H
    obtain ⟨⟨t436, t437, t438⟩, A120, H⟩ := H
    try dsimp only at H
    have A12 := jA A120
    clear A120
    by_cases c13 : 0 ≤ t436
    ·rw [if_pos c13] at H
     have c13b0 : decide (0 ≤ t436) = true := jJ c13
     clear c13
     by_cases c14 : t436 < (y433.length : Int)
     ·rw [if_pos c14] at H
      have c14b0 : decide (t436 < (y433.length : Int)) = true := jJ c14
      clear c14
      simp only [jN, jO] at H
      obtain ⟨rfl, rfl, rfl⟩ := H
      go_wp2_with (first | ((with_reducible refine jL (N := 21) rfl ?_); refine Kd.R_lit Kd.string _ 9 ?hg (N := 21) ?hd (xs := ([(⟨#[110, 111, 110, 101]⟩ : ByteArray), (⟨#[]⟩ : ByteArray), (⟨#[45]⟩ : ByteArray), (⟨#[112, 101, 111, 110, 121]⟩ : ByteArray)] : List ByteArray)) (inner := [.string (⟨#[110, 111, 110, 101]⟩ : ByteArray), .string (⟨#[]⟩ : ByteArray), .string (⟨#[45]⟩ : ByteArray), .string (⟨#[112, 101, 111, 110, 121]⟩ : ByteArray)]) (ok := fun _ => True) (okp := fun _ => True) ?hr ?hp (fun _ hk => hk) trivial (Below.refl _ _) (Nat.le_refl _) (by simp) ?_; (case hd => rfl); (case hg => rfl); (case hr => first | (go_simp; done) | (go_simp; rfl)); (case hp => exact (Reps.one (show Kd.M Kd.string _ _ _ (⟨#[110, 111, 110, 101]⟩ : ByteArray) [.string (⟨#[110, 111, 110, 101]⟩ : ByteArray)] from rfl) (Reps.one (show Kd.M Kd.string _ _ _ (⟨#[]⟩ : ByteArray) [.string (⟨#[]⟩ : ByteArray)] from rfl) (Reps.one (show Kd.M Kd.string _ _ _ (⟨#[45]⟩ : ByteArray) [.string (⟨#[45]⟩ : ByteArray)] from rfl) (Reps.one (show Kd.M Kd.string _ _ _ (⟨#[112, 101, 111, 110, 121]⟩ : ByteArray) [.string (⟨#[112, 101, 111, 110, 121]⟩ : ByteArray)] from rfl) (Reps.none _ _)))))); intro v434 w15 ho16 hb hg_ hnew_; clear hg_ hnew_; (first | rw [← Ny433.out] at ho16 | (simp only [Int.reduceToNat] at ho16; rw [← Ny433.out] at ho16)); have HO435 := jA (jU ho16 (keep_size (w := w) (g := g) (row := none) (zh0 HK))); replace HK := jA (KeepBut.trans (zh0 HK) (KeepBut.of_below hb g none) (.inl rfl)); replace HB := jA (jV (zr3 HB HI0) hb); replace HI0 := jA (IsS92.below (zr2 HI0) hb); clear hb ho16) | ((with_reducible refine jD (f := 79) rfl ?_); refine zL (some 23) Try.func79 #[.pointer (some ⟨g, 0, none⟩), .int .i64 4] ?_; (with_reducible refine (spec_l01Next.calls g s0_0 x1001_2 x1002_2 4 t436 t437 t438 w0 _ ?side1 ?side2 A12.out).mono ?_); (case side1 => exact zr2 HI0); (case side2 => exact zr3 HB HI0); rintro e w17 ⟨rfl, hi, hb, hk⟩; refine ⟨_, rfl, ?_⟩; replace HO435 := jA (Kd.R_mono (Kd.R_keep (IsS92.apart (show IsS92 w0 _ g s0_0 x1001_2 x1002_2 from zr2 HI0) (zo HO435) (by decide)) hk (fun _ h => h.2)) (fun _ h => h.1)); replace HK := jA (KeepBut.trans (zh0 HK) hk (.inl rfl)); replace HB := jA (hb); replace HI0 := jA (hi); (try clear hb); (try clear hb2); (try clear hk); (try clear hi); obtain ⟨Ao18, co18, eo18⟩ := Kd.R_slice HO435.out; subst eo18; have p439 : 0 ≤ (t436 : Int) := jC za; have q439 : t436 < (y433.length : Int) := jC za; obtain ⟨ad439, e439, hx439_0⟩ := Kd.at_string (jM HO435.out).2.2 t436 p439 q439; cases e439; replace p439 := eq_true p439; replace q439 := eq_true q439))
      go_ret
      exact ⟨ze, zr2 HI0, zr3 HB HI0, zh0 HK⟩
     ·rw [if_neg c14] at H
      exact absurd H (by simp)
    ·rw [if_neg c13] at H
     exact absurd H (by simp)

/-! ### spec_DrawStorePieces: function 38 -/
def spec_DrawStorePieces.f (k : Nat) (l0 : List Int) : Option ((List (S65)) × Int × List Int × ByteArray × Int) := (spec_l01From.f k l0).bind fun bt441 => ((spec_l26Draw.f k bt441.1 bt441.2.1 bt441.2.2).bind fun bt445 => ((spec_l17Name.f k bt441.1 bt445.2.2.2.1 bt445.2.2.2.2 bt445.1).bind fun bt455 => ((spec_l01Next.f bt441.1 bt455.2.1 bt455.2.2 8).bind fun bt458 => ((spec_l01Next.f bt441.1 bt458.2.1 bt458.2.2 30).bind fun bt461 => ((spec_l01Pick.f bt441.1 bt461.2.1 bt461.2.2 (([bt458.1, 1, 0, 1000, 1001, bt461.1, (-1)] : List Int))).bind fun bt467 => (some (bt445.1, bt445.2.1, bt445.2.2.1, bt455.1, bt467.1)))))))
theorem spec_DrawStorePieces.mono : ∀ a0 k, LeO (spec_DrawStorePieces.f k a0) (spec_DrawStorePieces.f (k + 1) a0) := by
 intro a0 k
 unfold spec_DrawStorePieces.f
 repeat' first
   | (with_reducible exact spec_l01From.mono _ _)
   | (with_reducible exact spec_l17Name.mono _ _ _ _ _)
   | (with_reducible exact spec_l26Draw.mono _ _ _ _)
   | (with_reducible exact LeO.refl _)
   | (with_reducible exact LeO.none _)
   | (with_reducible refine LeO.ite ?_ ?_)
   | (with_reducible refine LeO.bind ?_ (fun _ => ?_))
   | exact spec_l01From.mono _ _
   | exact spec_l17Name.mono _ _ _ _ _
   | exact spec_l26Draw.mono _ _ _ _
   | exact LeO.none _
   | refine LeO.ite ?_ ?_
   | refine LeO.bind ?_ (fun _ => ?_)
def spec_DrawStorePieces.T3 : Bool × List (List Nat × List Nat) := (true, [([], []), ([], []), ([], []), ([], []), ([2, 3], [2, 3]), ([], []), ([], []), ([6, 4], [6]), ([], []), ([8, 7], [8]), ([7, 9], [7, 9]), ([5, 10, 9], [5, 10]), ([0, 11, 0], [0]), ([1, 12, 0, 1, 12], [1]), ([4, 13, 0, 1, 2, 3, 4, 12, 13], [4]), ([11, 14, 0, 1, 2, 3, 4, 5, 6, 7, 8, 9, 10, 11, 12, 13, 14], [11])])
def spec_DrawStorePieces.B3 : List Nat := [0, 0, 0, 0, 12, 0, 0, 92, 0, 476, 988, 2044, 4093, 8191, 16383, 32767]
theorem spec_DrawStorePieces.tab3 : rtab .any (opsOf Try.f38 3) = spec_DrawStorePieces.T3 := by kernel_rfl
theorem spec_DrawStorePieces.bits3 : waitsOk spec_DrawStorePieces.T3.2 spec_DrawStorePieces.B3 = true := by kernel_rfl
set_option maxHeartbeats 8000000 in
set_option maxRecDepth 100000 in
theorem spec_DrawStorePieces.calls (k : Nat) (A0 : Option Addr) (c0 : Nat) (l0 : List Int) (r1 : List (S65)) (r2 : Int) (r3 : List Int) (r4 : ByteArray) (r5 : Int) (w : World) (hr0 : Kd.C (Kd.int .u8) w A0 l0.length l0) (hc0 : l0.length ≤ c0) (h : spec_DrawStorePieces.f k l0 = some (r1, r2, r3, r4, r5)) :
  Calls Try.prog 38 #[.slice A0 l0.length c0] w fun e w' => ∃ v0_ v2_ : Value, e = .returned (.tuple #[v0_, .agg #[.int .i64 r2, v2_], .string r4, .int .i64 r5]) ∧ Kd.R k65 65 w' w.heap.size (fun _ => True) v0_ r1 ∧ Kd.R (Kd.int .i64) 2 w' w.heap.size (fun _ => True) v2_ r3 ∧ Below w.heap.size w w' := by
 have hu28 := Try.underlying28
 have HR0 := jA hr0
 have HC0 := jA hc0
 clear hr0 hc0
 have HB := jA (Below.refl w.heap.size w)
 have H := h
 unfold spec_DrawStorePieces.f at H
 clear h
 replace H := jB.mp H
 obtain ⟨⟨t441, t442, t443⟩, A20, H⟩ := H
 try dsimp only at H
 have A2 := jA A20
 clear A20
 replace H := jB.mp H
 obtain ⟨⟨t445, t448, t449, t452, t453⟩, A30, H⟩ := H
 try dsimp only at H
 have A3 := jA A30
 clear A30
 replace H := jB.mp H
 obtain ⟨⟨t455, t456, t457⟩, A40, H⟩ := H
 try dsimp only at H
 have A4 := jA A40
 clear A40
 replace H := jB.mp H
 obtain ⟨⟨t458, t459, t460⟩, A50, H⟩ := H
 try dsimp only at H
 have A5 := jA A50
 clear A50
 replace H := jB.mp H
 obtain ⟨⟨t461, t462, t463⟩, A60, H⟩ := H
 try dsimp only at H
 have A6 := jA A60
 clear A60
 obtain ⟨y464, hy464⟩ : ∃ y_ : List Int, y_ = (([t458, 1, 0, 1000, 1001, t461, (-1)] : List Int)) := ⟨_, rfl⟩
 replace H : ((spec_l01Pick.f t441 t462 t463 y464).bind fun bt467 => (some (t445, t448, t449, t455, bt467.1))) = some (r1, r2, r3, r4, r5) := by first | (rw [hy464]; with_reducible exact H) | (have H2_ := (Option.bind_some _ _).symm.trans H; rw [hy464]; with_reducible exact H2_) | (have H2_ := (Option.bind_some _ _).symm.trans H; with_reducible exact H2_) | with_reducible exact H | (rw [hy464]; exact H) | exact H
 have Ny464 := jA hy464
 clear hy464
 replace H := jB.mp H
 obtain ⟨⟨t467, t468, t469⟩, A70, H⟩ := H
 try dsimp only at H
 have A7 := jA A70
 clear A70
 simp only [jN, jO] at H
 obtain ⟨rfl, rfl, rfl, rfl, rfl⟩ := H
 go_enter Try.func38, Try.ntmps38
 try go_wp2_with (first | ((with_reducible refine jL (N := 3) rfl ?_); refine zE 3 #[.int .i64 0, .slice none 0 0] 28 ?_; intro gb440 hg w8 hbox hb; have BK440 := jA (hbox); have GW440 := zg0 hg HB; have GE440 := zg0 hg HB; replace HB := zS0 HB hb; clear hb hbox hg) | ((with_reducible refine jD (f := 75) rfl ?_); refine zL (some 10) Try.func75 #[.slice A0 l0.length c0] ?_; (with_reducible refine (spec_l01From.calls k _ _ l0 t441 t442 t443 w _ ?side1 ?side2 ?side3 A2.out).mono ?_); (case side1 => exact zr1 HB GE440); (case side2 => exact HR0.out); (case side3 => exact HC0.out); rintro e w9 ⟨g444, rfl, hi, hb, hb2⟩; refine ⟨_, rfl, ?_⟩; replace HB := jA (hb); have HI444 := jA (hi); have NB444_440 := jA (IsS92.ne_blk hi (blk_below (g := gb440) (o := .cells #[.int .i64 0, .slice none 0 0] 28 (0, 0)) (zk BK440) hb2) (by decide)); have NB440_444 := jA (Ne.symm (IsS92.ne_blk hi (blk_below (g := gb440) (o := .cells #[.int .i64 0, .slice none 0 0] 28 (0, 0)) (zk BK440) hb2) (by decide))); replace BK440 := zB BK440 hb2; (try clear hb); (try clear hb2); (try clear hk); (try clear hi)) | ((with_reducible refine jD (f := 76) rfl ?_); refine zL (some 13) Try.func76 #[.pointer (some ⟨g444, 0, none⟩)] ?_; (with_reducible refine (spec_l26Draw.calls k g444 t441 t442 t443 t445 t448 t449 t452 t453 w _ ?side1 ?side2 A3.out).mono ?_); (case side1 => exact zr4 HI444 NB444_440); (case side2 => exact zr5 HB HI444 GE440); rintro e w10 ⟨v446, v450, rfl, ho0, ho1, hi, hb, hk⟩; refine ⟨_, rfl, ?_⟩; replace BK440 := zK hk BK440 NB440_444; have HO447 := jA (jU ho0 (jW (zr5 HB HI444 GE440))); have HO451 := jA (jU ho1 (jW (zr5 HB HI444 GE440))); replace HB := jA (hb); replace HI444 := jA (hi); (try clear hb); (try clear hb2); (try clear hk); (try clear hi); (try clear ho0); (try clear ho1)) | ((with_reducible refine jL (N := 8) rfl ?_); refine zE 8 #[.int .i64 0, .slice none 0 0] 28 ?_; intro gb454 hg w11 hbox hb; replace HO447 := jA (jF (zo HO447) hb); replace HO451 := jA (jF (zo HO451) hb); have BK454 := jA (hbox); have GW454 := jA ((by rw [hg]; exact (jW (zr5 HB HI444 GE440)) : w.heap.size ≤ gb454)); replace HB := jA (jV (zr5 HB HI444 GE440) hb); have GE454 := GW454; have NB440_454 := zn hg BK440; replace BK440 := zB BK440 hb; have NB454_440 := jA NB440_454.out.symm; have NB444_454 := jA ((by rw [hg]; exact Nat.ne_of_lt (IsS92.lt (show IsS92 w _ g444 t441 t452 t453 from zr4 HI444 NB444_440)) : g444 ≠ gb454)); have NB454_444 := jA ((by rw [hg]; exact Nat.ne_of_gt (IsS92.lt (show IsS92 w _ g444 t441 t452 t453 from zr4 HI444 NB444_440)) : gb454 ≠ g444)); replace HI444 := jA (IsS92.below (zr4 HI444 NB444_440) hb); clear hb hbox hg; have hnb12 := NB454_440.out; have hnc12 := NB440_454.out; have hnb13 := NB454_444.out; have hnc13 := NB444_454.out; have hcz14 := zc2 BK454; obtain ⟨Ao15, co15, eo15⟩ := Kd.R_slice HO451.out; subst eo15))
 have n0_ : Aside0 (Kd.R k65 65 ((w11.setCell ⟨gb454, 0, none⟩ (.int .i64 t448)).setCell ⟨gb454, 1, none⟩ (.slice Ao15 t449.length co15)) w.heap.size (fun _ => True) v446 t445) := ⟨zT HO447 BK454⟩
 have n1_ : Aside0 (Kd.R (Kd.int .i64) 2 ((w11.setCell ⟨gb454, 0, none⟩ (.int .i64 t448)).setCell ⟨gb454, 1, none⟩ (.slice Ao15 t449.length co15)) w.heap.size (fun _ => True) (.slice Ao15 t449.length co15) t449) := ⟨zT HO451 BK454⟩
 have n2_ : Aside0 (((w11.setCell ⟨gb454, 0, none⟩ (.int .i64 t448)).setCell ⟨gb454, 1, none⟩ (.slice Ao15 t449.length co15)).heap[gb440]? = some (.cells #[.int .i64 0, .slice none 0 0] 28 (0, 0))) := ⟨zQ1 BK440 NB440_454⟩
 have n3_ : Aside0 (((w11.setCell ⟨gb454, 0, none⟩ (.int .i64 t448)).setCell ⟨gb454, 1, none⟩ (.slice Ao15 t449.length co15)).heap[gb454]? = some (.cells #[.int .i64 t448, .slice Ao15 t449.length co15] 28 (0, 0))) := ⟨zP0 BK454⟩
 have n4_ : Aside0 (IsS92 w ((w11.setCell ⟨gb454, 0, none⟩ (.int .i64 t448)).setCell ⟨gb454, 1, none⟩ (.slice Ao15 t449.length co15)) g444 t441 t452 t453) := ⟨zr6 HI444 NB444_440 NB444_454⟩
 have n5_ : Aside0 (Below w.heap.size w ((w11.setCell ⟨gb454, 0, none⟩ (.int .i64 t448)).setCell ⟨gb454, 1, none⟩ (.slice Ao15 t449.length co15))) := ⟨zr7 HB HI444 GE440 GE454⟩
 (try clear HO447)
 (try clear HO451)
 (try clear BK440)
 (try clear BK454)
 (try clear HI444)
 (try clear HB)
 generalize ((w11.setCell ⟨gb454, 0, none⟩ (.int .i64 t448)).setCell ⟨gb454, 1, none⟩ (.slice Ao15 t449.length co15)) = w16 at n0_ n1_ n2_ n3_ n4_ n5_ ⊢
 have HO447 := n0_
 have HO451 := n1_
 have BK440 := n2_
 have BK454 := n3_
 have HI444 := n4_
 have HB := n5_
 clear n0_ n1_ n2_ n3_ n4_ n5_
 replace HO447 := jA (jR HO447.out)
 replace HO451 := jA (jR HO451.out)
 replace BK440 := jA (blk_drew BK440.out)
 replace BK454 := jA (blk_drew BK454.out)
 replace HI444 := jA (IsS92.drew HI444.out)
 replace HB := jA (below_drew1 HB.out)
 obtain ⟨Ao18, co18, eo18⟩ := Kd.R_slice HO447.out
 (first | subst eo18 | (injection eo18 with f1_ f2_ f3_; have f4_ := f1_.symm; have f5_ := f3_.symm; clear f1_ f2_ f3_; subst f4_; subst f5_))
 refine start_ (n := 16) (S := fun w' => w'.cell? ⟨gb454, 0, none⟩ = some (.int .i64 t448) ∧ w'.cell? ⟨gb454, 1, none⟩ = some (.slice Ao15 t449.length co15)) (ds := []) m16_0 zr rfl rfl ⟨(jG BK454.out 0).trans rfl, (jG BK454.out 1).trans rfl⟩ (fun hHeld => ?_); refine with_tabW spec_DrawStorePieces.tab3 spec_DrawStorePieces.bits3 (fun HT_ HW_ => ?_)
 generalize w16.drew = w17 at HO447 HO451 BK440 BK454 HI444 HB hHeld ⊢
 refine zp HT_ 0 16 m16_8000 ?_
 refine zp HT_ 2 18 #[true, false, true, false, false, false, false, false, false, false, false, false, false, false, false, false] ?_
 refine zp HT_ 3 19 #[true, false, true, true, false, false, false, false, false, false, false, false, false, false, false, false] ?_
 refine zp HT_ 5 21 #[true, false, true, true, false, true, false, false, false, false, false, false, false, false, false, false] ?_
 refine zp HT_ 6 22 #[true, false, true, true, false, true, true, false, false, false, false, false, false, false, false, false] ?_
 refine zp HT_ 8 24 #[true, false, true, true, false, true, true, false, true, false, false, false, false, false, false, false] ?_
 refine zt2 HT_ HW_ hHeld 1 17 #[true, true, true, true, false, true, true, false, true, false, false, false, false, false, false, false] ?_
 refine one_ (i := 4) (N := some 20) #[true, true, true, true, true, true, true, false, true, false, false, false, false, false, false, false] rfl rfl (one_of HT_.out zr) (by decide) (fun K hK => ?_)
 refine goes_ Try.func77 zr rfl #[.pointer (some ⟨g444, 0, none⟩), .slice Ao18 t445.length co18] (by rfl) rfl rfl zm ?_
 with_reducible refine (spec_l17Name.calls k g444 t441 t452 t453 _ _ t445 t455 t456 t457 w _ ?side1 ?side2 ?side3 ?side4 A4.out).mono ?_
 (case side1 => exact zr6 HI444 NB444_440 NB444_454)
 (case side2 => exact zr7 HB HI444 GE440 GE454)
 (case side3 => exact Kd.C_foot_own (IsS92.apart (show IsS92 w _ g444 t441 t452 t453 from zr6 HI444 NB444_440 NB444_454) (zo HO447) (by decide)) (fun _ h_ => h_.2))
 (case side4 => exact (jM HO447.out).2.1)
 rintro e w19 ⟨rfl, hi, hb, hk⟩
 refine ⟨_, rfl, ?_⟩
 replace BK440 := zK hk BK440 NB440_444
 replace HO447 := jA (Kd.R_mono (Kd.R_keep (IsS92.apart (show IsS92 w _ g444 t441 t452 t453 from zr6 HI444 NB444_440 NB444_454) (zo HO447) (by decide)) hk (fun _ h => h.2)) (fun _ h => h.1))
 replace HO451 := jA (Kd.R_mono (Kd.R_keep (IsS92.apart (show IsS92 w _ g444 t441 t452 t453 from zr6 HI444 NB444_440 NB444_454) (zo HO451) (by decide)) hk (fun _ h => h.2)) (fun _ h => h.1))
 replace BK454 := zK hk BK454 NB454_444
 replace HB := jA (hb)
 replace HI444 := jA (hi)
 (try clear hb)
 (try clear hb2)
 (try clear hk)
 (try clear hi)
 refine hK.out _ _ ⟨(jG BK454.out 0).trans rfl, (jG BK454.out 1).trans rfl⟩ (fun hHeld => ?_)
 clear hK K
 refine norm_ (a' := ?_) ?_ ?_
 rotate_left
 ·show Act.put _ (some 20) _ = _
  simp only [Act.put, jE, jH, jI, i64_w, i32_w]
  rfl
 refine one_ (i := 7) (N := some 23) m16_ff80 rfl rfl (one_of HT_.out zr) (by decide) (fun K hK => ?_)
 refine goes_ Try.func79 zr rfl #[.pointer (some ⟨g444, 0, none⟩), .int .i64 8] (by rfl) rfl rfl zm ?_
 with_reducible refine (spec_l01Next.calls g444 t441 t456 t457 8 t458 t459 t460 w _ ?side1 ?side2 A5.out).mono ?_
 (case side1 => exact zr6 HI444 NB444_440 NB444_454)
 (case side2 => exact zr7 HB HI444 GE440 GE454)
 rintro e w20 ⟨rfl, hi, hb, hk⟩
 refine ⟨_, rfl, ?_⟩
 replace BK440 := zK hk BK440 NB440_444
 replace HO447 := jA (Kd.R_mono (Kd.R_keep (IsS92.apart (show IsS92 w _ g444 t441 t456 t457 from zr6 HI444 NB444_440 NB444_454) (zo HO447) (by decide)) hk (fun _ h => h.2)) (fun _ h => h.1))
 replace HO451 := jA (Kd.R_mono (Kd.R_keep (IsS92.apart (show IsS92 w _ g444 t441 t456 t457 from zr6 HI444 NB444_440 NB444_454) (zo HO451) (by decide)) hk (fun _ h => h.2)) (fun _ h => h.1))
 replace BK454 := zK hk BK454 NB454_444
 replace HB := jA (hb)
 replace HI444 := jA (hi)
 (try clear hb)
 (try clear hb2)
 (try clear hk)
 (try clear hi)
 refine hK.out _ _ ⟨(jG BK454.out 0).trans rfl, (jG BK454.out 1).trans rfl⟩ (fun hHeld => ?_)
 clear hK K
 refine norm_ (a' := ?_) ?_ ?_
 rotate_left
 ·show Act.put _ (some 23) _ = _
  simp only [Act.put, jE, jH, jI, i64_w, i32_w]
  rfl
 refine one_ (i := 9) (N := some 25) m16_ffc0 rfl rfl (one_of HT_.out zr) (by decide) (fun K hK => ?_)
 refine goes_ Try.func79 zr rfl #[.pointer (some ⟨g444, 0, none⟩), .int .i64 30] (by rfl) rfl rfl zm ?_
 with_reducible refine (spec_l01Next.calls g444 t441 t459 t460 30 t461 t462 t463 w _ ?side1 ?side2 A6.out).mono ?_
 (case side1 => exact zr6 HI444 NB444_440 NB444_454)
 (case side2 => exact zr7 HB HI444 GE440 GE454)
 rintro e w21 ⟨rfl, hi, hb, hk⟩
 refine ⟨_, rfl, ?_⟩
 replace BK440 := zK hk BK440 NB440_444
 replace HO447 := jA (Kd.R_mono (Kd.R_keep (IsS92.apart (show IsS92 w _ g444 t441 t459 t460 from zr6 HI444 NB444_440 NB444_454) (zo HO447) (by decide)) hk (fun _ h => h.2)) (fun _ h => h.1))
 replace HO451 := jA (Kd.R_mono (Kd.R_keep (IsS92.apart (show IsS92 w _ g444 t441 t459 t460 from zr6 HI444 NB444_440 NB444_454) (zo HO451) (by decide)) hk (fun _ h => h.2)) (fun _ h => h.1))
 replace BK454 := zK hk BK454 NB454_444
 replace HB := jA (hb)
 replace HI444 := jA (hi)
 (try clear hb)
 (try clear hb2)
 (try clear hk)
 (try clear hi)
 refine hK.out _ _ ⟨(jG BK454.out 0).trans rfl, (jG BK454.out 1).trans rfl⟩ (fun hHeld => ?_)
 clear hK K
 refine norm_ (a' := ?_) ?_ ?_
 rotate_left
 ·show Act.put _ (some 25) _ = _
  simp only [Act.put, jE, jH, jI, i64_w, i32_w]
  rfl
 refine one_ (i := 10) (N := some 26) m16_ffe0 rfl rfl (one_of HT_.out zr) (by decide) (fun K hK => ?_)
 refine Kd.R_lit_step (Kd.int .i64) _ 2 ?hg (N := 26) ?hd (xs := ([t458, 1, 0, 1000, 1001, t461, (-1)] : List Int)) (inner := [.int .i64 t458, .int .i64 1, .int .i64 0, .int .i64 1000, .int .i64 1001, .int .i64 t461, .int .i64 (-1)]) (ok := fun _ => True) (okp := fun _ => True) ?hr ?hp (fun _ hk => hk) trivial (Below.refl _ _) (Nat.le_refl _) (by simp) ?_; (case hd => rfl); (case hg => rfl); (case hr => first | (go_simp; done) | (go_simp; rfl)); (case hp => exact (Reps.one (show Kd.M (Kd.int .i64) _ _ _ t458 [.int .i64 t458] from rfl) (Reps.one (show Kd.M (Kd.int .i64) _ _ _ 1 [.int .i64 1] from rfl) (Reps.one (show Kd.M (Kd.int .i64) _ _ _ 0 [.int .i64 0] from rfl) (Reps.one (show Kd.M (Kd.int .i64) _ _ _ 1000 [.int .i64 1000] from rfl) (Reps.one (show Kd.M (Kd.int .i64) _ _ _ 1001 [.int .i64 1001] from rfl) (Reps.one (show Kd.M (Kd.int .i64) _ _ _ t461 [.int .i64 t461] from rfl) (Reps.one (show Kd.M (Kd.int .i64) _ _ _ (-1) [.int .i64 (-1)] from rfl) (Reps.none _ _)))))))))
 intro v465 w22 ho23 hb hg_ hnew_
 clear hg_ hnew_
 (first | rw [← Ny464.out] at ho23 | (simp only [Int.reduceToNat] at ho23; rw [← Ny464.out] at ho23))
 replace HO447 := jA (jF (zo HO447) hb)
 have HO466 := jA (jU (Kd.R_new' ho23 (Kd.R_lt (zo HO451))) (jW (zr7 HB HI444 GE440 GE454)))
 replace HO451 := jA (Kd.R_elder' (zo HO451) (Kd.R_base ho23) hb)
 replace BK440 := zB BK440 hb
 replace BK454 := zB BK454 hb
 replace HB := jA (jV (zr7 HB HI444 GE440 GE454) hb)
 replace HI444 := jA (IsS92.below (zr6 HI444 NB444_440 NB444_454) hb)
 clear hb ho23
 obtain ⟨Ao24, co24, eo24⟩ := Kd.R_slice HO466.out
 (first | subst eo24 | (injection eo24 with f1_ f2_ f3_; have f4_ := f1_.symm; have f5_ := f3_.symm; clear f1_ f2_ f3_; subst f4_; subst f5_))
 refine hK.out _ _ ⟨(jG BK454.out 0).trans rfl, (jG BK454.out 1).trans rfl⟩ (fun hHeld => ?_)
 clear hK K
 refine norm_ (a' := ?_) ?_ ?_
 rotate_left
 ·show Act.put _ (some 26) _ = _
  simp only [Act.put, jE, jH, jI, i64_w, i32_w]
  rfl
 refine one_ (i := 11) (N := some 27) m16_fff0 rfl rfl (one_of HT_.out zr) (by decide) (fun K hK => ?_)
 refine goes_ Try.func78 zr rfl #[.pointer (some ⟨g444, 0, none⟩), .slice Ao24 y464.length co24] (by rfl) rfl rfl zm ?_
 with_reducible refine (spec_l01Pick.calls g444 t441 t462 t463 _ _ y464 t467 t468 t469 w _ ?side1 ?side2 ?side3 ?side4 ?side5 A7.out).mono ?_
 (case side1 => exact zr6 HI444 NB444_440 NB444_454)
 (case side2 => exact zr7 HB HI444 GE440 GE454)
 (case side3 => exact zv HO466)
 (case side4 => exact (jM HO466.out).2.1)
 (case side5 => exact far_slice (IsS92.own_ne HI444.out HO466.out (by decide)))
 rintro e w25 ⟨rfl, hi, hb, hk⟩
 refine ⟨_, rfl, ?_⟩
 replace BK440 := zK hk BK440 NB440_444
 replace HO447 := jA (Kd.R_mono (Kd.R_keep (IsS92.apart (show IsS92 w _ g444 t441 t462 t463 from zr6 HI444 NB444_440 NB444_454) (zo HO447) (by decide)) hk (fun _ h => h.2)) (fun _ h => h.1))
 replace HO451 := jA (Kd.R_mono (Kd.R_keep (IsS92.apart (show IsS92 w _ g444 t441 t462 t463 from zr6 HI444 NB444_440 NB444_454) (zo HO451) (by decide)) hk (fun _ h => h.2)) (fun _ h => h.1))
 replace BK454 := zK hk BK454 NB454_444
 replace HO466 := jA (Kd.R_mono (Kd.R_keep (IsS92.apart (show IsS92 w _ g444 t441 t462 t463 from zr6 HI444 NB444_440 NB444_454) (zo HO466) (by decide)) hk (fun _ h => h.2)) (fun _ h => h.1))
 replace HB := jA (hb)
 replace HI444 := jA (hi)
 (try clear hb)
 (try clear hb2)
 (try clear hk)
 (try clear hi)
 refine hK.out _ _ ⟨(jG BK454.out 0).trans rfl, (jG BK454.out 1).trans rfl⟩ (fun hHeld => ?_)
 clear hK K
 refine norm_ (a' := ?_) ?_ ?_
 rotate_left
 ·show Act.put _ (some 27) _ = _
  simp only [Act.put, jE, jH, jI, i64_w, i32_w]
  rfl
 refine zp HT_ 12 2 m16_fff8 ?_
 refine one_ (i := 13) (N := none) m16_fffc rfl rfl (one_of HT_.out zr) (by decide) (fun K hK => ?_)
 have hs26 : w25.cell? ⟨gb440, 0, none⟩ = some (.int .i64 0) := (jG BK440.out 0).trans rfl
 have hfs26 := blk_frozen BK440.out 0
 have hns26_1 := NB454_440.out
 have hms26_1 := NB440_454.out
 have hs27 : w25.cell? ⟨gb440, 1, none⟩ = some (.slice none 0 0) := (jG BK440.out 1).trans rfl
 have hfs27 := blk_frozen BK440.out 1
 have hns27_1 := NB454_440.out
 have hms27_1 := NB440_454.out
 refine skip_ (w1 := ?_) (by rfl) rfl ?_ ?_
 rotate_left
 ·go_simp
  rfl
 refine hK.out _ _ ⟨((jP (p := ⟨gb440, _, none⟩) NB454_440.out _).trans (((jP (p := ⟨gb440, _, none⟩) NB454_440.out _).trans (hHeld.1)))), ((jP (p := ⟨gb440, _, none⟩) NB454_440.out _).trans (((jP (p := ⟨gb440, _, none⟩) NB454_440.out _).trans (hHeld.2))))⟩ (fun hHeld => ?_)
 clear hK K
 refine zp HT_ 14 4 m16_fffe ?_
 refine zp HT_ 15 5 m16_ffff ?_
 refine done_ (done_of HT_.out zr) ?_
 try go_wp2
 refine jX (results_list (rs := [.tmp 2, .cell 3 28, .tmp 4, .tmp 5]) rfl (by simp) (.tmp (.cell gb440 28 #[.int .i64 t448, .slice Ao15 t449.length co15] (0, 0) _ rfl (zP0 BK440) Try.underlying28 rfl zr (.tmp (.tmp .nil))))) rfl ?_
 exact ⟨_, _, by first | rfl | (simp [errW_none, errW_some] <;> rfl) | (simp [*, errW_none, errW_some] <;> rfl), zT HO447 BK440, zT HO451 BK440, zr7 HB HI444 GE440 GE454⟩

/-! ### impl_isStored: function 71 -/
def impl_isStored.f (k : Nat) (l0 : List (S65)) (a1_0 : Int) (l1_1 : List Int) (a2 : Int) (a3 : Int) : Option (Bool) := (impl_withPieces.f a1_0 l1_1 a2 a3).bind fun bt471 => ((impl_IsMagazine.f k l0 bt471.1 bt471.2).bind fun t476 => (if t476 = true then ((impl_isLawful.f k l0 bt471.1 bt471.2).bind fun t477 => (some t477)) else (some false)))
theorem impl_isStored.mono : ∀ a0 a1 a2 a3 a4 k, LeO (impl_isStored.f k a0 a1 a2 a3 a4) (impl_isStored.f (k + 1) a0 a1 a2 a3 a4) := by
 intro a0 a1 a2 a3 a4 k
 unfold impl_isStored.f
 repeat' first
   | (with_reducible exact impl_IsMagazine.mono _ _ _ _)
   | (with_reducible exact impl_isLawful.mono _ _ _ _)
   | (with_reducible exact LeO.refl _)
   | (with_reducible exact LeO.none _)
   | (with_reducible refine LeO.ite ?_ ?_)
   | (with_reducible refine LeO.bind ?_ (fun _ => ?_))
   | exact impl_IsMagazine.mono _ _ _ _
   | exact impl_isLawful.mono _ _ _ _
   | exact LeO.none _
   | refine LeO.ite ?_ ?_
   | refine LeO.bind ?_ (fun _ => ?_)
set_option maxHeartbeats 8000000 in
set_option maxRecDepth 100000 in
theorem impl_isStored.calls (k : Nat) (A0 : Option Addr) (c0 : Nat) (l0 : List (S65)) (a1_0 : Int) (A1_1 : Option Addr) (c1_1 : Nat) (l1_1 : List Int) (a2 : Int) (a3 : Int) (r : Bool) (w : World) (hr0 : Kd.C k65 w A0 l0.length l0) (hc0 : l0.length ≤ c0) (hr1_1 : Kd.C (Kd.int .i64) w A1_1 l1_1.length l1_1) (hc1_1 : l1_1.length ≤ c1_1) (h : impl_isStored.f k l0 a1_0 l1_1 a2 a3 = some r) :
  Calls Try.prog 71 #[.slice A0 l0.length c0, .agg #[.int .i64 a1_0, .slice A1_1 l1_1.length c1_1], .int .i64 a2, .int .i64 a3] w fun e w' => e = .returned (.bool r) ∧ Below w.heap.size w w' := by
 have hu28 := Try.underlying28
 have HR0 := jA hr0
 have HC0 := jA hc0
 clear hr0 hc0
 have HR1_1 := jA hr1_1
 have HC1_1 := jA hc1_1
 clear hr1_1 hc1_1
 have HB := jA (Below.refl w.heap.size w)
 have H := h
 unfold impl_isStored.f at H
 clear h
 replace H := jB.mp H
 obtain ⟨⟨t471, t472⟩, A50, H⟩ := H
 try dsimp only at H
 have A5 := jA A50
 clear A50
 replace H := jB.mp H
 obtain ⟨t476, A60, H⟩ := H
 try dsimp only at H
 have A6 := jA A60
 clear A60
 by_cases c7 : t476 = true
 ·subst c7
  rw [if_pos rfl] at H
  replace H := jB.mp H
  obtain ⟨t477, A80, H⟩ := H
  replace H : (some t477) = some r := H
  have A8 := jA A80
  clear A80
  obtain rfl := jK H
  go_enter Try.func71, Try.ntmps71
  go_wp2_with (first | ((with_reducible refine jL (N := 5) rfl ?_); refine zE 5 #[.int .i64 a1_0, .slice A1_1 l1_1.length c1_1] 28 ?_; intro gb470 hg w9 hbox hb; have BK470 := jA (hbox); have GW470 := zg0 hg HB; have GE470 := zg0 hg HB; replace HB := zS0 HB hb; clear hb hbox hg; have hcz10 := zc2 BK470) | ((with_reducible refine jD (f := 74) rfl ?_); refine zL (some 13) Try.func74 #[.agg #[.int .i64 a1_0, .slice A1_1 l1_1.length c1_1], .int .i64 a2, .int .i64 a3] ?_; (with_reducible refine (impl_withPieces.calls a1_0 _ _ l1_1 a2 a3 t471 t472 _ ?side1 ?side2 A5.out).mono ?_); (case side1 => exact zs HR1_1 HB); (case side2 => exact HC1_1.out); rintro e w11 ⟨v473, rfl, ho0, hb⟩; refine ⟨_, rfl, ?_⟩; have HO474 := jA (jU ho0 (jW (zb1 HB GE470))); replace BK470 := zB BK470 hb; replace HB := zS1 HB GE470 hb; (try clear hb); (try clear hb2); (try clear hk); (try clear hi); (try clear ho0)) | ((with_reducible refine jL (N := 9) rfl ?_); refine zE 9 #[.int .i64 0, .slice none 0 0] 28 ?_; intro gb475 hg w12 hbox hb; replace HO474 := jA (jF (zo HO474) hb); have BK475 := jA (hbox); have GW475 := zg1 hg HB GE470; have GE475 := zg1 hg HB GE470; replace HB := zS1 HB GE470 hb; have NB470_475 := zn hg BK470; replace BK470 := zB BK470 hb; have NB475_470 := jA NB470_475.out.symm; clear hb hbox hg; have hnb13 := NB475_470.out; have hnc13 := NB470_475.out; have hcz14 := zc2 BK475; obtain ⟨Ao15, co15, eo15⟩ := Kd.R_slice HO474.out; subst eo15) | ((with_reducible refine jD (f := 26) rfl ?_); refine zL (some 16) Try.func26 #[.slice A0 l0.length c0, .agg #[.int .i64 t471, .slice Ao15 t472.length co15]] ?_; (with_reducible refine (impl_IsMagazine.calls k _ _ l0 t471 _ _ t472 true _ ?side1 ?side2 ?side3 ?side4 A6.out).mono ?_); (case side1 => exact Kd.C_below HR0.out (zb2 HB GE470 GE475)); (case side2 => exact HC0.out); (case side3 => refine (jM (e := 2) (base := w.heap.size) (ok := fun k_ => True) (n := t472.length) (c := co15) ?_).2.2; exact (zU HO474 BK475)); (case side4 => exact (jM HO474.out).2.1); rintro e w16 ⟨rfl, hb⟩; refine ⟨_, rfl, ?_⟩; replace HO474 := jA (jF (zU HO474 BK475) hb); replace BK470 := jA (blk_below (g := gb470) (o := .cells #[.int .i64 a1_0, .slice A1_1 l1_1.length c1_1] 28 (0, 0)) (zQ1 BK470 NB470_475) hb); replace BK475 := jA (blk_below (g := gb475) (o := .cells #[.int .i64 t471, .slice Ao15 t472.length co15] 28 (0, 0)) (zP0 BK475) hb); replace HB := zS2 HB GE470 GE475 hb; clear hb; have hcz17 := zc2 BK475) | (go_at_call 66; (with_reducible refine (impl_isLawful.calls k _ _ l0 t471 _ _ t472 t477 _ ?side1 ?side2 ?side3 ?side4 A8.out).mono ?_); (case side1 => exact zs HR0 HB); (case side2 => exact HC0.out); (case side3 => exact zv HO474); (case side4 => exact (jM HO474.out).2.1); rintro e w18 ⟨rfl, hb⟩; replace HO474 := jA (jF (zo HO474) hb); replace BK470 := zB BK470 hb; replace BK475 := zB BK475 hb; replace HB := zS2 HB GE470 GE475 hb; (try clear hb); (try clear hb2); (try clear hk); (try clear hi)))
  go_ret
  exact ⟨ze, zb2 HB GE470 GE475⟩
 ·replace c7 := Bool.eq_false_iff.mpr c7
  subst c7
  rw [if_neg zfalse] at H
  obtain rfl := jK H
  go_enter Try.func71, Try.ntmps71
  go_wp2_with (first | ((with_reducible refine jL (N := 5) rfl ?_); refine zE 5 #[.int .i64 a1_0, .slice A1_1 l1_1.length c1_1] 28 ?_; intro gb470 hg w19 hbox hb; have BK470 := jA (hbox); have GW470 := zg0 hg HB; have GE470 := zg0 hg HB; replace HB := zS0 HB hb; clear hb hbox hg; have hcz20 := zc2 BK470) | ((with_reducible refine jD (f := 74) rfl ?_); refine zL (some 13) Try.func74 #[.agg #[.int .i64 a1_0, .slice A1_1 l1_1.length c1_1], .int .i64 a2, .int .i64 a3] ?_; (with_reducible refine (impl_withPieces.calls a1_0 _ _ l1_1 a2 a3 t471 t472 _ ?side1 ?side2 A5.out).mono ?_); (case side1 => exact zs HR1_1 HB); (case side2 => exact HC1_1.out); rintro e w21 ⟨v473, rfl, ho0, hb⟩; refine ⟨_, rfl, ?_⟩; have HO474 := jA (jU ho0 (jW (zb1 HB GE470))); replace BK470 := zB BK470 hb; replace HB := zS1 HB GE470 hb; (try clear hb); (try clear hb2); (try clear hk); (try clear hi); (try clear ho0)) | ((with_reducible refine jL (N := 9) rfl ?_); refine zE 9 #[.int .i64 0, .slice none 0 0] 28 ?_; intro gb475 hg w22 hbox hb; replace HO474 := jA (jF (zo HO474) hb); have BK475 := jA (hbox); have GW475 := zg1 hg HB GE470; have GE475 := zg1 hg HB GE470; replace HB := zS1 HB GE470 hb; have NB470_475 := zn hg BK470; replace BK470 := zB BK470 hb; have NB475_470 := jA NB470_475.out.symm; clear hb hbox hg; have hnb23 := NB475_470.out; have hnc23 := NB470_475.out; have hcz24 := zc2 BK475; obtain ⟨Ao25, co25, eo25⟩ := Kd.R_slice HO474.out; subst eo25) | ((with_reducible refine jD (f := 26) rfl ?_); refine zL (some 16) Try.func26 #[.slice A0 l0.length c0, .agg #[.int .i64 t471, .slice Ao25 t472.length co25]] ?_; (with_reducible refine (impl_IsMagazine.calls k _ _ l0 t471 _ _ t472 false _ ?side1 ?side2 ?side3 ?side4 A6.out).mono ?_); (case side1 => exact Kd.C_below HR0.out (zb2 HB GE470 GE475)); (case side2 => exact HC0.out); (case side3 => refine (jM (e := 2) (base := w.heap.size) (ok := fun k_ => True) (n := t472.length) (c := co25) ?_).2.2; exact (zU HO474 BK475)); (case side4 => exact (jM HO474.out).2.1); rintro e w26 ⟨rfl, hb⟩; refine ⟨_, rfl, ?_⟩; replace HO474 := jA (jF (zU HO474 BK475) hb); replace BK470 := jA (blk_below (g := gb470) (o := .cells #[.int .i64 a1_0, .slice A1_1 l1_1.length c1_1] 28 (0, 0)) (zQ1 BK470 NB470_475) hb); replace BK475 := jA (blk_below (g := gb475) (o := .cells #[.int .i64 t471, .slice Ao25 t472.length co25] 28 (0, 0)) (zP0 BK475) hb); replace HB := zS2 HB GE470 GE475 hb; clear hb))
  go_ret
  exact ⟨ze, zb2 HB GE470 GE475⟩

end Go.Proofs.Ytdgglhfnlljmeaa.PFnMagazines
