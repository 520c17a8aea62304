/- Functions and contracts that FnMoved reaches (26 of 29). -/
import Derived.Test.YtdgglhfnlljmeaaQFnMovedx24
namespace Go.Proofs.Ytdgglhfnlljmeaa.PFnMoved
open Go.RowKit Go.Proofs.YtdgglhfnlljmeaaW.PrintWords Go.Proofs.YtdgglhfnlljmeaaW.PrintLast Go.Proofs.YtdgglhfnlljmeaaW.PrintMore
attribute [local go_sem] max2_int min2_int max_two min_two max_three min_three max_four min_four   -- for this text's walks alone
set_option linter.unusedVariables false
set_option linter.unusedSimpArgs false

/-! ### spec_l17Name: function 77 -/
def spec_l17Name.j0 : Nat → List (S65) → Bool → List Int → Int → Int → Option (ByteArray × Int × Int)
 | 0, _, _, _, _, _ => none
 | k + 1, x1, x12, x1000, x1001, x1002 => if x12 = true then ((spec_l01Next.f x1000 x1001 x1002 (x1.length : Int)).bind fun bt522 => (if 0 ≤ bt522.1 then (if bt522.1 < (x1.length : Int) then (some ((rd_T65 x1 bt522.1).f0, bt522.2.1, bt522.2.2)) else (none)) else (none))) else ((some (([(⟨#[110, 111, 110, 101]⟩ : ByteArray), (⟨#[]⟩ : ByteArray), (⟨#[45]⟩ : ByteArray), (⟨#[112, 101, 111, 110, 121]⟩ : ByteArray)] : List ByteArray) : List ByteArray)).bind fun y526 => ((spec_l01Next.f x1000 x1001 x1002 4).bind fun bt529 => (if 0 ≤ bt529.1 then (if bt529.1 < (y526.length : Int) then (some (rdOf ByteArray.empty y526 bt529.1, bt529.2.1, bt529.2.2)) else (none)) else (none))))
def spec_l17Name.f (k : Nat) (s0_0 : List Int) (s0_1 : Int) (s0_2 : Int) (l1 : List (S65)) : Option (ByteArray × Int × Int) := if (l1.length : Int) > 0 then ((spec_l01Next.f s0_0 s0_1 s0_2 8).bind fun bt519 => (spec_l17Name.j0 k l1 (decide (bt519.1 > 0)) s0_0 bt519.2.1 bt519.2.2)) else (spec_l17Name.j0 k l1 false s0_0 s0_1 s0_2)
theorem spec_l17Name.mono_l : ∀ k, (∀ y0 y1 y2 y3 y4, LeO (spec_l17Name.j0 k y0 y1 y2 y3 y4) (spec_l17Name.j0 (k + 1) y0 y1 y2 y3 y4))
 | 0 => fun _ _ _ _ _ r h => by simp [spec_l17Name.j0] at h
 | k + 1 => by
  have ih0 := spec_l17Name.mono_l k
  ·intro y0 y1 y2 y3 y4
   unfold spec_l17Name.j0
   repeat' first
   | (with_reducible exact ih0 _ _ _ _ _)
   | (with_reducible exact LeO.refl _)
   | (with_reducible exact LeO.none _)
   | (with_reducible refine LeO.ite ?_ ?_)
   | (with_reducible refine LeO.bind ?_ (fun _ => ?_))
   | exact ih0 _ _ _ _ _
   | exact LeO.none _
   | refine LeO.ite ?_ ?_
   | refine LeO.bind ?_ (fun _ => ?_)
theorem spec_l17Name.mono : ∀ a0 a1 a2 a3 k, LeO (spec_l17Name.f k a0 a1 a2 a3) (spec_l17Name.f (k + 1) a0 a1 a2 a3) := by
 intro a0 a1 a2 a3 k
 have ih0 := spec_l17Name.mono_l k
 unfold spec_l17Name.f
 repeat' first
   | (with_reducible exact ih0 _ _ _ _ _)
   | (with_reducible exact LeO.refl _)
   | (with_reducible exact LeO.none _)
   | (with_reducible refine LeO.ite ?_ ?_)
   | (with_reducible refine LeO.bind ?_ (fun _ => ?_))
   | exact ih0 _ _ _ _ _
   | exact LeO.none _
   | refine LeO.ite ?_ ?_
   | refine LeO.bind ?_ (fun _ => ?_)
set_option maxHeartbeats 8000000 in
set_option maxRecDepth 100000 in
theorem spec_l17Name.calls (k : Nat) (g : Nat) (s0_0 : List Int) (s0_1 : Int) (s0_2 : Int) (A1 : Option Addr) (c1 : Nat) (l1 : List (S65)) (r1 : ByteArray) (r2 : Int) (r3 : Int) (w0 w : World) (hI : IsS92 w0 w g s0_0 s0_1 s0_2) (hB : Below w0.heap.size w0 w) (hr1 : ∀ W_, KeepBut w W_ g none → Kd.C k65 W_ A1 l1.length l1) (hc1 : l1.length ≤ c1) (h : spec_l17Name.f k s0_0 s0_1 s0_2 l1 = some (r1, r2, r3)) :
  Calls Try.prog 77 #[.pointer (some ⟨g, 0, none⟩), .slice A1 l1.length c1] w fun e w' => e = .returned (.string r1) ∧ IsS92 w0 w' g s0_0 r2 r3 ∧ Below w0.heap.size w0 w' ∧ KeepBut w w' g none := by
 have HR1 := jA hr1
 have HC1 := jA hc1
 clear hr1 hc1
 have HI0 := jA hI
 have HK := jA (KeepBut.refl w g none)
 have HL := jA hB.size
 clear hI
 have HW0 := jA hB.size
 have HB := jA hB
 clear hB
 have H := h
 unfold spec_l17Name.f at H
 clear h
 have HC3 := jA H
 clear H
 go_enter Try.func77, Try.ntmps77
 go_upto_region 1 with (fail)
 go_cut [12] (fun v12 wc => ∃ (kq : Nat) (x12_2 : Bool) (x1001_2 : Int) (x1002_2 : Int), v12 = .bool x12_2 ∧ Aside0 (spec_l17Name.j0 kq l1 x12_2 s0_0 x1001_2 x1002_2 = some (r1, r2, r3)) ∧ Aside0 (kq ≤ k) ∧ Aside0 (IsS92 w0 wc g s0_0 x1001_2 x1002_2) ∧ Aside0 (KeepBut w wc g none) ∧ Aside0 (Below w0.heap.size w0 wc))
 case first =>
  have H := HC3.out
  clear HC3
  by_cases c4 : (l1.length : Int) > 0
  ·rw [if_pos c4] at H
   have c4b0 : decide (0 < (l1.length : Int)) = true := jK c4
   have c4b1 : decide (0 < l1.length) = true := jK (by omega)
   clear c4
   (first | rw [c4b0] | (simp only [i64_w, i32_w]; rw [c4b0]) | rw [c4b1] | skip)
   replace H := jB.mp H
   obtain ⟨⟨t519, t520, t521⟩, A50, H⟩ := H
   try dsimp only at H
   have A5 := jA A50
   clear A50
   have H' := jA H
   clear H
   go_wp2_with (first | (go_at_call 79; (with_reducible refine (spec_l01Next.calls g s0_0 s0_1 s0_2 8 t519 t520 t521 w0 _ ?side1 ?side2 A5.out).mono ?_); (case side1 => exact zr3 HI0); (case side2 => exact zr4 HB HI0); rintro e w6 ⟨rfl, hi, hb, hk⟩; replace HK := jA (KeepBut.trans (zh0 HK) hk (.inl rfl)); replace HB := jA (hb); replace HI0 := jA (hi); (try clear hb); (try clear hb2); (try clear hk); (try clear hi)))
   go_meet
   case rel => exact ⟨_, (decide (t519 > 0)), (t520), (t521), zz, H', ⟨by first | omega | exact Nat.le_refl _⟩, ⟨zr3 HI0⟩, ⟨zh0 HK⟩, ⟨zr4 HB HI0⟩⟩
  ·rw [if_neg c4] at H
   have c4b0 : decide (0 < (l1.length : Int)) = false := jV c4
   have c4b1 : decide (0 < l1.length) = false := jV (by omega)
   clear c4
   (first | rw [c4b0] | (simp only [i64_w, i32_w]; rw [c4b0]) | rw [c4b1] | skip)
   have H' := jA H
   clear H
   go_wp2
   go_meet
   case rel => exact ⟨_, (false), (s0_1), (s0_2), zz, H', ⟨by first | omega | exact Nat.le_refl _⟩, ⟨zr3 HI0⟩, ⟨zh0 HK⟩, ⟨zr4 HB HI0⟩⟩
 case rest =>
  clear HC3
  try clear c1
  try clear p2
  try clear c4
  try clear c4b0
  try clear c4b1
  obtain ⟨kq, x12_2, x1001_2, x1002_2, rfl, HA, HJ2, HI0, HK, HB⟩ := hcut
  cases kq with
  | zero => exact absurd HA.out (by simp [spec_l17Name.j0])
  | succ kj2 =>
   have H := HA.out
   clear HA
   simp only [spec_l17Name.j0] at H
   by_cases c7 : x12_2 = true
   ·subst c7
    rw [if_pos rfl] at H
    replace H := jB.mp H
    obtain ⟨⟨t522, t523, t524⟩, A80, H⟩ := H
    try dsimp only at H
    have A8 := jA A80
    clear A80
    by_cases c9 : 0 ≤ t522
    ·rw [if_pos c9] at H
     have c9b0 : decide (0 ≤ t522) = true := jK c9
     clear c9
     by_cases c10 : t522 < (l1.length : Int)
     ·rw [if_pos c10] at H
      have c10b0 : decide (t522 < (l1.length : Int)) = true := jK c10
      clear c10
      simp only [jM, jS] at H
      obtain ⟨rfl, rfl, rfl⟩ := H
      go_wp2_with (first | ((with_reducible refine jG (f := 79) rfl ?_); refine zL (some 17) Try.func79 #[.pointer (some ⟨g, 0, none⟩), .int .i64 (l1.length : Int)] ?_; (with_reducible refine (spec_l01Next.calls g s0_0 x1001_2 x1002_2 (l1.length : Int) t522 t523 t524 w0 _ ?side1 ?side2 A8.out).mono ?_); (case side1 => exact zr3 HI0); (case side2 => exact zr4 HB HI0); rintro e w11 ⟨rfl, hi, hb, hk⟩; refine ⟨_, rfl, ?_⟩; replace HK := jA (KeepBut.trans (zh0 HK) hk (.inl rfl)); replace HB := jA (hb); replace HI0 := jA (hi); (try clear hb); (try clear hb2); (try clear hk); (try clear hi); have p525 : 0 ≤ (t522 : Int) := jD za; have q525 : t522 < (l1.length : Int) := jD za; obtain ⟨ad525, e525, hx525_0, hx525_1, hx525_2, hx525_3, hx525_4, hx525_5, hx525_6, hx525_7, hx525_8⟩ := at_T65 (Kd.C_foot_now HR1.out HK.out) t522 p525 q525; cases e525; replace p525 := eq_true p525; replace q525 := eq_true q525))
      go_ret
      exact ⟨ze, zr3 HI0, zr4 HB HI0, zh0 HK⟩
     ·rw [if_neg c10] at H
      exact absurd H (by simp)
    ·rw [if_neg c9] at H
     exact absurd H (by simp)
   ·replace c7 := Bool.eq_false_iff.mpr c7
    subst c7
    rw [if_neg zfalse] at H
    obtain ⟨y526, hy526⟩ : ∃ y_ : List ByteArray, y_ = (([(⟨#[110, 111, 110, 101]⟩ : ByteArray), (⟨#[]⟩ : ByteArray), (⟨#[45]⟩ : ByteArray), (⟨#[112, 101, 111, 110, 121]⟩ : ByteArray)] : List ByteArray)) := ⟨_, rfl⟩
    replace H : ((spec_l01Next.f s0_0 x1001_2 x1002_2 4).bind fun bt529 => (if 0 ≤ bt529.1 then (if bt529.1 < (y526.length : Int) then (some (rdOf ByteArray.empty y526 bt529.1, bt529.2.1, bt529.2.2)) else (none)) else (none))) = some (r1, r2, r3) := by first | (rw [hy526]; with_reducible exact H) | (have H2_ := (Option.bind_some _ _).symm.trans H; rw [hy526]; with_reducible exact H2_) | (have H2_ := (Option.bind_some _ _).symm.trans H; with_reducible exact H2_) | with_reducible exact H | (rw [hy526]; exact H) | exact H
    have Ny526 := jA hy526
    clear hy526
    replace H := jB.mp H
    obtain ⟨⟨t529, t530, t531⟩, A120, H⟩ := H
    try dsimp only at H
    have A12 := jA A120
    clear A120
    by_cases c13 : 0 ≤ t529
    ·rw [if_pos c13] at H
     have c13b0 : decide (0 ≤ t529) = true := jK c13
     clear c13
     by_cases c14 : t529 < (y526.length : Int)
     ·rw [if_pos c14] at H
      have c14b0 : decide (t529 < (y526.length : Int)) = true := jK c14
      clear c14
      simp only [jM, jS] at H
      obtain ⟨rfl, rfl, rfl⟩ := H
      go_wp2_with (first | ((with_reducible refine jJ (N := 21) rfl ?_); refine Kd.R_lit Kd.string _ 9 ?hg (N := 21) ?hd (xs := ([(⟨#[110, 111, 110, 101]⟩ : ByteArray), (⟨#[]⟩ : ByteArray), (⟨#[45]⟩ : ByteArray), (⟨#[112, 101, 111, 110, 121]⟩ : ByteArray)] : List ByteArray)) (inner := [.string (⟨#[110, 111, 110, 101]⟩ : ByteArray), .string (⟨#[]⟩ : ByteArray), .string (⟨#[45]⟩ : ByteArray), .string (⟨#[112, 101, 111, 110, 121]⟩ : ByteArray)]) (ok := fun _ => True) (okp := fun _ => True) ?hr ?hp (fun _ hk => hk) trivial (Below.refl _ _) (Nat.le_refl _) (by simp) ?_; (case hd => rfl); (case hg => rfl); (case hr => first | (go_simp; done) | (go_simp; rfl)); (case hp => exact (Reps.one (show Kd.M Kd.string _ _ _ (⟨#[110, 111, 110, 101]⟩ : ByteArray) [.string (⟨#[110, 111, 110, 101]⟩ : ByteArray)] from rfl) (Reps.one (show Kd.M Kd.string _ _ _ (⟨#[]⟩ : ByteArray) [.string (⟨#[]⟩ : ByteArray)] from rfl) (Reps.one (show Kd.M Kd.string _ _ _ (⟨#[45]⟩ : ByteArray) [.string (⟨#[45]⟩ : ByteArray)] from rfl) (Reps.one (show Kd.M Kd.string _ _ _ (⟨#[112, 101, 111, 110, 121]⟩ : ByteArray) [.string (⟨#[112, 101, 111, 110, 121]⟩ : ByteArray)] from rfl) (Reps.none _ _)))))); intro v527 w15 ho16 hb hg_ hnew_; clear hg_ hnew_; (first | rw [← Ny526.out] at ho16 | (simp only [Int.reduceToNat] at ho16; rw [← Ny526.out] at ho16)); have HO528 := jA (jU ho16 (keep_size (w := w) (g := g) (row := none) (zh0 HK))); replace HK := jA (KeepBut.trans (zh0 HK) (KeepBut.of_below hb g none) (.inl rfl)); replace HB := jA (jY (zr4 HB HI0) hb); replace HI0 := jA (IsS92.below (zr3 HI0) hb); clear hb ho16) | ((with_reducible refine jG (f := 79) rfl ?_); refine zL (some 23) Try.func79 #[.pointer (some ⟨g, 0, none⟩), .int .i64 4] ?_; (with_reducible refine (spec_l01Next.calls g s0_0 x1001_2 x1002_2 4 t529 t530 t531 w0 _ ?side1 ?side2 A12.out).mono ?_); (case side1 => exact zr3 HI0); (case side2 => exact zr4 HB HI0); rintro e w17 ⟨rfl, hi, hb, hk⟩; refine ⟨_, rfl, ?_⟩; replace HO528 := jA (Kd.R_mono (Kd.R_keep (IsS92.apart (show IsS92 w0 _ g s0_0 x1001_2 x1002_2 from zr3 HI0) (zo HO528) (by decide)) hk (fun _ h => h.2)) (fun _ h => h.1)); replace HK := jA (KeepBut.trans (zh0 HK) hk (.inl rfl)); replace HB := jA (hb); replace HI0 := jA (hi); (try clear hb); (try clear hb2); (try clear hk); (try clear hi); obtain ⟨Ao18, co18, eo18⟩ := Kd.R_slice HO528.out; subst eo18; have p532 : 0 ≤ (t529 : Int) := jD za; have q532 : t529 < (y526.length : Int) := jD za; obtain ⟨ad532, e532, hx532_0⟩ := Kd.at_string (jO HO528.out).2.2 t529 p532 q532; cases e532; replace p532 := eq_true p532; replace q532 := eq_true q532))
      go_ret
      exact ⟨ze, zr3 HI0, zr4 HB HI0, zh0 HK⟩
     ·rw [if_neg c14] at H
      exact absurd H (by simp)
    ·rw [if_neg c13] at H
     exact absurd H (by simp)

end Go.Proofs.Ytdgglhfnlljmeaa.PFnMoved
