/- Functions and contracts that FnMagazines reaches (22 of 24). -/
import Derived.Test.YtdgglhfnlljmeaaQFnMagazinesx20
namespace Go.Proofs.Ytdgglhfnlljmeaa.PFnMagazines
open Go.RowKit Go.Proofs.YtdgglhfnlljmeaaW.PrintWords Go.Proofs.YtdgglhfnlljmeaaW.PrintLast Go.Proofs.YtdgglhfnlljmeaaW.PrintMore
attribute [local go_sem] max2_int min2_int max_two min_two max_three min_three max_four min_four   -- for this text's walks alone
set_option linter.unusedVariables false
set_option linter.unusedSimpArgs false

/-! ### spec_DrawLawfulLimit: function 41 -/
mutual
def spec_DrawLawfulLimit.l0 : Nat → List (S65) → Int → Int → List Int → Option ((List (S65)) × Int × List Int)
 | 0, _, _, _, _ => none
 | k + 1, x5, x7, x533000, x533001 => if x7 < (x5.length : Int) then (if 0 ≤ x7 then ((some (x5.set (x7 : Int).toNat (⟨(rd_T65 x5 x7).f0, (rd_T65 x5 x7).f1, (rd_T65 x5 x7).f2, (rd_T65 x5 x7).f3, (rd_T65 x5 x7).f4, (rd_T65 x5 x7).f5, (rd_T65 x5 x7).f6, 100000, (rd_T65 x5 x7).f8⟩ : S65) : List (S65))).bind fun y536 => (spec_DrawLawfulLimit.l0 k (y536.set (x7 : Int).toNat (⟨(rd_T65 y536 x7).f0, (rd_T65 y536 x7).f1, (rd_T65 y536 x7).f2, (rd_T65 y536 x7).f3, (rd_T65 y536 x7).f4, (rd_T65 y536 x7).f5, (rd_T65 y536 x7).f6, (rd_T65 y536 x7).f7, 1⟩ : S65)) (wrap64 (x7 + 1)) x533000 x533001)) else (none)) else (spec_DrawLawfulLimit.l1 k x5 0 x533000 x533001)
def spec_DrawLawfulLimit.l1 : Nat → List (S65) → Int → Int → List Int → Option ((List (S65)) × Int × List Int)
 | 0, _, _, _, _ => none
 | k + 1, x5, x8, x533000, x533001 => if x8 < (x533001.length : Int) then (if 0 ≤ x8 then (spec_DrawLawfulLimit.l1 k x5 (wrap64 (x8 + 1)) x533000 (x533001.set (x8 : Int).toNat 1000)) else (none)) else (some (x5, x533000, x533001))
end
def spec_DrawLawfulLimit.f (k : Nat) (l0 : List Int) : Option ((List (S65)) × Int × List Int) := (spec_l01From.f k l0).bind fun bt519 => ((spec_l26Draw.f k bt519.1 bt519.2.1 bt519.2.2).bind fun bt523 => ((spec_l01Next.f bt519.1 bt523.2.2.2.1 bt523.2.2.2.2 12).bind fun bt533 => (if bt533.1 = 0 then (spec_DrawLawfulLimit.l0 k bt523.1 0 bt523.2.1 bt523.2.2.1) else (some (bt523.1, bt523.2.1, bt523.2.2.1)))))
theorem spec_DrawLawfulLimit.mono_l : ∀ k, (∀ y0 y1 y2 y3, LeO (spec_DrawLawfulLimit.l0 k y0 y1 y2 y3) (spec_DrawLawfulLimit.l0 (k + 1) y0 y1 y2 y3)) ∧ (∀ y0 y1 y2 y3, LeO (spec_DrawLawfulLimit.l1 k y0 y1 y2 y3) (spec_DrawLawfulLimit.l1 (k + 1) y0 y1 y2 y3))
 | 0 => ⟨fun _ _ _ _ r h => by simp [spec_DrawLawfulLimit.l0] at h, fun _ _ _ _ r h => by simp [spec_DrawLawfulLimit.l1] at h⟩
 | k + 1 => by
  obtain ⟨ih0, ih1⟩ := spec_DrawLawfulLimit.mono_l k
  refine ⟨?_, ?_⟩
  ·intro y0 y1 y2 y3
   unfold spec_DrawLawfulLimit.l0
   repeat' first
   | (with_reducible exact ih0 _ _ _ _)
   | (with_reducible exact ih1 _ _ _ _)
   | (with_reducible exact spec_l01From.mono _ _)
   | (with_reducible exact spec_l26Draw.mono _ _ _ _)
   | (with_reducible exact LeO.refl _)
   | (with_reducible exact LeO.none _)
   | (with_reducible refine LeO.ite ?_ ?_)
   | (with_reducible refine LeO.bind ?_ (fun _ => ?_))
   | exact ih0 _ _ _ _
   | exact ih1 _ _ _ _
   | exact spec_l01From.mono _ _
   | exact spec_l26Draw.mono _ _ _ _
   | exact LeO.none _
   | refine LeO.ite ?_ ?_
   | refine LeO.bind ?_ (fun _ => ?_)
  ·intro y0 y1 y2 y3
   unfold spec_DrawLawfulLimit.l1
   repeat' first
   | (with_reducible exact ih0 _ _ _ _)
   | (with_reducible exact ih1 _ _ _ _)
   | (with_reducible exact spec_l01From.mono _ _)
   | (with_reducible exact spec_l26Draw.mono _ _ _ _)
   | (with_reducible exact LeO.refl _)
   | (with_reducible exact LeO.none _)
   | (with_reducible refine LeO.ite ?_ ?_)
   | (with_reducible refine LeO.bind ?_ (fun _ => ?_))
   | exact ih0 _ _ _ _
   | exact ih1 _ _ _ _
   | exact spec_l01From.mono _ _
   | exact spec_l26Draw.mono _ _ _ _
   | exact LeO.none _
   | refine LeO.ite ?_ ?_
   | refine LeO.bind ?_ (fun _ => ?_)
theorem spec_DrawLawfulLimit.mono : ∀ a0 k, LeO (spec_DrawLawfulLimit.f k a0) (spec_DrawLawfulLimit.f (k + 1) a0) := by
 intro a0 k
 obtain ⟨ih0, ih1⟩ := spec_DrawLawfulLimit.mono_l k
 unfold spec_DrawLawfulLimit.f
 repeat' first
   | (with_reducible exact ih0 _ _ _ _)
   | (with_reducible exact ih1 _ _ _ _)
   | (with_reducible exact spec_l01From.mono _ _)
   | (with_reducible exact spec_l26Draw.mono _ _ _ _)
   | (with_reducible exact LeO.refl _)
   | (with_reducible exact LeO.none _)
   | (with_reducible refine LeO.ite ?_ ?_)
   | (with_reducible refine LeO.bind ?_ (fun _ => ?_))
   | exact ih0 _ _ _ _
   | exact ih1 _ _ _ _
   | exact spec_l01From.mono _ _
   | exact spec_l26Draw.mono _ _ _ _
   | exact LeO.none _
   | refine LeO.ite ?_ ?_
   | refine LeO.bind ?_ (fun _ => ?_)
set_option maxHeartbeats 8000000 in
set_option maxRecDepth 100000 in
theorem spec_DrawLawfulLimit.calls (k : Nat) (A0 : Option Addr) (c0 : Nat) (l0 : List Int) (r1 : List (S65)) (r2 : Int) (r3 : List Int) (w : World) (hr0 : Kd.C (Kd.int .u8) w A0 l0.length l0) (hc0 : l0.length ≤ c0) (h : spec_DrawLawfulLimit.f k l0 = some (r1, r2, r3)) :
  Calls Try.prog 41 #[.slice A0 l0.length c0] w fun e w' => ∃ v0_ v2_ : Value, e = .returned (.tuple #[v0_, .agg #[.int .i64 r2, v2_]]) ∧ Kd.R k65 65 w' w.heap.size (fun _ => True) v0_ r1 ∧ Kd.R (Kd.int .i64) 2 w' w.heap.size (fun _ => True) v2_ r3 ∧ Below w.heap.size w w' := by
 have hu28 := Try.underlying28
 have HR0 := jA hr0
 have HC0 := jA hc0
 clear hr0 hc0
 have HB := jA (Below.refl w.heap.size w)
 have H := h
 unfold spec_DrawLawfulLimit.f at H
 clear h
 replace H := jB.mp H
 obtain ⟨⟨t519, t520, t521⟩, A20, H⟩ := H
 try dsimp only at H
 have A2 := jA A20
 clear A20
 replace H := jB.mp H
 obtain ⟨⟨t523, t526, t527, t530, t531⟩, A30, H⟩ := H
 try dsimp only at H
 have A3 := jA A30
 clear A30
 replace H := jB.mp H
 obtain ⟨⟨t533, t534, t535⟩, A40, H⟩ := H
 try dsimp only at H
 have A4 := jA A40
 clear A40
 by_cases c5 : t533 = 0
 ·rw [if_pos c5] at H
  have c5b0 : (t533 == 0) = true := beq_iff_eq.mpr c5
  have c5b1 : (t533 != 0) = false := bne_eq_false_iff_eq.mpr c5
  clear c5
  have H' := jA H
  clear H
  go_enter Try.func41, Try.ntmps41
  go_wp2_with (first | ((with_reducible refine jL (N := 3) rfl ?_); refine zE 3 #[.int .i64 0, .slice none 0 0] 28 ?_; intro gb518 hg w6 hbox hb; have BK518 := jA (hbox); have GW518 := zg0 hg HB; have GE518 := zg0 hg HB; replace HB := zS0 HB hb; clear hb hbox hg) | ((with_reducible refine jD (f := 75) rfl ?_); refine zL (some 10) Try.func75 #[.slice A0 l0.length c0] ?_; (with_reducible refine (spec_l01From.calls k _ _ l0 t519 t520 t521 w _ ?side1 ?side2 ?side3 A2.out).mono ?_); (case side1 => exact zr1 HB GE518); (case side2 => exact HR0.out); (case side3 => exact HC0.out); rintro e w7 ⟨g522, rfl, hi, hb, hb2⟩; refine ⟨_, rfl, ?_⟩; replace HB := jA (hb); have HI522 := jA (hi); have NB522_518 := jA (IsS92.ne_blk hi (blk_below (g := gb518) (o := .cells #[.int .i64 0, .slice none 0 0] 28 (0, 0)) (zk BK518) hb2) (by decide)); have NB518_522 := jA (Ne.symm (IsS92.ne_blk hi (blk_below (g := gb518) (o := .cells #[.int .i64 0, .slice none 0 0] 28 (0, 0)) (zk BK518) hb2) (by decide))); replace BK518 := zB BK518 hb2; (try clear hb); (try clear hb2); (try clear hk); (try clear hi)) | ((with_reducible refine jD (f := 76) rfl ?_); refine zL (some 13) Try.func76 #[.pointer (some ⟨g522, 0, none⟩)] ?_; (with_reducible refine (spec_l26Draw.calls k g522 t519 t520 t521 t523 t526 t527 t530 t531 w _ ?side1 ?side2 A3.out).mono ?_); (case side1 => exact zr4 HI522 NB522_518); (case side2 => exact zr5 HB HI522 GE518); rintro e w8 ⟨v524, v528, rfl, ho0, ho1, hi, hb, hk⟩; refine ⟨_, rfl, ?_⟩; replace BK518 := zK hk BK518 NB518_522; have HO525 := jA (jU ho0 (jW (zr5 HB HI522 GE518))); have HO529 := jA (jU ho1 (jW (zr5 HB HI522 GE518))); replace HB := jA (hb); replace HI522 := jA (hi); (try clear hb); (try clear hb2); (try clear hk); (try clear hi); (try clear ho0); (try clear ho1)) | ((with_reducible refine jL (N := 6) rfl ?_); refine zE 6 #[.int .i64 0, .slice none 0 0] 28 ?_; intro gb532 hg w9 hbox hb; replace HO525 := jA (jF (zo HO525) hb); replace HO529 := jA (jF (zo HO529) hb); have BK532 := jA (hbox); have GW532 := jA ((by rw [hg]; exact (jW (zr5 HB HI522 GE518)) : w.heap.size ≤ gb532)); replace HB := jA (jV (zr5 HB HI522 GE518) hb); have GE532 := GW532; have NB518_532 := zn hg BK518; replace BK518 := zB BK518 hb; have NB532_518 := jA NB518_532.out.symm; have NB522_532 := jA ((by rw [hg]; exact Nat.ne_of_lt (IsS92.lt (show IsS92 w _ g522 t519 t530 t531 from zr4 HI522 NB522_518)) : g522 ≠ gb532)); have NB532_522 := jA ((by rw [hg]; exact Nat.ne_of_gt (IsS92.lt (show IsS92 w _ g522 t519 t530 t531 from zr4 HI522 NB522_518)) : gb532 ≠ g522)); replace HI522 := jA (IsS92.below (zr4 HI522 NB522_518) hb); clear hb hbox hg; have hnb10 := NB532_518.out; have hnc10 := NB518_532.out; have hnb11 := NB532_522.out; have hnc11 := NB522_532.out; have hcz12 := zc2 BK532; obtain ⟨Ao13, co13, eo13⟩ := Kd.R_slice HO529.out; subst eo13) | ((with_reducible refine jD (f := 79) rfl ?_); refine zL (some 17) Try.func79 #[.pointer (some ⟨g522, 0, none⟩), .int .i64 12] ?_; (with_reducible refine (spec_l01Next.calls g522 t519 t530 t531 12 t533 t534 t535 w _ ?side1 ?side2 A4.out).mono ?_); (case side1 => exact zr6 HI522 NB522_518 NB522_532); (case side2 => exact zr7 HB HI522 GE518 GE532); rintro e w14 ⟨rfl, hi, hb, hk⟩; refine ⟨_, rfl, ?_⟩; replace BK518 := jA (KeepBut.blk hk (g' := gb518) (o := .cells #[.int .i64 0, .slice none 0 0] 28 (0, 0)) (zQ1 BK518 NB518_532) NB518_522.out (by simp)); replace HO525 := jA (Kd.R_mono (Kd.R_keep (IsS92.apart (show IsS92 w _ g522 t519 t530 t531 from zr6 HI522 NB522_518 NB522_532) (zU HO525 BK532) (by decide)) hk (fun _ h => h.2)) (fun _ h => h.1)); replace HO529 := jA (Kd.R_mono (Kd.R_keep (IsS92.apart (show IsS92 w _ g522 t519 t530 t531 from zr6 HI522 NB522_518 NB522_532) (zU HO529 BK532) (by decide)) hk (fun _ h => h.2)) (fun _ h => h.1)); replace BK532 := jA (KeepBut.blk hk (g' := gb532) (o := .cells #[.int .i64 t526, .slice Ao13 t527.length co13] 28 (0, 0)) (zP0 BK532) NB532_522.out (by simp)); replace HB := jA (hb); replace HI522 := jA (hi); (try clear hb); (try clear hb2); (try clear hk); (try clear hi)))
  go_loopg [7] k (fun kq v7 w' => ∃ (x5_1 : List (S65)) (x7_1 : Int), v7 = .int .i64 x7_1 ∧ Aside0 (spec_DrawLawfulLimit.l0 kq x5_1 x7_1 t526 t527 = some (r1, r2, r3)) ∧ Aside0 (kq ≤ k) ∧ Aside0 (Kd.R k65 65 w' w.heap.size (fun _ => True) v524 x5_1) ∧ Aside0 (Kd.R (Kd.int .i64) 2 w' w.heap.size (fun _ => True) (.slice Ao13 t527.length co13) t527) ∧ Aside0 (w'.heap[gb518]? = some (.cells #[.int .i64 0, (.slice none 0 0)] 28 (0, 0))) ∧ Aside0 (w'.heap[gb532]? = some (.cells #[.int .i64 t526, (.slice Ao13 t527.length co13)] 28 (0, 0))) ∧ Aside0 (Below w.heap.size w w'))
  case atStart => exact ⟨(t523), (0), zz, H', ⟨Nat.le_refl _⟩, ⟨zo HO525⟩, ⟨zo HO529⟩, ⟨zk BK518⟩, ⟨zk BK532⟩, ⟨zr7 HB HI522 GE518 GE532⟩⟩
  case round =>
   clear H'
   try clear c1
   try clear p2
   try clear c4
   try clear c5
   try clear c5b0
   try clear c5b1
   try clear c7
   try clear c10
   try clear c11
   try clear hcz12
   obtain ⟨x5_1, x7_1, rfl, HA, HK1, HO_5, HO_533001, BK518, BK532, HB⟩ := hrel
   cases gk with
   | zero => exact absurd HA.out (by simp [spec_DrawLawfulLimit.l0])
   | succ k1 =>
    have H := HA.out
    clear HA
    simp only [spec_DrawLawfulLimit.l0] at H
    by_cases c15 : x7_1 < (x5_1.length : Int)
    ·rw [if_pos c15] at H
     have c15b0 : decide (x7_1 < (x5_1.length : Int)) = true := jJ c15
     clear c15
     by_cases c16 : 0 ≤ x7_1
     ·rw [if_pos c16] at H
      have c16b0 : decide (0 ≤ x7_1) = true := jJ c16
      clear c16
      obtain ⟨y536, hy536⟩ : ∃ y_ : List (S65), y_ = (x5_1.set (x7_1 : Int).toNat (⟨(rd_T65 x5_1 x7_1).f0, (rd_T65 x5_1 x7_1).f1, (rd_T65 x5_1 x7_1).f2, (rd_T65 x5_1 x7_1).f3, (rd_T65 x5_1 x7_1).f4, (rd_T65 x5_1 x7_1).f5, (rd_T65 x5_1 x7_1).f6, 100000, (rd_T65 x5_1 x7_1).f8⟩ : S65)) := ⟨_, rfl⟩
      replace H : (spec_DrawLawfulLimit.l0 k1 (y536.set (x7_1 : Int).toNat (⟨(rd_T65 y536 x7_1).f0, (rd_T65 y536 x7_1).f1, (rd_T65 y536 x7_1).f2, (rd_T65 y536 x7_1).f3, (rd_T65 y536 x7_1).f4, (rd_T65 y536 x7_1).f5, (rd_T65 y536 x7_1).f6, (rd_T65 y536 x7_1).f7, 1⟩ : S65)) (wrap64 (x7_1 + 1)) t526 t527) = some (r1, r2, r3) := by first | (rw [hy536]; with_reducible exact H) | (have H2_ := (Option.bind_some _ _).symm.trans H; rw [hy536]; with_reducible exact H2_) | (have H2_ := (Option.bind_some _ _).symm.trans H; with_reducible exact H2_) | with_reducible exact H | (rw [hy536]; exact H) | exact H
      have Ny536 := jA hy536
      clear hy536
      obtain ⟨y537, hy537⟩ : ∃ y_ : List (S65), y_ = (y536.set (x7_1 : Int).toNat (⟨(rd_T65 y536 x7_1).f0, (rd_T65 y536 x7_1).f1, (rd_T65 y536 x7_1).f2, (rd_T65 y536 x7_1).f3, (rd_T65 y536 x7_1).f4, (rd_T65 y536 x7_1).f5, (rd_T65 y536 x7_1).f6, (rd_T65 y536 x7_1).f7, 1⟩ : S65)) := ⟨_, rfl⟩
      replace H : (spec_DrawLawfulLimit.l0 k1 y537 (wrap64 (x7_1 + 1)) t526 t527) = some (r1, r2, r3) := by first | (rw [hy537]; with_reducible exact H) | (have H2_ := (Option.bind_some _ _).symm.trans H; rw [hy537]; with_reducible exact H2_) | (have H2_ := (Option.bind_some _ _).symm.trans H; with_reducible exact H2_) | with_reducible exact H | (rw [hy537]; exact H) | exact H
      have Ny537 := jA hy537
      clear hy537
      have H' := jA H
      clear H
      obtain ⟨Ao19, co19, eo19⟩ := Kd.R_slice HO_5.out
      subst eo19
      have p17 : 0 ≤ (x7_1 : Int) := jC za
      have q17 : (x7_1 : Int) < ((x5_1.length : Int) : Int) := jC za
      obtain ⟨go17, co17, eo17, gb17, gl17, cl17, HG17⟩ := Kd.R_form HO_5.out (by omega)
      (first | cases eo17 | (injection eo17 with ea_ en_ ec_; (first | subst ea_ | (injection ea_ with ea_; subst ea_)); subst ec_; clear en_))
      have GB17 := jA gb17
      have GG17 := jA HG17
      clear gb17 gl17 HG17
      obtain ⟨ce17, hcl17, hM17, hcc17, hfr17⟩ := Kd.R_elem HO_5.out z65 (x7_1 : Int) p17 q17
      obtain rfl := k65_openM hM17
      have hx17_0 : wr.cell? ⟨go17, (x7_1 : Int).toNat * 9, none⟩ = some (.string ((rd_T65 x5_1 x7_1).f0)) := hcc17 0 _ rfl
      have hx17_1 : wr.cell? ⟨go17, (x7_1 : Int).toNat * 9 + 1, none⟩ = some (.int .i64 ((rd_T65 x5_1 x7_1).f1)) := hcc17 1 _ rfl
      have hx17_2 : wr.cell? ⟨go17, (x7_1 : Int).toNat * 9 + 2, none⟩ = some (.int .i64 ((rd_T65 x5_1 x7_1).f2)) := hcc17 2 _ rfl
      have hx17_3 : wr.cell? ⟨go17, (x7_1 : Int).toNat * 9 + 3, none⟩ = some (.int .i64 ((rd_T65 x5_1 x7_1).f3)) := hcc17 3 _ rfl
      have hx17_4 : wr.cell? ⟨go17, (x7_1 : Int).toNat * 9 + 4, none⟩ = some (.int .i64 ((rd_T65 x5_1 x7_1).f4)) := hcc17 4 _ rfl
      have hx17_5 : wr.cell? ⟨go17, (x7_1 : Int).toNat * 9 + 5, none⟩ = some (.int .i64 ((rd_T65 x5_1 x7_1).f5)) := hcc17 5 _ rfl
      have hx17_6 : wr.cell? ⟨go17, (x7_1 : Int).toNat * 9 + 6, none⟩ = some (.int .i64 ((rd_T65 x5_1 x7_1).f6)) := hcc17 6 _ rfl
      have hx17_7 : wr.cell? ⟨go17, (x7_1 : Int).toNat * 9 + 7, none⟩ = some (.int .i64 ((rd_T65 x5_1 x7_1).f7)) := hcc17 7 _ rfl
      have hx17_8 : wr.cell? ⟨go17, (x7_1 : Int).toNat * 9 + 8, none⟩ = some (.int .i64 ((rd_T65 x5_1 x7_1).f8)) := hcc17 8 _ rfl
      have hf17_0 : wr.frozen? ⟨go17, (x7_1 : Int).toNat * 9, none⟩ = false := hfr17 0
      have hf17_1 : wr.frozen? ⟨go17, (x7_1 : Int).toNat * 9 + 1, none⟩ = false := hfr17 1
      have hf17_2 : wr.frozen? ⟨go17, (x7_1 : Int).toNat * 9 + 2, none⟩ = false := hfr17 2
      have hf17_3 : wr.frozen? ⟨go17, (x7_1 : Int).toNat * 9 + 3, none⟩ = false := hfr17 3
      have hf17_4 : wr.frozen? ⟨go17, (x7_1 : Int).toNat * 9 + 4, none⟩ = false := hfr17 4
      have hf17_5 : wr.frozen? ⟨go17, (x7_1 : Int).toNat * 9 + 5, none⟩ = false := hfr17 5
      have hf17_6 : wr.frozen? ⟨go17, (x7_1 : Int).toNat * 9 + 6, none⟩ = false := hfr17 6
      have hf17_7 : wr.frozen? ⟨go17, (x7_1 : Int).toNat * 9 + 7, none⟩ = false := hfr17 7
      have hf17_8 : wr.frozen? ⟨go17, (x7_1 : Int).toNat * 9 + 8, none⟩ = false := hfr17 8
      clear hcl17 hcc17 hfr17 hM17
      replace p17 := eq_true p17
      replace q17 := eq_true q17
      have HX20 := jA (show Kd.R k65 65 wr w.heap.size (fun _ => True) (.slice (some ⟨go17, 0, none⟩) x5_1.length co19) x5_1 from (zo HO_5))
      obtain ⟨ce20, hcl20, hM20, hcc20, hfr20⟩ := Kd.R_elem HX20.out z65 (x7_1 : Int) (jC za) (by have h_ : (x7_1 : Int) < ((x5_1.length : Int) : Int) := jC za; first | exact h_ | (have e_ := (jM HO_5.out).1; omega) | simpa using h_)
      obtain rfl := k65_openM hM20
      have HP20 := Kd.R_seg HX20.out (x7_1 : Int) (jC za) (by have h_ : (x7_1 : Int) < ((x5_1.length : Int) : Int) := jC za; first | exact h_ | (have e_ := (jM HO_5.out).1; omega) | simpa using h_) (seg := [.int .i64 100000]) (j := 7) hcl20 hcc20 (show 8 ≤ 9 from by decide) (x' := (⟨(rd_T65 x5_1 x7_1).f0, (rd_T65 x5_1 x7_1).f1, (rd_T65 x5_1 x7_1).f2, (rd_T65 x5_1 x7_1).f3, (rd_T65 x5_1 x7_1).f4, (rd_T65 x5_1 x7_1).f5, (rd_T65 x5_1 x7_1).f6, 100000, (rd_T65 x5_1 x7_1).f8⟩ : S65)) (k65_mkM _ _ _ (⟨(rd_T65 x5_1 x7_1).f0, (rd_T65 x5_1 x7_1).f1, (rd_T65 x5_1 x7_1).f2, (rd_T65 x5_1 x7_1).f3, (rd_T65 x5_1 x7_1).f4, (rd_T65 x5_1 x7_1).f5, (rd_T65 x5_1 x7_1).f6, 100000, (rd_T65 x5_1 x7_1).f8⟩ : S65) ) (fun _ hk => hk)
      have hx20_7 := hcc20 7 _ rfl
      (try simp only [show (k65).sz = 9 from rfl, Nat.mul_one, Nat.add_zero] at hx20_7)
      have hf20_7 := hfr20 7
      (try simp only [show (k65).sz = 9 from rfl, Nat.mul_one, Nat.add_zero] at hf20_7)
      clear hcl20 hcc20 hfr20 hM20
      go_wp2_with (first | ((with_reducible refine gate_store (t := 2) (p := 28) rfl ?_); refine store_event (t := 2) (p := 28) (v := ?vo_w21) (w1 := (wr.setCell ⟨go17, (x7_1 : Int).toNat * 9 + 7, none⟩ (.int .i64 100000))) ?hg ?ho ?hn ?hr ?_; (case ho => rfl); (case hg => rfl); (case hn => rfl); (case hr => first | (go_simp; done) | (go_simp; rfl)); intro w21 hw; have hg : wr.grownBy w21 (some go17) := (by rw [hw]; exact HP20.2); have hp_ : Kd.R k65 65 w21 w.heap.size (fun _ => True) (.slice (some ⟨go17, 0, none⟩) x5_1.length co19) y536 := (by rw [hw, Ny536.out]; exact HP20.1); clear HP20; replace HO_533001 := jA (Kd.R_over' (v := (.slice (some ⟨go17, 0, none⟩) x5_1.length co19)) (zo HO_533001) (Kd.R_typed HO_5.out) (by decide) hg); replace BK518 := jA (blk_grown (g := gb518) (o := .cells #[.int .i64 0, .slice none 0 0] 28 (0, 0)) (zk BK518) hg (Kd.R_ne HO_5.out BK518.out (by decide))); replace BK532 := jA (blk_grown (g := gb532) (o := .cells #[.int .i64 t526, .slice Ao13 t527.length co13] 28 (0, 0)) (zk BK532) hg (Kd.R_ne HO_5.out BK532.out (by decide))); replace HO_5 := jA (hp_); replace HB := jA ((by rw [hw]; exact below_set (HB.out) GB17.out : Below w.heap.size w w21)); clear hg hw hp_; have p18 : 0 ≤ (x7_1 : Int) := jC za; have q18 : (x7_1 : Int) < ((x5_1.length : Int) : Int) := jC za; obtain ⟨ce18, hcl18, hM18, hcc18, hfr18⟩ := Kd.R_elem HO_5.out z65 (x7_1 : Int) p18 q18; obtain rfl := k65_openM hM18; have hx18_0 : w21.cell? ⟨go17, (x7_1 : Int).toNat * 9, none⟩ = some (.string ((rd_T65 y536 x7_1).f0)) := hcc18 0 _ rfl; have hx18_1 : w21.cell? ⟨go17, (x7_1 : Int).toNat * 9 + 1, none⟩ = some (.int .i64 ((rd_T65 y536 x7_1).f1)) := hcc18 1 _ rfl; have hx18_2 : w21.cell? ⟨go17, (x7_1 : Int).toNat * 9 + 2, none⟩ = some (.int .i64 ((rd_T65 y536 x7_1).f2)) := hcc18 2 _ rfl; have hx18_3 : w21.cell? ⟨go17, (x7_1 : Int).toNat * 9 + 3, none⟩ = some (.int .i64 ((rd_T65 y536 x7_1).f3)) := hcc18 3 _ rfl; have hx18_4 : w21.cell? ⟨go17, (x7_1 : Int).toNat * 9 + 4, none⟩ = some (.int .i64 ((rd_T65 y536 x7_1).f4)) := hcc18 4 _ rfl; have hx18_5 : w21.cell? ⟨go17, (x7_1 : Int).toNat * 9 + 5, none⟩ = some (.int .i64 ((rd_T65 y536 x7_1).f5)) := hcc18 5 _ rfl; have hx18_6 : w21.cell? ⟨go17, (x7_1 : Int).toNat * 9 + 6, none⟩ = some (.int .i64 ((rd_T65 y536 x7_1).f6)) := hcc18 6 _ rfl; have hx18_7 : w21.cell? ⟨go17, (x7_1 : Int).toNat * 9 + 7, none⟩ = some (.int .i64 ((rd_T65 y536 x7_1).f7)) := hcc18 7 _ rfl; have hx18_8 : w21.cell? ⟨go17, (x7_1 : Int).toNat * 9 + 8, none⟩ = some (.int .i64 ((rd_T65 y536 x7_1).f8)) := hcc18 8 _ rfl; have hf18_0 : w21.frozen? ⟨go17, (x7_1 : Int).toNat * 9, none⟩ = false := hfr18 0; have hf18_1 : w21.frozen? ⟨go17, (x7_1 : Int).toNat * 9 + 1, none⟩ = false := hfr18 1; have hf18_2 : w21.frozen? ⟨go17, (x7_1 : Int).toNat * 9 + 2, none⟩ = false := hfr18 2; have hf18_3 : w21.frozen? ⟨go17, (x7_1 : Int).toNat * 9 + 3, none⟩ = false := hfr18 3; have hf18_4 : w21.frozen? ⟨go17, (x7_1 : Int).toNat * 9 + 4, none⟩ = false := hfr18 4; have hf18_5 : w21.frozen? ⟨go17, (x7_1 : Int).toNat * 9 + 5, none⟩ = false := hfr18 5; have hf18_6 : w21.frozen? ⟨go17, (x7_1 : Int).toNat * 9 + 6, none⟩ = false := hfr18 6; have hf18_7 : w21.frozen? ⟨go17, (x7_1 : Int).toNat * 9 + 7, none⟩ = false := hfr18 7; have hf18_8 : w21.frozen? ⟨go17, (x7_1 : Int).toNat * 9 + 8, none⟩ = false := hfr18 8; clear hcl18 hcc18 hfr18 hM18; replace p18 := eq_true p18; replace q18 := eq_true q18; have HX22 := jA (show Kd.R k65 65 w21 w.heap.size (fun _ => True) (.slice (some ⟨go17, 0, none⟩) x5_1.length co19) y536 from (zo HO_5)); obtain ⟨ce22, hcl22, hM22, hcc22, hfr22⟩ := Kd.R_elem HX22.out z65 (x7_1 : Int) (jC za) (by have h_ : (x7_1 : Int) < ((x5_1.length : Int) : Int) := jC za; first | exact h_ | (have e_ := (jM HO_5.out).1; omega) | simpa using h_); obtain rfl := k65_openM hM22; have HP22 := Kd.R_seg HX22.out (x7_1 : Int) (jC za) (by have h_ : (x7_1 : Int) < ((x5_1.length : Int) : Int) := jC za; first | exact h_ | (have e_ := (jM HO_5.out).1; omega) | simpa using h_) (seg := [.int .i64 1]) (j := 8) hcl22 hcc22 (show 9 ≤ 9 from by decide) (x' := (⟨(rd_T65 y536 x7_1).f0, (rd_T65 y536 x7_1).f1, (rd_T65 y536 x7_1).f2, (rd_T65 y536 x7_1).f3, (rd_T65 y536 x7_1).f4, (rd_T65 y536 x7_1).f5, (rd_T65 y536 x7_1).f6, (rd_T65 y536 x7_1).f7, 1⟩ : S65)) (k65_mkM _ _ _ (⟨(rd_T65 y536 x7_1).f0, (rd_T65 y536 x7_1).f1, (rd_T65 y536 x7_1).f2, (rd_T65 y536 x7_1).f3, (rd_T65 y536 x7_1).f4, (rd_T65 y536 x7_1).f5, (rd_T65 y536 x7_1).f6, (rd_T65 y536 x7_1).f7, 1⟩ : S65) ) (fun _ hk => hk); have hx22_8 := hcc22 8 _ rfl; (try simp only [show (k65).sz = 9 from rfl, Nat.mul_one, Nat.add_zero] at hx22_8); have hf22_8 := hfr22 8; (try simp only [show (k65).sz = 9 from rfl, Nat.mul_one, Nat.add_zero] at hf22_8); clear hcl22 hcc22 hfr22 hM22) | ((with_reducible refine gate_store (t := 2) (p := 32) rfl ?_); refine store_event (t := 2) (p := 32) (v := ?vo_w23) (w1 := (w21.setCell ⟨go17, (x7_1 : Int).toNat * 9 + 8, none⟩ (.int .i64 1))) ?hg ?ho ?hn ?hr ?_; (case ho => rfl); (case hg => rfl); (case hn => rfl); (case hr => first | (go_simp; done) | (go_simp; rfl)); intro w23 hw; have hg : w21.grownBy w23 (some go17) := (by rw [hw]; exact HP22.2); have hp_ : Kd.R k65 65 w23 w.heap.size (fun _ => True) (.slice (some ⟨go17, 0, none⟩) x5_1.length co19) y537 := (by rw [hw, Ny537.out]; exact HP22.1); clear HP22; replace HO_533001 := jA (Kd.R_over' (v := (.slice (some ⟨go17, 0, none⟩) x5_1.length co19)) (zo HO_533001) (Kd.R_typed HO_5.out) (by decide) hg); replace BK518 := jA (blk_grown (g := gb518) (o := .cells #[.int .i64 0, .slice none 0 0] 28 (0, 0)) (zk BK518) hg (Kd.R_ne HO_5.out BK518.out (by decide))); replace BK532 := jA (blk_grown (g := gb532) (o := .cells #[.int .i64 t526, .slice Ao13 t527.length co13] 28 (0, 0)) (zk BK532) hg (Kd.R_ne HO_5.out BK532.out (by decide))); replace HO_5 := jA (hp_); replace HB := jA ((by rw [hw]; exact below_set (HB.out) GB17.out : Below w.heap.size w w23)); clear hg hw hp_))
      go_roundg k1
      case measure => have := HK1.out; omega
      case rel => exact ⟨(y537), (wrap64 (x7_1 + 1)), zz, H', ⟨by have := HK1.out; omega⟩, ⟨zo HO_5⟩, ⟨zo HO_533001⟩, ⟨zk BK518⟩, ⟨zk BK532⟩, ⟨zb2 HB GE518 GE532⟩⟩
     ·rw [if_neg c16] at H
      exact absurd H (by simp)
    ·rw [if_neg c15] at H
     have c15b0 : decide (x7_1 < (x5_1.length : Int)) = false := jQ c15
     clear c15
     have H' := jA H
     clear H
     obtain ⟨Ao24, co24, eo24⟩ := Kd.R_slice HO_5.out
     subst eo24
     go_wp2
     go_loopg [8] k1 (fun kq v8 w' => ∃ (x8_2 : Int) (x533001_2 : List Int) (u533001 : Value), v8 = .int .i64 x8_2 ∧ Aside0 (spec_DrawLawfulLimit.l1 kq x5_1 x8_2 t526 x533001_2 = some (r1, r2, r3)) ∧ Aside0 (kq ≤ k1) ∧ Aside0 (Kd.R k65 65 w' w.heap.size (fun _ => True) (.slice Ao24 x5_1.length co24) x5_1) ∧ Aside0 (Kd.R (Kd.int .i64) 2 w' w.heap.size (fun _ => True) u533001 x533001_2) ∧ Aside0 (w'.heap[gb518]? = some (.cells #[.int .i64 0, (.slice none 0 0)] 28 (0, 0))) ∧ Aside0 (w'.heap[gb532]? = some (.cells #[.int .i64 t526, u533001] 28 (0, 0))) ∧ Aside0 (Below w.heap.size w w'))
     case atStart => exact ⟨(0), (t527), (.slice Ao13 t527.length co13), zz, H', ⟨Nat.le_refl _⟩, ⟨zo HO_5⟩, ⟨zo HO_533001⟩, ⟨zk BK518⟩, ⟨zk BK532⟩, ⟨zb2 HB GE518 GE532⟩⟩
     case round =>
      clear H'
      try clear c1
      try clear p1
      try clear q1
      try clear hx1
      try clear hf1
      try clear c2
      try clear p2
      try clear hx2
      try clear hf2
      try clear c4
      try clear c5
      try clear c5b0
      try clear c5b1
      try clear p6
      try clear c7
      try clear c10
      try clear c11
      try clear c15
      try clear c15b0
      try clear c16
      try clear c16b0
      try clear c17
      try clear p17
      try clear q17
      try clear hx17
      try clear hf17
      try clear c18
      try clear p18
      try clear q18
      try clear hx18
      try clear hf18
      try clear c20
      try clear hx20
      try clear hf20
      try clear c22
      try clear hx22
      try clear hf22
      try clear hcz12
      try clear hx17_0
      try clear hx17_1
      try clear hx17_2
      try clear hx17_3
      try clear hx17_4
      try clear hx17_5
      try clear hx17_6
      try clear hx17_7
      try clear hx17_8
      try clear hx18_0
      try clear hx18_1
      try clear hx18_2
      try clear hx18_3
      try clear hx18_4
      try clear hx18_5
      try clear hx18_6
      try clear hx18_7
      try clear hx18_8
      try clear hx20_7
      try clear hx22_8
      try clear p17
      try clear p18
      try clear p2
      try clear q17
      try clear q18
      obtain ⟨x8_2, x533001_2, u533001, rfl, HA, HK2, HO_5, HO_533001, BK518, BK532, HB⟩ := hrel
      cases gk with
      | zero => exact absurd HA.out (by simp [spec_DrawLawfulLimit.l1])
      | succ k2 =>
       have H := HA.out
       clear HA
       simp only [spec_DrawLawfulLimit.l1] at H
       by_cases c25 : x8_2 < (x533001_2.length : Int)
       ·rw [if_pos c25] at H
        have c25b0 : decide (x8_2 < (x533001_2.length : Int)) = true := jJ c25
        clear c25
        by_cases c26 : 0 ≤ x8_2
        ·rw [if_pos c26] at H
         have c26b0 : decide (0 ≤ x8_2) = true := jJ c26
         clear c26
         obtain ⟨y538, hy538⟩ : ∃ y_ : List Int, y_ = (x533001_2.set (x8_2 : Int).toNat 1000) := ⟨_, rfl⟩
         replace H : (spec_DrawLawfulLimit.l1 k2 x5_1 (wrap64 (x8_2 + 1)) t526 y538) = some (r1, r2, r3) := by first | (rw [hy538]; with_reducible exact H) | (have H2_ := (Option.bind_some _ _).symm.trans H; rw [hy538]; with_reducible exact H2_) | (have H2_ := (Option.bind_some _ _).symm.trans H; with_reducible exact H2_) | with_reducible exact H | (rw [hy538]; exact H) | exact H
         have Ny538 := jA hy538
         clear hy538
         have H' := jA H
         clear H
         have hnb28 := NB532_518.out
         have hnc28 := NB518_532.out
         have hcz29 := zc2 BK532
         obtain ⟨Ao30, co30, eo30⟩ := Kd.R_slice HO_533001.out
         subst eo30
         have p27 : 0 ≤ (x8_2 : Int) := jC za
         have q27 : (x8_2 : Int) < ((x533001_2.length : Int) : Int) := jC za
         obtain ⟨go27, co27, eo27, gb27, gl27, cl27, HG27⟩ := Kd.R_form HO_533001.out (by omega)
         (first | cases eo27 | (injection eo27 with ea_ en_ ec_; (first | subst ea_ | (injection ea_ with ea_; subst ea_)); subst ec_; clear en_))
         have GB27 := jA gb27
         have GG27 := jA HG27
         clear gb27 gl27 HG27
         obtain ⟨hx27_0, hf27_0⟩ := Kd.R_celln 0 HO_533001.out (x8_2 : Int) p27 q27
         replace p27 := eq_true p27
         replace q27 := eq_true q27
         have HP31 := Kd.R_putg HO_533001.out (x8_2 : Int) 1000
         go_wp2_with (first | ((with_reducible refine gate_store (t := 2) (p := 43) rfl ?_); refine store_event (t := 2) (p := 43) (v := ?vo_w32) (w1 := (wr.setCell ⟨go27, (x8_2 : Int).toNat, none⟩ (.int .i64 1000))) ?hg ?ho ?hn ?hr ?_; (case ho => rfl); (case hg => rfl); (case hn => rfl); (case hr => first | (go_simp; done) | (go_simp; rfl)); intro w32 hw; have hg : wr.grownBy w32 (some go27) := (by rw [hw]; exact HP31.2); have hp_ : Kd.R (Kd.int .i64) 2 w32 w.heap.size (fun _ => True) (.slice (some ⟨go27, 0, none⟩) x533001_2.length co30) y538 := (by rw [hw, Ny538.out]; exact HP31.1); clear HP31; replace HO_5 := jA (Kd.R_over' (v := (.slice (some ⟨go27, 0, none⟩) x533001_2.length co30)) (zo HO_5) (Kd.R_typed HO_533001.out) (by decide) hg); replace BK518 := jA (blk_grown (g := gb518) (o := .cells #[.int .i64 0, .slice none 0 0] 28 (0, 0)) (zk BK518) hg (Kd.R_ne HO_533001.out BK518.out (by decide))); replace BK532 := jA (blk_grown (g := gb532) (o := .cells #[.int .i64 t526, .slice (some ⟨go27, 0, none⟩) x533001_2.length co30] 28 (0, 0)) (zk BK532) hg (Kd.R_ne HO_533001.out BK532.out (by decide))); replace HO_533001 := jA (hp_); replace HB := jA ((by rw [hw]; exact below_set (HB.out) GB27.out : Below w.heap.size w w32)); clear hg hw hp_))
         go_roundg k2
         case measure => have := HK1.out; have := HK2.out; omega
         case rel => exact ⟨(wrap64 (x8_2 + 1)), (y538), (.slice (some ⟨go27, 0, none⟩) x533001_2.length co30), zz, H', ⟨by have := HK1.out; have := HK2.out; omega⟩, ⟨zo HO_5⟩, ⟨zo HO_533001⟩, ⟨zk BK518⟩, ⟨zk BK532⟩, ⟨zb2 HB GE518 GE532⟩⟩
        ·rw [if_neg c26] at H
         exact absurd H (by simp)
       ·rw [if_neg c25] at H
        have c25b0 : decide (x8_2 < (x533001_2.length : Int)) = false := jQ c25
        clear c25
        simp only [jN, jO] at H
        obtain ⟨rfl, rfl, rfl⟩ := H
        have hnb33 := NB532_518.out
        have hnc33 := NB518_532.out
        have hcz34 := zc2 BK532
        obtain ⟨Ao35, co35, eo35⟩ := Kd.R_slice HO_533001.out
        subst eo35
        try go_wp2
        replace HO_5 := jA (jR HO_5.out)
        replace HO_533001 := jA (jR HO_533001.out)
        replace BK518 := jA (blk_drew BK518.out)
        replace BK532 := jA (blk_drew BK532.out)
        replace HB := jA (below_drew1 HB.out)
        refine start_ (n := 4) (S := fun w' => w'.cell? ⟨gb532, 0, none⟩ = some (.int .i64 t526) ∧ w'.cell? ⟨gb532, 1, none⟩ = some (.slice Ao35 x533001_2.length co35)) (ds := []) #[false, false, false, false] zr rfl rfl ⟨(jG BK532.out 0).trans rfl, (jG BK532.out 1).trans rfl⟩ (fun hHeld => ?_)
        generalize wr.drew = w36 at HO_5 HO_533001 BK518 BK532 HB hHeld ⊢
        refine pure_ (i := 0) (N := some 44) (v := ?_) (a' := ?_) #[true, false, false, false] rfl rfl zr (fun _ _ _ h => h) (Or.inl ⟨by rfl, ?_⟩) ?_ ?_
        rotate_left
        ·intro w'
         go_simp
         with_reducible rfl
        rotate_left
        ·simp only [Act.put, jE, jH, jI, i64_w, i32_w]
         rfl
        refine pure_ (i := 2) (N := some 2) (v := ?_) (a' := ?_) #[true, false, true, false] rfl rfl zr (fun _ _ _ h => h) (Or.inl ⟨by rfl, ?_⟩) ?_ ?_
        rotate_left
        ·intro w'
         go_simp
         with_reducible rfl
        rotate_left
        ·simp only [Act.put, jE, jH, jI, i64_w, i32_w]
         rfl
        refine take_ (i := 1) (N := some 45) (v := ?_) (a' := ?_) #[true, true, true, false] rfl rfl zr (fun _ _ _ h => h) (Or.inl ⟨by rfl, ?_⟩) hHeld ?_ ?_
        rotate_left
        ·rintro w' ⟨s0, s1⟩
         go_simp
         with_reducible rfl
        rotate_left
        ·simp only [Act.put, jE, jH, jI, i64_w, i32_w]
         rfl
        refine one_ (i := 3) (N := none) #[true, true, true, true] rfl rfl zr (by decide) (fun K hK => ?_)
        have hs37 : w36.cell? ⟨gb518, 0, none⟩ = some (.int .i64 0) := (jG BK518.out 0).trans rfl
        have hfs37 := blk_frozen BK518.out 0
        have hns37_1 := NB532_518.out
        have hms37_1 := NB518_532.out
        have hs38 : w36.cell? ⟨gb518, 1, none⟩ = some (.slice none 0 0) := (jG BK518.out 1).trans rfl
        have hfs38 := blk_frozen BK518.out 1
        have hns38_1 := NB532_518.out
        have hms38_1 := NB518_532.out
        refine skip_ (w1 := ?_) (by rfl) rfl ?_ ?_
        rotate_left
        ·go_simp
         rfl
        refine hK.out _ _ ⟨((jP (p := ⟨gb518, _, none⟩) NB532_518.out _).trans (((jP (p := ⟨gb518, _, none⟩) NB532_518.out _).trans (hHeld.1)))), ((jP (p := ⟨gb518, _, none⟩) NB532_518.out _).trans (((jP (p := ⟨gb518, _, none⟩) NB532_518.out _).trans (hHeld.2))))⟩ (fun hHeld => ?_)
        clear hK K
        refine done_ zr ?_
        try go_wp2
        refine jX (results_tc rfl _ _ gb518 28 #[.int .i64 t526, .slice Ao35 x533001_2.length co35] (0, 0) _ rfl (zP0 BK518) Try.underlying28 rfl zr) rfl ?_
        exact ⟨_, _, by first | rfl | (simp [errW_none, errW_some] <;> rfl) | (simp [*, errW_none, errW_some] <;> rfl), zT HO_5 BK518, zT HO_533001 BK518, zb2 HB GE518 GE532⟩
 ·rw [if_neg c5] at H
  have c5b0 : (t533 == 0) = false := beq_eq_false_iff_ne.mpr c5
  have c5b1 : (t533 != 0) = true := bne_iff_ne.mpr c5
  simp only [jN, jO] at H
  obtain ⟨rfl, rfl, rfl⟩ := H
  go_enter Try.func41, Try.ntmps41
  try go_wp2_with (first | ((with_reducible refine jL (N := 3) rfl ?_); refine zE 3 #[.int .i64 0, .slice none 0 0] 28 ?_; intro gb518 hg w39 hbox hb; have BK518 := jA (hbox); have GW518 := zg0 hg HB; have GE518 := zg0 hg HB; replace HB := zS0 HB hb; clear hb hbox hg) | ((with_reducible refine jD (f := 75) rfl ?_); refine zL (some 10) Try.func75 #[.slice A0 l0.length c0] ?_; (with_reducible refine (spec_l01From.calls k _ _ l0 t519 t520 t521 w _ ?side1 ?side2 ?side3 A2.out).mono ?_); (case side1 => exact zr1 HB GE518); (case side2 => exact HR0.out); (case side3 => exact HC0.out); rintro e w40 ⟨g522, rfl, hi, hb, hb2⟩; refine ⟨_, rfl, ?_⟩; replace HB := jA (hb); have HI522 := jA (hi); have NB522_518 := jA (IsS92.ne_blk hi (blk_below (g := gb518) (o := .cells #[.int .i64 0, .slice none 0 0] 28 (0, 0)) (zk BK518) hb2) (by decide)); have NB518_522 := jA (Ne.symm (IsS92.ne_blk hi (blk_below (g := gb518) (o := .cells #[.int .i64 0, .slice none 0 0] 28 (0, 0)) (zk BK518) hb2) (by decide))); replace BK518 := zB BK518 hb2; (try clear hb); (try clear hb2); (try clear hk); (try clear hi)) | ((with_reducible refine jD (f := 76) rfl ?_); refine zL (some 13) Try.func76 #[.pointer (some ⟨g522, 0, none⟩)] ?_; (with_reducible refine (spec_l26Draw.calls k g522 t519 t520 t521 t523 t526 t527 t530 t531 w _ ?side1 ?side2 A3.out).mono ?_); (case side1 => exact zr4 HI522 NB522_518); (case side2 => exact zr5 HB HI522 GE518); rintro e w41 ⟨v524, v528, rfl, ho0, ho1, hi, hb, hk⟩; refine ⟨_, rfl, ?_⟩; replace BK518 := zK hk BK518 NB518_522; have HO525 := jA (jU ho0 (jW (zr5 HB HI522 GE518))); have HO529 := jA (jU ho1 (jW (zr5 HB HI522 GE518))); replace HB := jA (hb); replace HI522 := jA (hi); (try clear hb); (try clear hb2); (try clear hk); (try clear hi); (try clear ho0); (try clear ho1)) | ((with_reducible refine jL (N := 6) rfl ?_); refine zE 6 #[.int .i64 0, .slice none 0 0] 28 ?_; intro gb532 hg w42 hbox hb; replace HO525 := jA (jF (zo HO525) hb); replace HO529 := jA (jF (zo HO529) hb); have BK532 := jA (hbox); have GW532 := jA ((by rw [hg]; exact (jW (zr5 HB HI522 GE518)) : w.heap.size ≤ gb532)); replace HB := jA (jV (zr5 HB HI522 GE518) hb); have GE532 := GW532; have NB518_532 := zn hg BK518; replace BK518 := zB BK518 hb; have NB532_518 := jA NB518_532.out.symm; have NB522_532 := jA ((by rw [hg]; exact Nat.ne_of_lt (IsS92.lt (show IsS92 w _ g522 t519 t530 t531 from zr4 HI522 NB522_518)) : g522 ≠ gb532)); have NB532_522 := jA ((by rw [hg]; exact Nat.ne_of_gt (IsS92.lt (show IsS92 w _ g522 t519 t530 t531 from zr4 HI522 NB522_518)) : gb532 ≠ g522)); replace HI522 := jA (IsS92.below (zr4 HI522 NB522_518) hb); clear hb hbox hg; have hnb43 := NB532_518.out; have hnc43 := NB518_532.out; have hnb44 := NB532_522.out; have hnc44 := NB522_532.out; have hcz45 := zc2 BK532; obtain ⟨Ao46, co46, eo46⟩ := Kd.R_slice HO529.out; subst eo46) | ((with_reducible refine jD (f := 79) rfl ?_); refine zL (some 17) Try.func79 #[.pointer (some ⟨g522, 0, none⟩), .int .i64 12] ?_; (with_reducible refine (spec_l01Next.calls g522 t519 t530 t531 12 t533 t534 t535 w _ ?side1 ?side2 A4.out).mono ?_); (case side1 => exact zr6 HI522 NB522_518 NB522_532); (case side2 => exact zr7 HB HI522 GE518 GE532); rintro e w47 ⟨rfl, hi, hb, hk⟩; refine ⟨_, rfl, ?_⟩; replace BK518 := jA (KeepBut.blk hk (g' := gb518) (o := .cells #[.int .i64 0, .slice none 0 0] 28 (0, 0)) (zQ1 BK518 NB518_532) NB518_522.out (by simp)); replace HO525 := jA (Kd.R_mono (Kd.R_keep (IsS92.apart (show IsS92 w _ g522 t519 t530 t531 from zr6 HI522 NB522_518 NB522_532) (zU HO525 BK532) (by decide)) hk (fun _ h => h.2)) (fun _ h => h.1)); replace HO529 := jA (Kd.R_mono (Kd.R_keep (IsS92.apart (show IsS92 w _ g522 t519 t530 t531 from zr6 HI522 NB522_518 NB522_532) (zU HO529 BK532) (by decide)) hk (fun _ h => h.2)) (fun _ h => h.1)); replace BK532 := jA (KeepBut.blk hk (g' := gb532) (o := .cells #[.int .i64 t526, .slice Ao46 t527.length co46] 28 (0, 0)) (zP0 BK532) NB532_522.out (by simp)); replace HB := jA (hb); replace HI522 := jA (hi); (try clear hb); (try clear hb2); (try clear hk); (try clear hi)))
  replace HO525 := jA (jR HO525.out)
  replace HO529 := jA (jR HO529.out)
  replace BK518 := jA (blk_drew BK518.out)
  replace BK532 := jA (blk_drew BK532.out)
  replace HI522 := jA (IsS92.drew HI522.out)
  replace HB := jA (below_drew1 HB.out)
  refine start_ (n := 4) (S := fun w' => w'.cell? ⟨gb532, 0, none⟩ = some (.int .i64 t526) ∧ w'.cell? ⟨gb532, 1, none⟩ = some (.slice Ao46 t527.length co46)) (ds := []) #[false, false, false, false] zr rfl rfl ⟨(jG BK532.out 0).trans rfl, (jG BK532.out 1).trans rfl⟩ (fun hHeld => ?_)
  generalize w47.drew = w48 at HO525 HO529 BK518 BK532 HI522 HB hHeld ⊢
  refine pure_ (i := 0) (N := some 44) (v := ?_) (a' := ?_) #[true, false, false, false] rfl rfl zr (fun _ _ _ h => h) (Or.inl ⟨by rfl, ?_⟩) ?_ ?_
  rotate_left
  ·intro w'
   go_simp
   with_reducible rfl
  rotate_left
  ·simp only [Act.put, jE, jH, jI, i64_w, i32_w]
   rfl
  refine pure_ (i := 2) (N := some 2) (v := ?_) (a' := ?_) #[true, false, true, false] rfl rfl zr (fun _ _ _ h => h) (Or.inl ⟨by rfl, ?_⟩) ?_ ?_
  rotate_left
  ·intro w'
   go_simp
   with_reducible rfl
  rotate_left
  ·simp only [Act.put, jE, jH, jI, i64_w, i32_w]
   rfl
  refine take_ (i := 1) (N := some 45) (v := ?_) (a' := ?_) #[true, true, true, false] rfl rfl zr (fun _ _ _ h => h) (Or.inl ⟨by rfl, ?_⟩) hHeld ?_ ?_
  rotate_left
  ·rintro w' ⟨s0, s1⟩
   go_simp
   with_reducible rfl
  rotate_left
  ·simp only [Act.put, jE, jH, jI, i64_w, i32_w]
   rfl
  refine one_ (i := 3) (N := none) #[true, true, true, true] rfl rfl zr (by decide) (fun K hK => ?_)
  have hs49 : w48.cell? ⟨gb518, 0, none⟩ = some (.int .i64 0) := (jG BK518.out 0).trans rfl
  have hfs49 := blk_frozen BK518.out 0
  have hns49_1 := NB532_518.out
  have hms49_1 := NB518_532.out
  have hs50 : w48.cell? ⟨gb518, 1, none⟩ = some (.slice none 0 0) := (jG BK518.out 1).trans rfl
  have hfs50 := blk_frozen BK518.out 1
  have hns50_1 := NB532_518.out
  have hms50_1 := NB518_532.out
  refine skip_ (w1 := ?_) (by rfl) rfl ?_ ?_
  rotate_left
  ·go_simp
   rfl
  refine hK.out _ _ ⟨((jP (p := ⟨gb518, _, none⟩) NB532_518.out _).trans (((jP (p := ⟨gb518, _, none⟩) NB532_518.out _).trans (hHeld.1)))), ((jP (p := ⟨gb518, _, none⟩) NB532_518.out _).trans (((jP (p := ⟨gb518, _, none⟩) NB532_518.out _).trans (hHeld.2))))⟩ (fun hHeld => ?_)
  clear hK K
  refine done_ zr ?_
  try go_wp2
  refine jX (results_tc rfl _ _ gb518 28 #[.int .i64 t526, .slice Ao46 t527.length co46] (0, 0) _ rfl (zP0 BK518) Try.underlying28 rfl zr) rfl ?_
  exact ⟨_, _, by first | rfl | (simp [errW_none, errW_some] <;> rfl) | (simp [*, errW_none, errW_some] <;> rfl), zT HO525 BK518, zT HO529 BK518, zr7 HB HI522 GE518 GE532⟩

/-! ### laws_likeInts: function 80 -/
def laws_likeInts.l0 : Nat → List Int → List Int → Int → Option (Bool)
 | 0, _, _, _ => none
 | k + 1, x0, x1, x5 => if x5 < (x0.length : Int) then (if 0 ≤ x5 then (if x5 < (x1.length : Int) then (if (rd x0 x5) = (rd x1 x5) then (laws_likeInts.l0 k x0 x1 (wrap64 (x5 + 1))) else (some false)) else (none)) else (none)) else (some true)
def laws_likeInts.f (k : Nat) (l0 : List Int) (l1 : List Int) : Option (Bool) := if (l0.length : Int) = (l1.length : Int) then (laws_likeInts.l0 k l0 l1 0) else (some false)
theorem laws_likeInts.mono_l : ∀ k, (∀ y0 y1 y2, LeO (laws_likeInts.l0 k y0 y1 y2) (laws_likeInts.l0 (k + 1) y0 y1 y2))
 | 0 => fun _ _ _ r h => by simp [laws_likeInts.l0] at h
 | k + 1 => by
  have ih0 := laws_likeInts.mono_l k
  ·intro y0 y1 y2
   unfold laws_likeInts.l0
   repeat' first
   | (with_reducible exact ih0 _ _ _)
   | (with_reducible exact LeO.refl _)
   | (with_reducible exact LeO.none _)
   | (with_reducible refine LeO.ite ?_ ?_)
   | (with_reducible refine LeO.bind ?_ (fun _ => ?_))
   | exact ih0 _ _ _
   | exact LeO.none _
   | refine LeO.ite ?_ ?_
   | refine LeO.bind ?_ (fun _ => ?_)
theorem laws_likeInts.mono : ∀ a0 a1 k, LeO (laws_likeInts.f k a0 a1) (laws_likeInts.f (k + 1) a0 a1) := by
 intro a0 a1 k
 have ih0 := laws_likeInts.mono_l k
 unfold laws_likeInts.f
 repeat' first
   | (with_reducible exact ih0 _ _ _)
   | (with_reducible exact LeO.refl _)
   | (with_reducible exact LeO.none _)
   | (with_reducible refine LeO.ite ?_ ?_)
   | (with_reducible refine LeO.bind ?_ (fun _ => ?_))
   | exact ih0 _ _ _
   | exact LeO.none _
   | refine LeO.ite ?_ ?_
   | refine LeO.bind ?_ (fun _ => ?_)
set_option maxHeartbeats 8000000 in
set_option maxRecDepth 100000 in
theorem laws_likeInts.calls (k : Nat) (A0 : Option Addr) (c0 : Nat) (l0 : List Int) (A1 : Option Addr) (c1 : Nat) (l1 : List Int) (r : Bool) (w : World) (hr0 : Kd.C (Kd.int .i64) w A0 l0.length l0) (hc0 : l0.length ≤ c0) (hr1 : Kd.C (Kd.int .i64) w A1 l1.length l1) (hc1 : l1.length ≤ c1) (h : laws_likeInts.f k l0 l1 = some r) :
  Calls Try.prog 80 #[.slice A0 l0.length c0, .slice A1 l1.length c1] w fun e w' => e = .returned (.bool r) ∧ Drawn0 w w' := by
 have HR0 := jA hr0
 have HC0 := jA hc0
 clear hr0 hc0
 have HR1 := jA hr1
 have HC1 := jA hc1
 clear hr1 hc1
 have H := h
 unfold laws_likeInts.f at H
 clear h
 by_cases c3 : (l0.length : Int) = (l1.length : Int)
 ·rw [if_pos c3] at H
  have c3b0 : ((l0.length : Int) == (l1.length : Int)) = true := beq_iff_eq.mpr c3
  have c3b1 : ((l0.length : Int) != (l1.length : Int)) = false := bne_eq_false_iff_eq.mpr c3
  have c3b2 : (l0.length == l1.length) = true := by first | simpa using c3 | (simp at c3 ⊢; omega)
  clear c3
  have H' := jA H
  clear H
  go_enter Try.func80, Try.ntmps80
  go_wp2
  repeat (go_quiet (fail); try go_wp2)
  go_loopg [5] k (fun kq v5 w' => ∃ (x5_1 : Int), v5 = .int .i64 x5_1 ∧ Aside0 (laws_likeInts.l0 kq l0 l1 x5_1 = some r) ∧ Aside0 (kq ≤ k) ∧ Drawn0 w w')
  case atStart => exact ⟨(0), zz, H', ⟨Nat.le_refl _⟩, by repeat (first | exact Drawn0.refl _ | apply Drawn0.step)⟩
  case round =>
   clear H'
   try clear c1
   try clear p2
   try clear c3
   try clear c3b0
   try clear c3b1
   try clear c3b2
   obtain ⟨x5_1, rfl, HA, HK1, ⟨m1, rfl⟩⟩ := hrel
   cases gk with
   | zero => exact absurd HA.out (by simp [laws_likeInts.l0])
   | succ k1 =>
    have H := HA.out
    clear HA
    simp only [laws_likeInts.l0] at H
    by_cases c4 : x5_1 < (l0.length : Int)
    ·rw [if_pos c4] at H
     have c4b0 : decide (x5_1 < (l0.length : Int)) = true := jJ c4
     clear c4
     by_cases c5 : 0 ≤ x5_1
     ·rw [if_pos c5] at H
      have c5b0 : decide (0 ≤ x5_1) = true := jJ c5
      clear c5
      by_cases c6 : x5_1 < (l1.length : Int)
      ·rw [if_pos c6] at H
       have c6b0 : decide (x5_1 < (l1.length : Int)) = true := jJ c6
       clear c6
       by_cases c7 : (rd l0 x5_1) = (rd l1 x5_1)
       ·rw [if_pos c7] at H
        have c7b0 : ((rd l0 x5_1) == (rd l1 x5_1)) = true := beq_iff_eq.mpr c7
        have c7b1 : ((rd l0 x5_1) != (rd l1 x5_1)) = false := bne_eq_false_iff_eq.mpr c7
        clear c7
        have H' := jA H
        clear H
        have p539 : 0 ≤ (x5_1 : Int) := jC za
        have q539 : x5_1 < (l0.length : Int) := jC za
        obtain ⟨ad539, e539, hx539_0⟩ := Kd.at_int HR0.out x5_1 p539 q539
        cases e539
        replace p539 := eq_true p539
        replace q539 := eq_true q539
        have p540 : 0 ≤ (x5_1 : Int) := jC za
        have q540 : x5_1 < (l1.length : Int) := jC za
        obtain ⟨ad540, e540, hx540_0⟩ := Kd.at_int HR1.out x5_1 p540 q540
        cases e540
        replace p540 := eq_true p540
        replace q540 := eq_true q540
        go_wp2
        repeat (go_quiet (fail); try go_wp2)
        go_roundg k1
        case measure => have := HK1.out; omega
        case rel => exact ⟨(wrap64 (x5_1 + 1)), zz, H', ⟨by have := HK1.out; omega⟩, by repeat (first | exact Drawn0.refl _ | apply Drawn0.step)⟩
       ·rw [if_neg c7] at H
        have c7b0 : ((rd l0 x5_1) == (rd l1 x5_1)) = false := beq_eq_false_iff_ne.mpr c7
        have c7b1 : ((rd l0 x5_1) != (rd l1 x5_1)) = true := bne_iff_ne.mpr c7
        obtain rfl := jK H
        have p539 : 0 ≤ (x5_1 : Int) := jC za
        have q539 : x5_1 < (l0.length : Int) := jC za
        obtain ⟨ad539, e539, hx539_0⟩ := Kd.at_int HR0.out x5_1 p539 q539
        cases e539
        replace p539 := eq_true p539
        replace q539 := eq_true q539
        have p540 : 0 ≤ (x5_1 : Int) := jC za
        have q540 : x5_1 < (l1.length : Int) := jC za
        obtain ⟨ad540, e540, hx540_0⟩ := Kd.at_int HR1.out x5_1 p540 q540
        cases e540
        replace p540 := eq_true p540
        replace q540 := eq_true q540
        go_wp2
        repeat (go_quiet (fail); try go_wp2)
        go_ret
        exact ⟨by first | rfl | (simp; done) | (simp [*]; done), by repeat (first | exact Drawn0.refl _ | apply Drawn0.step)⟩
      ·rw [if_neg c6] at H
       exact absurd H (by simp)
     ·rw [if_neg c5] at H
      exact absurd H (by simp)
    ·rw [if_neg c4] at H
     have c4b0 : decide (x5_1 < (l0.length : Int)) = false := jQ c4
     clear c4
     obtain rfl := jK H
     go_wp2
     repeat (go_quiet (fail); try go_wp2)
     go_ret
     exact ⟨by first | rfl | (simp; done) | (simp [*]; done), by repeat (first | exact Drawn0.refl _ | apply Drawn0.step)⟩
 ·rw [if_neg c3] at H
  have c3b0 : ((l0.length : Int) == (l1.length : Int)) = false := beq_eq_false_iff_ne.mpr c3
  have c3b1 : ((l0.length : Int) != (l1.length : Int)) = true := bne_iff_ne.mpr c3
  have c3b2 : (l0.length == l1.length) = false := by first | simpa using c3 | (simp at c3 ⊢; omega)
  obtain rfl := jK H
  go_enter Try.func80, Try.ntmps80
  go_wp2
  repeat (go_quiet (fail); try go_wp2)
  go_ret
  exact ⟨by first | rfl | (simp; done) | (simp [*]; done), by repeat (first | exact Drawn0.refl _ | apply Drawn0.step)⟩

end Go.Proofs.Ytdgglhfnlljmeaa.PFnMagazines
