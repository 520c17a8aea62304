/- Functions and contracts that FnExactMovePieces reaches (12 of 24). -/
import Derived.Test.YtdgglhfnlljmeaaQFnExactMovePiecesx10
namespace Go.Proofs.Ytdgglhfnlljmeaa.PFnExactMovePieces
open Go.RowKit Go.Proofs.YtdgglhfnlljmeaaW.PrintWords Go.Proofs.YtdgglhfnlljmeaaW.PrintLast Go.Proofs.YtdgglhfnlljmeaaW.PrintMore
attribute [local go_sem] max2_int min2_int max_two min_two max_three min_three max_four min_four   -- for this text's walks alone
set_option linter.unusedVariables false
set_option linter.unusedSimpArgs false
open Go.Proofs.YtdgglhfnlljmeaaX

/-! ### impl_AreArticles: function 60 -/
def impl_AreArticles.l0 : Nat → List (S65) → List (S65) → Int → Int → Option (Bool)
 | 0, _, _, _, _ => none
 | k + 1, x0, x8, x9, x10 => if x10 < x9 then (if 0 ≤ x10 then (if x10 < (x8.length : Int) then ((impl_IsArticle.f k ((rd_T65 x8 x10).f0) ((rd_T65 x8 x10).f1) ((rd_T65 x8 x10).f2) ((rd_T65 x8 x10).f3) ((rd_T65 x8 x10).f4) ((rd_T65 x8 x10).f5) ((rd_T65 x8 x10).f6) ((rd_T65 x8 x10).f7) ((rd_T65 x8 x10).f8)).bind fun t255 => (if t255 = true then (if x10 > 0 then (if 0 ≤ (wrap64 (x10 - 1)) then (if (wrap64 (x10 - 1)) < (x0.length : Int) then (if (Op.bytesLess (((rd_T65 x0 (wrap64 (x10 - 1))).f0).toList) (((rd_T65 x8 x10).f0).toList)) = true then (impl_AreArticles.l0 k x0 x8 x9 (wrap64 (x10 + 1))) else (some false)) else (none)) else (none)) else (impl_AreArticles.l0 k x0 x8 x9 (wrap64 (x10 + 1)))) else (some false))) else (none)) else (none)) else (some true)
def impl_AreArticles.f (k : Nat) (l0 : List (S65)) : Option (Bool) := if (l0.length : Int) > 12 then (some false) else (impl_AreArticles.l0 k l0 l0 (l0.length : Int) 0)
theorem impl_AreArticles.mono_l : ∀ k, (∀ y0 y1 y2 y3, LeO (impl_AreArticles.l0 k y0 y1 y2 y3) (impl_AreArticles.l0 (k + 1) y0 y1 y2 y3))
 | 0 => fun _ _ _ _ r h => by simp [impl_AreArticles.l0] at h
 | k + 1 => by
  have ih0 := impl_AreArticles.mono_l k
  ·intro y0 y1 y2 y3
   unfold impl_AreArticles.l0
   repeat' first
   | (with_reducible exact ih0 _ _ _ _)
   | (with_reducible exact impl_IsArticle.mono _ _ _ _ _ _ _ _ _ _)
   | (with_reducible exact LeO.refl _)
   | (with_reducible exact LeO.none _)
   | (with_reducible refine LeO.ite ?_ ?_)
   | (with_reducible refine LeO.bind ?_ (fun _ => ?_))
   | exact ih0 _ _ _ _
   | exact impl_IsArticle.mono _ _ _ _ _ _ _ _ _ _
   | exact LeO.none _
   | refine LeO.ite ?_ ?_
   | refine LeO.bind ?_ (fun _ => ?_)
theorem impl_AreArticles.mono : ∀ a0 k, LeO (impl_AreArticles.f k a0) (impl_AreArticles.f (k + 1) a0) := by
 intro a0 k
 have ih0 := impl_AreArticles.mono_l k
 unfold impl_AreArticles.f
 repeat' first
   | (with_reducible exact ih0 _ _ _ _)
   | (with_reducible exact impl_IsArticle.mono _ _ _ _ _ _ _ _ _ _)
   | (with_reducible exact LeO.refl _)
   | (with_reducible exact LeO.none _)
   | (with_reducible refine LeO.ite ?_ ?_)
   | (with_reducible refine LeO.bind ?_ (fun _ => ?_))
   | exact ih0 _ _ _ _
   | exact impl_IsArticle.mono _ _ _ _ _ _ _ _ _ _
   | exact LeO.none _
   | refine LeO.ite ?_ ?_
   | refine LeO.bind ?_ (fun _ => ?_)
def impl_AreArticles.T6 : Bool × List (List Nat × List Nat) := (true, [([], []), ([0], [0]), ([1], [1]), ([2, 1], [2]), ([3], [3]), ([4, 3], [3, 4]), ([5, 3, 3], [3, 5]), ([6], [6]), ([6], [6]), ([8, 6], [6, 8]), ([7, 9, 6], [6, 7, 9]), ([10, 6], [6, 10]), ([11, 6], [6, 11]), ([6], [6]), ([13, 6], [6, 13]), ([12, 14, 6], [6, 12, 14]), ([6, 15, 3], [3, 6, 15]), ([3, 16], [3, 16])])
def impl_AreArticles.B6 : List Nat := [0, 1, 3, 7, 15, 31, 63, 127, 127, 383, 1023, 2047, 4095, 127, 8319, 32767, 65535, 131071]
theorem impl_AreArticles.tab6 : rtab .any (opsOf Try.f60 6) = impl_AreArticles.T6 := by kernel_rfl
theorem impl_AreArticles.bits6 : waitsOk impl_AreArticles.T6.2 impl_AreArticles.B6 = true := by kernel_rfl
set_option maxHeartbeats 8000000 in
set_option maxRecDepth 100000 in
theorem impl_AreArticles.calls (k : Nat) (A0 : Option Addr) (c0 : Nat) (l0 : List (S65)) (r : Bool) (w : World) (hr0 : Kd.C k65 w A0 l0.length l0) (hc0 : l0.length ≤ c0) (h : impl_AreArticles.f k l0 = some r) :
  Calls Try.prog 60 #[.slice A0 l0.length c0] w fun e w' => e = .returned (.bool r) ∧ Below w.heap.size w w' := by
 have hu65 := Try.underlying65
 have HR0 := jA hr0
 have HC0 := jA hc0
 clear hr0 hc0
 have HB := jA (Below.refl w.heap.size w)
 have H := h
 unfold impl_AreArticles.f at H
 clear h
 by_cases c2 : (l0.length : Int) > 12
 ·rw [if_pos c2] at H
  have c2b0 : decide (12 < (l0.length : Int)) = true := jI c2
  have c2b1 : decide (12 < l0.length) = true := jI (by omega)
  clear c2
  obtain rfl := jH H
  go_enter Try.func60, Try.ntmps60
  go_wp2
  go_ret
  exact ⟨ze, zb0 HB⟩
 ·rw [if_neg c2] at H
  have c2b0 : decide (12 < (l0.length : Int)) = false := jM c2
  have c2b1 : decide (12 < l0.length) = false := jM (by omega)
  clear c2
  have H' := jA H
  clear H
  go_enter Try.func60, Try.ntmps60
  go_wp2
  go_loopg [10] k (fun kq v10 w' => ∃ (x10_1 : Int), v10 = .int .i64 x10_1 ∧ Aside0 (impl_AreArticles.l0 kq l0 l0 (l0.length : Int) x10_1 = some r) ∧ Aside0 (kq ≤ k) ∧ Aside0 (Below w.heap.size w w'))
  case atStart => exact ⟨(0), zz, H', ⟨Nat.le_refl _⟩, ⟨zb0 HB⟩⟩
  case round =>
   clear H'
   try clear c2
   try clear c2b0
   try clear c2b1
   try clear p2
   obtain ⟨x10_1, rfl, HA, HK1, HB⟩ := hrel
   cases gk with
   | zero => exact absurd HA.out (by simp [impl_AreArticles.l0])
   | succ k1 =>
    have H := HA.out
    clear HA
    simp only [impl_AreArticles.l0] at H
    by_cases c3 : x10_1 < (l0.length : Int)
    ·rw [if_pos c3] at H
     have c3b0 : decide (x10_1 < (l0.length : Int)) = true := jI c3
     clear c3
     by_cases c4 : 0 ≤ x10_1
     ·rw [if_pos c4] at H
      have c4b0 : decide (0 ≤ x10_1) = true := jI c4
      clear c4
      by_cases c5 : x10_1 < (l0.length : Int)
      ·rw [if_pos c5] at H
       have c5b0 : decide (x10_1 < (l0.length : Int)) = true := jI c5
       clear c5
       replace H := jG.mp H
       obtain ⟨t255, A60, H⟩ := H
       replace H : (if t255 = true then (if x10_1 > 0 then (if 0 ≤ (wrap64 (x10_1 - 1)) then (if (wrap64 (x10_1 - 1)) < (l0.length : Int) then (if (Op.bytesLess (((rd_T65 l0 (wrap64 (x10_1 - 1))).f0).toList) (((rd_T65 l0 x10_1).f0).toList)) = true then (impl_AreArticles.l0 k1 l0 l0 (l0.length : Int) (wrap64 (x10_1 + 1))) else (some false)) else (none)) else (none)) else (impl_AreArticles.l0 k1 l0 l0 (l0.length : Int) (wrap64 (x10_1 + 1)))) else (some false)) = some r := H
       have A6 := jA A60
       clear A60
       by_cases c7 : t255 = true
       ·subst c7
        rw [if_pos rfl] at H
        by_cases c8 : x10_1 > 0
        ·rw [if_pos c8] at H
         have c8b0 : decide (0 < x10_1) = true := jI c8
         clear c8
         obtain ⟨ji9, hji9⟩ : ∃ j_ : Int, (wrap64 (x10_1 - 1)) = j_ := ⟨_, rfl⟩
         replace H : (if 0 ≤ (ji9) then (if (ji9) < (l0.length : Int) then (if (Op.bytesLess (((rd_T65 l0 (ji9)).f0).toList) (((rd_T65 l0 x10_1).f0).toList)) = true then (impl_AreArticles.l0 k1 l0 l0 (l0.length : Int) (wrap64 (x10_1 + 1))) else (some false)) else (none)) else (none)) = some r := by first | (rw [hji9] at H; exact H) | (simp only [hji9] at H ⊢; exact H)
         (try rw [hji9] at A6)
         have hji9w : (IntKind.i64.wrap (x10_1 - 1)) = ji9 := (i64_w _).trans hji9
         by_cases c10 : 0 ≤ (ji9)
         ·rw [if_pos c10] at H
          have c10b0 : decide (0 ≤ (ji9)) = true := jI c10
          clear c10
          by_cases c11 : (ji9) < (l0.length : Int)
          ·rw [if_pos c11] at H
           have c11b0 : decide ((ji9) < (l0.length : Int)) = true := jI c11
           clear c11
           by_cases c12 : (Op.bytesLess (((rd_T65 l0 (ji9)).f0).toList) (((rd_T65 l0 x10_1).f0).toList)) = true
           ·rw [if_pos c12] at H
            have c12b0 : (Op.bytesLess (((rd_T65 l0 (ji9)).f0).toList) (((rd_T65 l0 x10_1).f0).toList)) = true := c12
            clear c12
            have H' := jA H
            clear H
            have p253 : 0 ≤ (x10_1 : Int) := jB za
            have q253 : x10_1 < (l0.length : Int) := jB za
            obtain ⟨ad253, e253, hx253_0, hx253_1, hx253_2, hx253_3, hx253_4, hx253_5, hx253_6, hx253_7, hx253_8⟩ := at_T65 HR0.out x10_1 p253 q253
            cases e253
            replace hx253_0 := zx HB hx253_0
            replace hx253_1 := zx HB hx253_1
            replace hx253_2 := zx HB hx253_2
            replace hx253_3 := zx HB hx253_3
            replace hx253_4 := zx HB hx253_4
            replace hx253_5 := zx HB hx253_5
            replace hx253_6 := zx HB hx253_6
            replace hx253_7 := zx HB hx253_7
            replace hx253_8 := zx HB hx253_8
            replace p253 := eq_true p253
            replace q253 := eq_true q253
            try go_wp2_with (first | ((with_reducible refine jJ (N := 4) rfl ?_); refine zE 4 #[.string (⟨#[]⟩ : ByteArray), .int .i64 0, .int .i64 0, .int .i64 0, .int .i64 0, .int .i64 0, .int .i64 0, .int .i64 0, .int .i64 0] 65 ?_; intro gb254 hg w13 hbox hb; have BK254 := jA (hbox); have GW254 := zg0 hg HB; have GE254 := zg0 hg HB; replace HB := zS0 HB hb; clear hb hbox hg; have hcz14 := zc9 BK254))
            have n0_ : Aside0 ((((((((((w13.setCell ⟨gb254, 0, none⟩ (.string ((rd_T65 l0 x10_1).f0))).setCell ⟨gb254, 1, none⟩ (.int .i64 ((rd_T65 l0 x10_1).f1))).setCell ⟨gb254, 2, none⟩ (.int .i64 ((rd_T65 l0 x10_1).f2))).setCell ⟨gb254, 3, none⟩ (.int .i64 ((rd_T65 l0 x10_1).f3))).setCell ⟨gb254, 4, none⟩ (.int .i64 ((rd_T65 l0 x10_1).f4))).setCell ⟨gb254, 5, none⟩ (.int .i64 ((rd_T65 l0 x10_1).f5))).setCell ⟨gb254, 6, none⟩ (.int .i64 ((rd_T65 l0 x10_1).f6))).setCell ⟨gb254, 7, none⟩ (.int .i64 ((rd_T65 l0 x10_1).f7))).setCell ⟨gb254, 8, none⟩ (.int .i64 ((rd_T65 l0 x10_1).f8))).heap[gb254]? = some (.cells #[.string ((rd_T65 l0 x10_1).f0), .int .i64 ((rd_T65 l0 x10_1).f1), .int .i64 ((rd_T65 l0 x10_1).f2), .int .i64 ((rd_T65 l0 x10_1).f3), .int .i64 ((rd_T65 l0 x10_1).f4), .int .i64 ((rd_T65 l0 x10_1).f5), .int .i64 ((rd_T65 l0 x10_1).f6), .int .i64 ((rd_T65 l0 x10_1).f7), .int .i64 ((rd_T65 l0 x10_1).f8)] 65 (0, 0))) := ⟨zP0 BK254⟩
            have n1_ : Aside0 (Below w.heap.size w (((((((((w13.setCell ⟨gb254, 0, none⟩ (.string ((rd_T65 l0 x10_1).f0))).setCell ⟨gb254, 1, none⟩ (.int .i64 ((rd_T65 l0 x10_1).f1))).setCell ⟨gb254, 2, none⟩ (.int .i64 ((rd_T65 l0 x10_1).f2))).setCell ⟨gb254, 3, none⟩ (.int .i64 ((rd_T65 l0 x10_1).f3))).setCell ⟨gb254, 4, none⟩ (.int .i64 ((rd_T65 l0 x10_1).f4))).setCell ⟨gb254, 5, none⟩ (.int .i64 ((rd_T65 l0 x10_1).f5))).setCell ⟨gb254, 6, none⟩ (.int .i64 ((rd_T65 l0 x10_1).f6))).setCell ⟨gb254, 7, none⟩ (.int .i64 ((rd_T65 l0 x10_1).f7))).setCell ⟨gb254, 8, none⟩ (.int .i64 ((rd_T65 l0 x10_1).f8)))) := ⟨zb1 HB GE254⟩
            (try clear BK254)
            (try clear HB)
            generalize (((((((((w13.setCell ⟨gb254, 0, none⟩ (.string ((rd_T65 l0 x10_1).f0))).setCell ⟨gb254, 1, none⟩ (.int .i64 ((rd_T65 l0 x10_1).f1))).setCell ⟨gb254, 2, none⟩ (.int .i64 ((rd_T65 l0 x10_1).f2))).setCell ⟨gb254, 3, none⟩ (.int .i64 ((rd_T65 l0 x10_1).f3))).setCell ⟨gb254, 4, none⟩ (.int .i64 ((rd_T65 l0 x10_1).f4))).setCell ⟨gb254, 5, none⟩ (.int .i64 ((rd_T65 l0 x10_1).f5))).setCell ⟨gb254, 6, none⟩ (.int .i64 ((rd_T65 l0 x10_1).f6))).setCell ⟨gb254, 7, none⟩ (.int .i64 ((rd_T65 l0 x10_1).f7))).setCell ⟨gb254, 8, none⟩ (.int .i64 ((rd_T65 l0 x10_1).f8))) = w15 at n0_ n1_ ⊢
            have BK254 := n0_
            have HB := n1_
            clear n0_ n1_
            replace BK254 := jA (blk_drew BK254.out)
            replace HB := jA (jR HB.out)
            have p256 : 0 ≤ ((ji9) : Int) := jB za
            have q256 : (ji9) < (l0.length : Int) := jB za
            obtain ⟨ad256, e256, hx256_0, hx256_1, hx256_2, hx256_3, hx256_4, hx256_5, hx256_6, hx256_7, hx256_8⟩ := at_T65 HR0.out (ji9) p256 q256
            clear hx256_1 hx256_2 hx256_3 hx256_4 hx256_5 hx256_6 hx256_7 hx256_8
            have hw256_0 := hx256_0
            obtain rfl : ad253 = ad256 := (by injection e256)
            replace hx256_0 := zx HB hx256_0
            replace p256 := eq_true p256
            replace q256 := eq_true q256
            refine start_ (n := 18) (S := fun w' => w'.cell? ⟨gb254, 0, none⟩ = some (.string ((rd_T65 l0 x10_1).f0)) ∧ w'.cell? ⟨gb254, 1, none⟩ = some (.int .i64 ((rd_T65 l0 x10_1).f1)) ∧ w'.cell? ⟨gb254, 2, none⟩ = some (.int .i64 ((rd_T65 l0 x10_1).f2)) ∧ w'.cell? ⟨gb254, 3, none⟩ = some (.int .i64 ((rd_T65 l0 x10_1).f3)) ∧ w'.cell? ⟨gb254, 4, none⟩ = some (.int .i64 ((rd_T65 l0 x10_1).f4)) ∧ w'.cell? ⟨gb254, 5, none⟩ = some (.int .i64 ((rd_T65 l0 x10_1).f5)) ∧ w'.cell? ⟨gb254, 6, none⟩ = some (.int .i64 ((rd_T65 l0 x10_1).f6)) ∧ w'.cell? ⟨gb254, 7, none⟩ = some (.int .i64 ((rd_T65 l0 x10_1).f7)) ∧ w'.cell? ⟨gb254, 8, none⟩ = some (.int .i64 ((rd_T65 l0 x10_1).f8)) ∧ w'.cell? (ad253.add (((ji9)).toNat * 9)) = some (.string ((rd_T65 l0 (ji9)).f0))) (ds := []) m18_0 zr rfl rfl ⟨(jD BK254.out 0).trans rfl, (jD BK254.out 1).trans rfl, (jD BK254.out 2).trans rfl, (jD BK254.out 3).trans rfl, (jD BK254.out 4).trans rfl, (jD BK254.out 5).trans rfl, (jD BK254.out 6).trans rfl, (jD BK254.out 7).trans rfl, (jD BK254.out 8).trans rfl, (zx HB hw256_0)⟩ (fun hHeld => ?_); refine with_tabW impl_AreArticles.tab6 impl_AreArticles.bits6 (fun HT_ HW_ => ?_)
            generalize w15.drew = w16 at BK254 HB hx256_0 hHeld ⊢
            refine zt10 HT_ HW_ hHeld 0 15 m18_20000 ?_
            refine one_ (i := 1) (N := some 16) m18_30000 rfl rfl (one_of HT_.out zr) (by decide) (fun K hK => ?_)
            refine goes_ Try.func84 zr rfl #[.agg #[.string ((rd_T65 l0 x10_1).f0), .int .i64 ((rd_T65 l0 x10_1).f1), .int .i64 ((rd_T65 l0 x10_1).f2), .int .i64 ((rd_T65 l0 x10_1).f3), .int .i64 ((rd_T65 l0 x10_1).f4), .int .i64 ((rd_T65 l0 x10_1).f5), .int .i64 ((rd_T65 l0 x10_1).f6), .int .i64 ((rd_T65 l0 x10_1).f7), .int .i64 ((rd_T65 l0 x10_1).f8)]] (by rfl) rfl rfl zm ?_
            with_reducible refine (impl_IsArticle.calls k1 ((rd_T65 l0 x10_1).f0) ((rd_T65 l0 x10_1).f1) ((rd_T65 l0 x10_1).f2) ((rd_T65 l0 x10_1).f3) ((rd_T65 l0 x10_1).f4) ((rd_T65 l0 x10_1).f5) ((rd_T65 l0 x10_1).f6) ((rd_T65 l0 x10_1).f7) ((rd_T65 l0 x10_1).f8) true _ A6.out).mono ?_
            rintro e w17 ⟨rfl, hb⟩
            refine ⟨_, rfl, ?_⟩
            replace BK254 := zB BK254 hb
            replace HB := zS1 HB GE254 hb
            (try clear hb)
            (try clear hb2)
            (try clear hk)
            (try clear hi)
            refine hK.out _ _ ⟨(jD BK254.out 0).trans rfl, (jD BK254.out 1).trans rfl, (jD BK254.out 2).trans rfl, (jD BK254.out 3).trans rfl, (jD BK254.out 4).trans rfl, (jD BK254.out 5).trans rfl, (jD BK254.out 6).trans rfl, (jD BK254.out 7).trans rfl, (jD BK254.out 8).trans rfl, (zx HB hw256_0)⟩ (fun hHeld => ?_)
            clear hK K
            refine norm_ (a' := ?_) ?_ ?_
            rotate_left
            ·show Act.put _ (some 16) _ = _
             simp only [Act.put, jC, jE, jF, i64_w, i32_w]
             rfl
            refine zp HT_ 2 17 m18_38000 ?_
            refine zp HT_ 3 18 m18_3c000 ?_
            refine zp HT_ 4 19 m18_3e000 ?_
            refine zp HT_ 5 20 m18_3f000 ?_
            refine zp HT_ 6 21 m18_3f800 ?_
            refine zp HT_ 7 22 m18_3fc00 ?_
            refine zp HT_ 8 23 m18_3fe00 ?_
            refine zp HT_ 9 24 m18_3ff00 ?_
            refine zp HT_ 10 25 m18_3ff80 ?_
            refine zp HT_ 11 26 m18_3ffc0 ?_
            refine zp HT_ 13 28 m18_3ffd0 ?_
            refine zt10 HT_ HW_ hHeld 12 27 m18_3fff0 ?_
            refine zt10 HT_ HW_ hHeld 14 29 m18_3fff8 ?_
            refine zp HT_ 15 30 m18_3fffc ?_
            refine zp HT_ 16 31 m18_3fffe ?_
            refine zp HT_ 17 32 m18_3ffff ?_
            refine done_ (done_of HT_.out zr) ?_
            try go_wp2
            go_roundg k1
            case measure => have := HK1.out; omega
            case rel => exact ⟨(wrap64 (x10_1 + 1)), zz, H', ⟨by have := HK1.out; omega⟩, ⟨zb1 HB GE254⟩⟩
           ·rw [if_neg c12] at H
            have c12b0 : (Op.bytesLess (((rd_T65 l0 (ji9)).f0).toList) (((rd_T65 l0 x10_1).f0).toList)) = false := by simpa using c12
            clear c12
            obtain rfl := jH H
            have p253 : 0 ≤ (x10_1 : Int) := jB za
            have q253 : x10_1 < (l0.length : Int) := jB za
            obtain ⟨ad253, e253, hx253_0, hx253_1, hx253_2, hx253_3, hx253_4, hx253_5, hx253_6, hx253_7, hx253_8⟩ := at_T65 HR0.out x10_1 p253 q253
            cases e253
            replace hx253_0 := zx HB hx253_0
            replace hx253_1 := zx HB hx253_1
            replace hx253_2 := zx HB hx253_2
            replace hx253_3 := zx HB hx253_3
            replace hx253_4 := zx HB hx253_4
            replace hx253_5 := zx HB hx253_5
            replace hx253_6 := zx HB hx253_6
            replace hx253_7 := zx HB hx253_7
            replace hx253_8 := zx HB hx253_8
            replace p253 := eq_true p253
            replace q253 := eq_true q253
            try go_wp2_with (first | ((with_reducible refine jJ (N := 4) rfl ?_); refine zE 4 #[.string (⟨#[]⟩ : ByteArray), .int .i64 0, .int .i64 0, .int .i64 0, .int .i64 0, .int .i64 0, .int .i64 0, .int .i64 0, .int .i64 0] 65 ?_; intro gb254 hg w18 hbox hb; have BK254 := jA (hbox); have GW254 := zg0 hg HB; have GE254 := zg0 hg HB; replace HB := zS0 HB hb; clear hb hbox hg; have hcz19 := zc9 BK254))
            have n0_ : Aside0 ((((((((((w18.setCell ⟨gb254, 0, none⟩ (.string ((rd_T65 l0 x10_1).f0))).setCell ⟨gb254, 1, none⟩ (.int .i64 ((rd_T65 l0 x10_1).f1))).setCell ⟨gb254, 2, none⟩ (.int .i64 ((rd_T65 l0 x10_1).f2))).setCell ⟨gb254, 3, none⟩ (.int .i64 ((rd_T65 l0 x10_1).f3))).setCell ⟨gb254, 4, none⟩ (.int .i64 ((rd_T65 l0 x10_1).f4))).setCell ⟨gb254, 5, none⟩ (.int .i64 ((rd_T65 l0 x10_1).f5))).setCell ⟨gb254, 6, none⟩ (.int .i64 ((rd_T65 l0 x10_1).f6))).setCell ⟨gb254, 7, none⟩ (.int .i64 ((rd_T65 l0 x10_1).f7))).setCell ⟨gb254, 8, none⟩ (.int .i64 ((rd_T65 l0 x10_1).f8))).heap[gb254]? = some (.cells #[.string ((rd_T65 l0 x10_1).f0), .int .i64 ((rd_T65 l0 x10_1).f1), .int .i64 ((rd_T65 l0 x10_1).f2), .int .i64 ((rd_T65 l0 x10_1).f3), .int .i64 ((rd_T65 l0 x10_1).f4), .int .i64 ((rd_T65 l0 x10_1).f5), .int .i64 ((rd_T65 l0 x10_1).f6), .int .i64 ((rd_T65 l0 x10_1).f7), .int .i64 ((rd_T65 l0 x10_1).f8)] 65 (0, 0))) := ⟨zP0 BK254⟩
            have n1_ : Aside0 (Below w.heap.size w (((((((((w18.setCell ⟨gb254, 0, none⟩ (.string ((rd_T65 l0 x10_1).f0))).setCell ⟨gb254, 1, none⟩ (.int .i64 ((rd_T65 l0 x10_1).f1))).setCell ⟨gb254, 2, none⟩ (.int .i64 ((rd_T65 l0 x10_1).f2))).setCell ⟨gb254, 3, none⟩ (.int .i64 ((rd_T65 l0 x10_1).f3))).setCell ⟨gb254, 4, none⟩ (.int .i64 ((rd_T65 l0 x10_1).f4))).setCell ⟨gb254, 5, none⟩ (.int .i64 ((rd_T65 l0 x10_1).f5))).setCell ⟨gb254, 6, none⟩ (.int .i64 ((rd_T65 l0 x10_1).f6))).setCell ⟨gb254, 7, none⟩ (.int .i64 ((rd_T65 l0 x10_1).f7))).setCell ⟨gb254, 8, none⟩ (.int .i64 ((rd_T65 l0 x10_1).f8)))) := ⟨zb1 HB GE254⟩
            (try clear BK254)
            (try clear HB)
            generalize (((((((((w18.setCell ⟨gb254, 0, none⟩ (.string ((rd_T65 l0 x10_1).f0))).setCell ⟨gb254, 1, none⟩ (.int .i64 ((rd_T65 l0 x10_1).f1))).setCell ⟨gb254, 2, none⟩ (.int .i64 ((rd_T65 l0 x10_1).f2))).setCell ⟨gb254, 3, none⟩ (.int .i64 ((rd_T65 l0 x10_1).f3))).setCell ⟨gb254, 4, none⟩ (.int .i64 ((rd_T65 l0 x10_1).f4))).setCell ⟨gb254, 5, none⟩ (.int .i64 ((rd_T65 l0 x10_1).f5))).setCell ⟨gb254, 6, none⟩ (.int .i64 ((rd_T65 l0 x10_1).f6))).setCell ⟨gb254, 7, none⟩ (.int .i64 ((rd_T65 l0 x10_1).f7))).setCell ⟨gb254, 8, none⟩ (.int .i64 ((rd_T65 l0 x10_1).f8))) = w20 at n0_ n1_ ⊢
            have BK254 := n0_
            have HB := n1_
            clear n0_ n1_
            replace BK254 := jA (blk_drew BK254.out)
            replace HB := jA (jR HB.out)
            have p256 : 0 ≤ ((ji9) : Int) := jB za
            have q256 : (ji9) < (l0.length : Int) := jB za
            obtain ⟨ad256, e256, hx256_0, hx256_1, hx256_2, hx256_3, hx256_4, hx256_5, hx256_6, hx256_7, hx256_8⟩ := at_T65 HR0.out (ji9) p256 q256
            clear hx256_1 hx256_2 hx256_3 hx256_4 hx256_5 hx256_6 hx256_7 hx256_8
            have hw256_0 := hx256_0
            obtain rfl : ad253 = ad256 := (by injection e256)
            replace hx256_0 := zx HB hx256_0
            replace p256 := eq_true p256
            replace q256 := eq_true q256
            refine start_ (n := 18) (S := fun w' => w'.cell? ⟨gb254, 0, none⟩ = some (.string ((rd_T65 l0 x10_1).f0)) ∧ w'.cell? ⟨gb254, 1, none⟩ = some (.int .i64 ((rd_T65 l0 x10_1).f1)) ∧ w'.cell? ⟨gb254, 2, none⟩ = some (.int .i64 ((rd_T65 l0 x10_1).f2)) ∧ w'.cell? ⟨gb254, 3, none⟩ = some (.int .i64 ((rd_T65 l0 x10_1).f3)) ∧ w'.cell? ⟨gb254, 4, none⟩ = some (.int .i64 ((rd_T65 l0 x10_1).f4)) ∧ w'.cell? ⟨gb254, 5, none⟩ = some (.int .i64 ((rd_T65 l0 x10_1).f5)) ∧ w'.cell? ⟨gb254, 6, none⟩ = some (.int .i64 ((rd_T65 l0 x10_1).f6)) ∧ w'.cell? ⟨gb254, 7, none⟩ = some (.int .i64 ((rd_T65 l0 x10_1).f7)) ∧ w'.cell? ⟨gb254, 8, none⟩ = some (.int .i64 ((rd_T65 l0 x10_1).f8)) ∧ w'.cell? (ad253.add (((ji9)).toNat * 9)) = some (.string ((rd_T65 l0 (ji9)).f0))) (ds := []) m18_0 zr rfl rfl ⟨(jD BK254.out 0).trans rfl, (jD BK254.out 1).trans rfl, (jD BK254.out 2).trans rfl, (jD BK254.out 3).trans rfl, (jD BK254.out 4).trans rfl, (jD BK254.out 5).trans rfl, (jD BK254.out 6).trans rfl, (jD BK254.out 7).trans rfl, (jD BK254.out 8).trans rfl, (zx HB hw256_0)⟩ (fun hHeld => ?_); refine with_tabW impl_AreArticles.tab6 impl_AreArticles.bits6 (fun HT_ HW_ => ?_)
            generalize w20.drew = w21 at BK254 HB hx256_0 hHeld ⊢
            refine zt10 HT_ HW_ hHeld 0 15 m18_20000 ?_
            refine one_ (i := 1) (N := some 16) m18_30000 rfl rfl (one_of HT_.out zr) (by decide) (fun K hK => ?_)
            refine goes_ Try.func84 zr rfl #[.agg #[.string ((rd_T65 l0 x10_1).f0), .int .i64 ((rd_T65 l0 x10_1).f1), .int .i64 ((rd_T65 l0 x10_1).f2), .int .i64 ((rd_T65 l0 x10_1).f3), .int .i64 ((rd_T65 l0 x10_1).f4), .int .i64 ((rd_T65 l0 x10_1).f5), .int .i64 ((rd_T65 l0 x10_1).f6), .int .i64 ((rd_T65 l0 x10_1).f7), .int .i64 ((rd_T65 l0 x10_1).f8)]] (by rfl) rfl rfl zm ?_
            with_reducible refine (impl_IsArticle.calls k1 ((rd_T65 l0 x10_1).f0) ((rd_T65 l0 x10_1).f1) ((rd_T65 l0 x10_1).f2) ((rd_T65 l0 x10_1).f3) ((rd_T65 l0 x10_1).f4) ((rd_T65 l0 x10_1).f5) ((rd_T65 l0 x10_1).f6) ((rd_T65 l0 x10_1).f7) ((rd_T65 l0 x10_1).f8) true _ A6.out).mono ?_
            rintro e w22 ⟨rfl, hb⟩
            refine ⟨_, rfl, ?_⟩
            replace BK254 := zB BK254 hb
            replace HB := zS1 HB GE254 hb
            (try clear hb)
            (try clear hb2)
            (try clear hk)
            (try clear hi)
            refine hK.out _ _ ⟨(jD BK254.out 0).trans rfl, (jD BK254.out 1).trans rfl, (jD BK254.out 2).trans rfl, (jD BK254.out 3).trans rfl, (jD BK254.out 4).trans rfl, (jD BK254.out 5).trans rfl, (jD BK254.out 6).trans rfl, (jD BK254.out 7).trans rfl, (jD BK254.out 8).trans rfl, (zx HB hw256_0)⟩ (fun hHeld => ?_)
            clear hK K
            refine norm_ (a' := ?_) ?_ ?_
            rotate_left
            ·show Act.put _ (some 16) _ = _
             simp only [Act.put, jC, jE, jF, i64_w, i32_w]
             rfl
            refine zp HT_ 2 17 m18_38000 ?_
            refine zp HT_ 3 18 m18_3c000 ?_
            refine zp HT_ 4 19 m18_3e000 ?_
            refine zp HT_ 5 20 m18_3f000 ?_
            refine zp HT_ 6 21 m18_3f800 ?_
            refine zp HT_ 7 22 m18_3fc00 ?_
            refine zp HT_ 8 23 m18_3fe00 ?_
            refine zp HT_ 9 24 m18_3ff00 ?_
            refine zp HT_ 10 25 m18_3ff80 ?_
            refine zp HT_ 11 26 m18_3ffc0 ?_
            refine zp HT_ 13 28 m18_3ffd0 ?_
            refine zt10 HT_ HW_ hHeld 12 27 m18_3fff0 ?_
            refine zt10 HT_ HW_ hHeld 14 29 m18_3fff8 ?_
            refine zp HT_ 15 30 m18_3fffc ?_
            refine zp HT_ 16 31 m18_3fffe ?_
            refine zp HT_ 17 32 m18_3ffff ?_
            refine done_ (done_of HT_.out zr) ?_
            try go_wp2
            go_ret
            exact ⟨by first | rfl | (simp [errW_none, errW_some] <;> rfl) | (simp only [← hji9]; first | rfl | (simp [errW_none, errW_some] <;> rfl)) | (simp [*, errW_none, errW_some] <;> rfl), zb1 HB GE254⟩
          ·rw [if_neg c11] at H
           exact absurd H (by simp)
         ·rw [if_neg c10] at H
          exact absurd H (by simp)
        ·rw [if_neg c8] at H
         have c8b0 : decide (0 < x10_1) = false := jM c8
         clear c8
         have H' := jA H
         clear H
         have p253 : 0 ≤ (x10_1 : Int) := jB za
         have q253 : x10_1 < (l0.length : Int) := jB za
         obtain ⟨ad253, e253, hx253_0, hx253_1, hx253_2, hx253_3, hx253_4, hx253_5, hx253_6, hx253_7, hx253_8⟩ := at_T65 HR0.out x10_1 p253 q253
         cases e253
         replace hx253_0 := zx HB hx253_0
         replace hx253_1 := zx HB hx253_1
         replace hx253_2 := zx HB hx253_2
         replace hx253_3 := zx HB hx253_3
         replace hx253_4 := zx HB hx253_4
         replace hx253_5 := zx HB hx253_5
         replace hx253_6 := zx HB hx253_6
         replace hx253_7 := zx HB hx253_7
         replace hx253_8 := zx HB hx253_8
         replace p253 := eq_true p253
         replace q253 := eq_true q253
         try go_wp2_with (first | ((with_reducible refine jJ (N := 4) rfl ?_); refine zE 4 #[.string (⟨#[]⟩ : ByteArray), .int .i64 0, .int .i64 0, .int .i64 0, .int .i64 0, .int .i64 0, .int .i64 0, .int .i64 0, .int .i64 0] 65 ?_; intro gb254 hg w23 hbox hb; have BK254 := jA (hbox); have GW254 := zg0 hg HB; have GE254 := zg0 hg HB; replace HB := zS0 HB hb; clear hb hbox hg; have hcz24 := zc9 BK254))
         have n0_ : Aside0 ((((((((((w23.setCell ⟨gb254, 0, none⟩ (.string ((rd_T65 l0 x10_1).f0))).setCell ⟨gb254, 1, none⟩ (.int .i64 ((rd_T65 l0 x10_1).f1))).setCell ⟨gb254, 2, none⟩ (.int .i64 ((rd_T65 l0 x10_1).f2))).setCell ⟨gb254, 3, none⟩ (.int .i64 ((rd_T65 l0 x10_1).f3))).setCell ⟨gb254, 4, none⟩ (.int .i64 ((rd_T65 l0 x10_1).f4))).setCell ⟨gb254, 5, none⟩ (.int .i64 ((rd_T65 l0 x10_1).f5))).setCell ⟨gb254, 6, none⟩ (.int .i64 ((rd_T65 l0 x10_1).f6))).setCell ⟨gb254, 7, none⟩ (.int .i64 ((rd_T65 l0 x10_1).f7))).setCell ⟨gb254, 8, none⟩ (.int .i64 ((rd_T65 l0 x10_1).f8))).heap[gb254]? = some (.cells #[.string ((rd_T65 l0 x10_1).f0), .int .i64 ((rd_T65 l0 x10_1).f1), .int .i64 ((rd_T65 l0 x10_1).f2), .int .i64 ((rd_T65 l0 x10_1).f3), .int .i64 ((rd_T65 l0 x10_1).f4), .int .i64 ((rd_T65 l0 x10_1).f5), .int .i64 ((rd_T65 l0 x10_1).f6), .int .i64 ((rd_T65 l0 x10_1).f7), .int .i64 ((rd_T65 l0 x10_1).f8)] 65 (0, 0))) := ⟨zP0 BK254⟩
         have n1_ : Aside0 (Below w.heap.size w (((((((((w23.setCell ⟨gb254, 0, none⟩ (.string ((rd_T65 l0 x10_1).f0))).setCell ⟨gb254, 1, none⟩ (.int .i64 ((rd_T65 l0 x10_1).f1))).setCell ⟨gb254, 2, none⟩ (.int .i64 ((rd_T65 l0 x10_1).f2))).setCell ⟨gb254, 3, none⟩ (.int .i64 ((rd_T65 l0 x10_1).f3))).setCell ⟨gb254, 4, none⟩ (.int .i64 ((rd_T65 l0 x10_1).f4))).setCell ⟨gb254, 5, none⟩ (.int .i64 ((rd_T65 l0 x10_1).f5))).setCell ⟨gb254, 6, none⟩ (.int .i64 ((rd_T65 l0 x10_1).f6))).setCell ⟨gb254, 7, none⟩ (.int .i64 ((rd_T65 l0 x10_1).f7))).setCell ⟨gb254, 8, none⟩ (.int .i64 ((rd_T65 l0 x10_1).f8)))) := ⟨zb1 HB GE254⟩
         (try clear BK254)
         (try clear HB)
         generalize (((((((((w23.setCell ⟨gb254, 0, none⟩ (.string ((rd_T65 l0 x10_1).f0))).setCell ⟨gb254, 1, none⟩ (.int .i64 ((rd_T65 l0 x10_1).f1))).setCell ⟨gb254, 2, none⟩ (.int .i64 ((rd_T65 l0 x10_1).f2))).setCell ⟨gb254, 3, none⟩ (.int .i64 ((rd_T65 l0 x10_1).f3))).setCell ⟨gb254, 4, none⟩ (.int .i64 ((rd_T65 l0 x10_1).f4))).setCell ⟨gb254, 5, none⟩ (.int .i64 ((rd_T65 l0 x10_1).f5))).setCell ⟨gb254, 6, none⟩ (.int .i64 ((rd_T65 l0 x10_1).f6))).setCell ⟨gb254, 7, none⟩ (.int .i64 ((rd_T65 l0 x10_1).f7))).setCell ⟨gb254, 8, none⟩ (.int .i64 ((rd_T65 l0 x10_1).f8))) = w25 at n0_ n1_ ⊢
         have BK254 := n0_
         have HB := n1_
         clear n0_ n1_
         replace BK254 := jA (blk_drew BK254.out)
         replace HB := jA (jR HB.out)
         refine start_ (n := 18) (S := fun w' => w'.cell? ⟨gb254, 0, none⟩ = some (.string ((rd_T65 l0 x10_1).f0)) ∧ w'.cell? ⟨gb254, 1, none⟩ = some (.int .i64 ((rd_T65 l0 x10_1).f1)) ∧ w'.cell? ⟨gb254, 2, none⟩ = some (.int .i64 ((rd_T65 l0 x10_1).f2)) ∧ w'.cell? ⟨gb254, 3, none⟩ = some (.int .i64 ((rd_T65 l0 x10_1).f3)) ∧ w'.cell? ⟨gb254, 4, none⟩ = some (.int .i64 ((rd_T65 l0 x10_1).f4)) ∧ w'.cell? ⟨gb254, 5, none⟩ = some (.int .i64 ((rd_T65 l0 x10_1).f5)) ∧ w'.cell? ⟨gb254, 6, none⟩ = some (.int .i64 ((rd_T65 l0 x10_1).f6)) ∧ w'.cell? ⟨gb254, 7, none⟩ = some (.int .i64 ((rd_T65 l0 x10_1).f7)) ∧ w'.cell? ⟨gb254, 8, none⟩ = some (.int .i64 ((rd_T65 l0 x10_1).f8))) (ds := []) m18_0 zr rfl rfl ⟨(jD BK254.out 0).trans rfl, (jD BK254.out 1).trans rfl, (jD BK254.out 2).trans rfl, (jD BK254.out 3).trans rfl, (jD BK254.out 4).trans rfl, (jD BK254.out 5).trans rfl, (jD BK254.out 6).trans rfl, (jD BK254.out 7).trans rfl, (jD BK254.out 8).trans rfl⟩ (fun hHeld => ?_); refine with_tabW impl_AreArticles.tab6 impl_AreArticles.bits6 (fun HT_ HW_ => ?_)
         generalize w25.drew = w26 at BK254 HB hHeld ⊢
         refine zt9 HT_ HW_ hHeld 0 15 m18_20000 ?_
         refine one_ (i := 1) (N := some 16) m18_30000 rfl rfl (one_of HT_.out zr) (by decide) (fun K hK => ?_)
         refine goes_ Try.func84 zr rfl #[.agg #[.string ((rd_T65 l0 x10_1).f0), .int .i64 ((rd_T65 l0 x10_1).f1), .int .i64 ((rd_T65 l0 x10_1).f2), .int .i64 ((rd_T65 l0 x10_1).f3), .int .i64 ((rd_T65 l0 x10_1).f4), .int .i64 ((rd_T65 l0 x10_1).f5), .int .i64 ((rd_T65 l0 x10_1).f6), .int .i64 ((rd_T65 l0 x10_1).f7), .int .i64 ((rd_T65 l0 x10_1).f8)]] (by rfl) rfl rfl zm ?_
         with_reducible refine (impl_IsArticle.calls k1 ((rd_T65 l0 x10_1).f0) ((rd_T65 l0 x10_1).f1) ((rd_T65 l0 x10_1).f2) ((rd_T65 l0 x10_1).f3) ((rd_T65 l0 x10_1).f4) ((rd_T65 l0 x10_1).f5) ((rd_T65 l0 x10_1).f6) ((rd_T65 l0 x10_1).f7) ((rd_T65 l0 x10_1).f8) true _ A6.out).mono ?_
         rintro e w27 ⟨rfl, hb⟩
         refine ⟨_, rfl, ?_⟩
         replace BK254 := zB BK254 hb
         replace HB := zS1 HB GE254 hb
         (try clear hb)
         (try clear hb2)
         (try clear hk)
         (try clear hi)
         refine hK.out _ _ ⟨(jD BK254.out 0).trans rfl, (jD BK254.out 1).trans rfl, (jD BK254.out 2).trans rfl, (jD BK254.out 3).trans rfl, (jD BK254.out 4).trans rfl, (jD BK254.out 5).trans rfl, (jD BK254.out 6).trans rfl, (jD BK254.out 7).trans rfl, (jD BK254.out 8).trans rfl⟩ (fun hHeld => ?_)
         clear hK K
         refine norm_ (a' := ?_) ?_ ?_
         rotate_left
         ·show Act.put _ (some 16) _ = _
          simp only [Act.put, jC, jE, jF, i64_w, i32_w]
          rfl
         refine zp HT_ 2 17 m18_38000 ?_
         refine zp HT_ 3 18 m18_3c000 ?_
         refine zp HT_ 4 19 m18_3e000 ?_
         refine zp HT_ 5 20 m18_3f000 ?_
         refine zp HT_ 6 21 m18_3f800 ?_
         refine zq HT_ 7 22 m18_3fc00 ?_
         refine zq HT_ 8 23 m18_3fe00 ?_
         refine zq HT_ 9 24 m18_3ff00 ?_
         refine zq HT_ 10 25 m18_3ff80 ?_
         refine zq HT_ 11 26 m18_3ffc0 ?_
         refine zq HT_ 12 27 m18_3ffe0 ?_
         refine zq HT_ 13 28 m18_3fff0 ?_
         refine zq HT_ 14 29 m18_3fff8 ?_
         refine zq HT_ 15 30 m18_3fffc ?_
         refine zp HT_ 16 31 m18_3fffe ?_
         refine zp HT_ 17 32 m18_3ffff ?_
         refine done_ (done_of HT_.out zr) ?_
         try go_wp2
         go_roundg k1
         case measure => have := HK1.out; omega
         case rel => exact ⟨(wrap64 (x10_1 + 1)), zz, H', ⟨by have := HK1.out; omega⟩, ⟨zb1 HB GE254⟩⟩
       ·replace c7 := Bool.eq_false_iff.mpr c7
        subst c7
        rw [if_neg zfalse] at H
        obtain rfl := jH H
        have p253 : 0 ≤ (x10_1 : Int) := jB za
        have q253 : x10_1 < (l0.length : Int) := jB za
        obtain ⟨ad253, e253, hx253_0, hx253_1, hx253_2, hx253_3, hx253_4, hx253_5, hx253_6, hx253_7, hx253_8⟩ := at_T65 HR0.out x10_1 p253 q253
        cases e253
        replace hx253_0 := zx HB hx253_0
        replace hx253_1 := zx HB hx253_1
        replace hx253_2 := zx HB hx253_2
        replace hx253_3 := zx HB hx253_3
        replace hx253_4 := zx HB hx253_4
        replace hx253_5 := zx HB hx253_5
        replace hx253_6 := zx HB hx253_6
        replace hx253_7 := zx HB hx253_7
        replace hx253_8 := zx HB hx253_8
        replace p253 := eq_true p253
        replace q253 := eq_true q253
        try go_wp2_with (first | ((with_reducible refine jJ (N := 4) rfl ?_); refine zE 4 #[.string (⟨#[]⟩ : ByteArray), .int .i64 0, .int .i64 0, .int .i64 0, .int .i64 0, .int .i64 0, .int .i64 0, .int .i64 0, .int .i64 0] 65 ?_; intro gb254 hg w28 hbox hb; have BK254 := jA (hbox); have GW254 := zg0 hg HB; have GE254 := zg0 hg HB; replace HB := zS0 HB hb; clear hb hbox hg; have hcz29 := zc9 BK254))
        have n0_ : Aside0 ((((((((((w28.setCell ⟨gb254, 0, none⟩ (.string ((rd_T65 l0 x10_1).f0))).setCell ⟨gb254, 1, none⟩ (.int .i64 ((rd_T65 l0 x10_1).f1))).setCell ⟨gb254, 2, none⟩ (.int .i64 ((rd_T65 l0 x10_1).f2))).setCell ⟨gb254, 3, none⟩ (.int .i64 ((rd_T65 l0 x10_1).f3))).setCell ⟨gb254, 4, none⟩ (.int .i64 ((rd_T65 l0 x10_1).f4))).setCell ⟨gb254, 5, none⟩ (.int .i64 ((rd_T65 l0 x10_1).f5))).setCell ⟨gb254, 6, none⟩ (.int .i64 ((rd_T65 l0 x10_1).f6))).setCell ⟨gb254, 7, none⟩ (.int .i64 ((rd_T65 l0 x10_1).f7))).setCell ⟨gb254, 8, none⟩ (.int .i64 ((rd_T65 l0 x10_1).f8))).heap[gb254]? = some (.cells #[.string ((rd_T65 l0 x10_1).f0), .int .i64 ((rd_T65 l0 x10_1).f1), .int .i64 ((rd_T65 l0 x10_1).f2), .int .i64 ((rd_T65 l0 x10_1).f3), .int .i64 ((rd_T65 l0 x10_1).f4), .int .i64 ((rd_T65 l0 x10_1).f5), .int .i64 ((rd_T65 l0 x10_1).f6), .int .i64 ((rd_T65 l0 x10_1).f7), .int .i64 ((rd_T65 l0 x10_1).f8)] 65 (0, 0))) := ⟨zP0 BK254⟩
        have n1_ : Aside0 (Below w.heap.size w (((((((((w28.setCell ⟨gb254, 0, none⟩ (.string ((rd_T65 l0 x10_1).f0))).setCell ⟨gb254, 1, none⟩ (.int .i64 ((rd_T65 l0 x10_1).f1))).setCell ⟨gb254, 2, none⟩ (.int .i64 ((rd_T65 l0 x10_1).f2))).setCell ⟨gb254, 3, none⟩ (.int .i64 ((rd_T65 l0 x10_1).f3))).setCell ⟨gb254, 4, none⟩ (.int .i64 ((rd_T65 l0 x10_1).f4))).setCell ⟨gb254, 5, none⟩ (.int .i64 ((rd_T65 l0 x10_1).f5))).setCell ⟨gb254, 6, none⟩ (.int .i64 ((rd_T65 l0 x10_1).f6))).setCell ⟨gb254, 7, none⟩ (.int .i64 ((rd_T65 l0 x10_1).f7))).setCell ⟨gb254, 8, none⟩ (.int .i64 ((rd_T65 l0 x10_1).f8)))) := ⟨zb1 HB GE254⟩
        (try clear BK254)
        (try clear HB)
        generalize (((((((((w28.setCell ⟨gb254, 0, none⟩ (.string ((rd_T65 l0 x10_1).f0))).setCell ⟨gb254, 1, none⟩ (.int .i64 ((rd_T65 l0 x10_1).f1))).setCell ⟨gb254, 2, none⟩ (.int .i64 ((rd_T65 l0 x10_1).f2))).setCell ⟨gb254, 3, none⟩ (.int .i64 ((rd_T65 l0 x10_1).f3))).setCell ⟨gb254, 4, none⟩ (.int .i64 ((rd_T65 l0 x10_1).f4))).setCell ⟨gb254, 5, none⟩ (.int .i64 ((rd_T65 l0 x10_1).f5))).setCell ⟨gb254, 6, none⟩ (.int .i64 ((rd_T65 l0 x10_1).f6))).setCell ⟨gb254, 7, none⟩ (.int .i64 ((rd_T65 l0 x10_1).f7))).setCell ⟨gb254, 8, none⟩ (.int .i64 ((rd_T65 l0 x10_1).f8))) = w30 at n0_ n1_ ⊢
        have BK254 := n0_
        have HB := n1_
        clear n0_ n1_
        replace BK254 := jA (blk_drew BK254.out)
        replace HB := jA (jR HB.out)
        refine start_ (n := 18) (S := fun w' => w'.cell? ⟨gb254, 0, none⟩ = some (.string ((rd_T65 l0 x10_1).f0)) ∧ w'.cell? ⟨gb254, 1, none⟩ = some (.int .i64 ((rd_T65 l0 x10_1).f1)) ∧ w'.cell? ⟨gb254, 2, none⟩ = some (.int .i64 ((rd_T65 l0 x10_1).f2)) ∧ w'.cell? ⟨gb254, 3, none⟩ = some (.int .i64 ((rd_T65 l0 x10_1).f3)) ∧ w'.cell? ⟨gb254, 4, none⟩ = some (.int .i64 ((rd_T65 l0 x10_1).f4)) ∧ w'.cell? ⟨gb254, 5, none⟩ = some (.int .i64 ((rd_T65 l0 x10_1).f5)) ∧ w'.cell? ⟨gb254, 6, none⟩ = some (.int .i64 ((rd_T65 l0 x10_1).f6)) ∧ w'.cell? ⟨gb254, 7, none⟩ = some (.int .i64 ((rd_T65 l0 x10_1).f7)) ∧ w'.cell? ⟨gb254, 8, none⟩ = some (.int .i64 ((rd_T65 l0 x10_1).f8))) (ds := []) m18_0 zr rfl rfl ⟨(jD BK254.out 0).trans rfl, (jD BK254.out 1).trans rfl, (jD BK254.out 2).trans rfl, (jD BK254.out 3).trans rfl, (jD BK254.out 4).trans rfl, (jD BK254.out 5).trans rfl, (jD BK254.out 6).trans rfl, (jD BK254.out 7).trans rfl, (jD BK254.out 8).trans rfl⟩ (fun hHeld => ?_); refine with_tabW impl_AreArticles.tab6 impl_AreArticles.bits6 (fun HT_ HW_ => ?_)
        generalize w30.drew = w31 at BK254 HB hHeld ⊢
        refine zt9 HT_ HW_ hHeld 0 15 m18_20000 ?_
        refine one_ (i := 1) (N := some 16) m18_30000 rfl rfl (one_of HT_.out zr) (by decide) (fun K hK => ?_)
        refine goes_ Try.func84 zr rfl #[.agg #[.string ((rd_T65 l0 x10_1).f0), .int .i64 ((rd_T65 l0 x10_1).f1), .int .i64 ((rd_T65 l0 x10_1).f2), .int .i64 ((rd_T65 l0 x10_1).f3), .int .i64 ((rd_T65 l0 x10_1).f4), .int .i64 ((rd_T65 l0 x10_1).f5), .int .i64 ((rd_T65 l0 x10_1).f6), .int .i64 ((rd_T65 l0 x10_1).f7), .int .i64 ((rd_T65 l0 x10_1).f8)]] (by rfl) rfl rfl zm ?_
        with_reducible refine (impl_IsArticle.calls k1 ((rd_T65 l0 x10_1).f0) ((rd_T65 l0 x10_1).f1) ((rd_T65 l0 x10_1).f2) ((rd_T65 l0 x10_1).f3) ((rd_T65 l0 x10_1).f4) ((rd_T65 l0 x10_1).f5) ((rd_T65 l0 x10_1).f6) ((rd_T65 l0 x10_1).f7) ((rd_T65 l0 x10_1).f8) false _ A6.out).mono ?_
        rintro e w32 ⟨rfl, hb⟩
        refine ⟨_, rfl, ?_⟩
        replace BK254 := zB BK254 hb
        replace HB := zS1 HB GE254 hb
        (try clear hb)
        (try clear hb2)
        (try clear hk)
        (try clear hi)
        refine hK.out _ _ ⟨(jD BK254.out 0).trans rfl, (jD BK254.out 1).trans rfl, (jD BK254.out 2).trans rfl, (jD BK254.out 3).trans rfl, (jD BK254.out 4).trans rfl, (jD BK254.out 5).trans rfl, (jD BK254.out 6).trans rfl, (jD BK254.out 7).trans rfl, (jD BK254.out 8).trans rfl⟩ (fun hHeld => ?_)
        clear hK K
        refine norm_ (a' := ?_) ?_ ?_
        rotate_left
        ·show Act.put _ (some 16) _ = _
         simp only [Act.put, jC, jE, jF, i64_w, i32_w]
         rfl
        refine zp HT_ 2 17 m18_38000 ?_
        refine zp HT_ 3 18 m18_3c000 ?_
        refine zq HT_ 4 19 m18_3e000 ?_
        refine zq HT_ 5 20 m18_3f000 ?_
        refine zq HT_ 6 21 m18_3f800 ?_
        refine zq HT_ 7 22 m18_3fc00 ?_
        refine zq HT_ 8 23 m18_3fe00 ?_
        refine zq HT_ 9 24 m18_3ff00 ?_
        refine zq HT_ 10 25 m18_3ff80 ?_
        refine zq HT_ 11 26 m18_3ffc0 ?_
        refine zq HT_ 12 27 m18_3ffe0 ?_
        refine zq HT_ 13 28 m18_3fff0 ?_
        refine zq HT_ 14 29 m18_3fff8 ?_
        refine zq HT_ 15 30 m18_3fffc ?_
        refine zq HT_ 16 31 m18_3fffe ?_
        refine zp HT_ 17 32 m18_3ffff ?_
        refine done_ (done_of HT_.out zr) ?_
        try go_wp2
        go_ret
        exact ⟨ze, zb1 HB GE254⟩
      ·rw [if_neg c5] at H
       exact absurd H (by simp)
     ·rw [if_neg c4] at H
      exact absurd H (by simp)
    ·rw [if_neg c3] at H
     have c3b0 : decide (x10_1 < (l0.length : Int)) = false := jM c3
     clear c3
     obtain rfl := jH H
     go_wp2
     go_ret
     exact ⟨ze, zb0 HB⟩

end Go.Proofs.Ytdgglhfnlljmeaa.PFnExactMovePieces
