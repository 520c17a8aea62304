/- Functions and contracts that FnExactMovePieces reaches (9 of 24). -/
import Derived.Test.YtdgglhfnlljmeaaQFnExactMovePiecesx7
namespace Go.Proofs.Ytdgglhfnlljmeaa.PFnExactMovePieces
open Go.RowKit Go.Proofs.YtdgglhfnlljmeaaW.PrintWords Go.Proofs.YtdgglhfnlljmeaaW.PrintLast Go.Proofs.YtdgglhfnlljmeaaW.PrintMore
attribute [local go_sem] max2_int min2_int max_two min_two max_three min_three max_four min_four   -- for this text's walks alone
set_option linter.unusedVariables false
set_option linter.unusedSimpArgs false
open Go.Proofs.YtdgglhfnlljmeaaX

/-! ### laws_roomBehind: function 48 -/
def laws_roomBehind.f (a0 : Int) : Option (Int) := if (Int.tmod a0 6) = 5 then (some 0) else (if (Int.tmod a0 3) = 0 then (some 1) else (some a0))
set_option maxHeartbeats 8000000 in
set_option maxRecDepth 100000 in
theorem laws_roomBehind.calls (a0 : Int) (r : Int) (w : World) (h : laws_roomBehind.f a0 = some r) :
  Calls Try.prog 48 #[.int .i64 a0] w fun e w' => e = .returned (.int .i64 r) ∧ Drawn0 w w' := by
 have H := h
 unfold laws_roomBehind.f at H
 clear h
 by_cases c2 : (Int.tmod a0 6) = 5
 ·rw [if_pos c2] at H
  have c2b0 : ((Int.tmod a0 6) == 5) = true := beq_iff_eq.mpr c2
  have c2b1 : ((Int.tmod a0 6) != 5) = false := bne_eq_false_iff_eq.mpr c2
  clear c2
  obtain rfl := jH H
  go_enter Try.func48, Try.ntmps48
  go_wp2
  go_ret
  exact ⟨by first | rfl | (simp; done) | (simp [*]; done), by repeat (first | exact Drawn0.refl _ | apply Drawn0.step)⟩
 ·rw [if_neg c2] at H
  have c2b0 : ((Int.tmod a0 6) == 5) = false := beq_eq_false_iff_ne.mpr c2
  have c2b1 : ((Int.tmod a0 6) != 5) = true := bne_iff_ne.mpr c2
  by_cases c3 : (Int.tmod a0 3) = 0
  ·rw [if_pos c3] at H
   have c3b0 : ((Int.tmod a0 3) == 0) = true := beq_iff_eq.mpr c3
   have c3b1 : ((Int.tmod a0 3) != 0) = false := bne_eq_false_iff_eq.mpr c3
   clear c3
   obtain rfl := jH H
   go_enter Try.func48, Try.ntmps48
   go_wp2
   go_ret
   exact ⟨by first | rfl | (simp; done) | (simp [*]; done), by repeat (first | exact Drawn0.refl _ | apply Drawn0.step)⟩
  ·rw [if_neg c3] at H
   have c3b0 : ((Int.tmod a0 3) == 0) = false := beq_eq_false_iff_ne.mpr c3
   have c3b1 : ((Int.tmod a0 3) != 0) = true := bne_iff_ne.mpr c3
   obtain rfl := jH H
   go_enter Try.func48, Try.ntmps48
   go_wp2
   go_ret
   exact ⟨by first | rfl | (simp; done) | (simp [*]; done), by repeat (first | exact Drawn0.refl _ | apply Drawn0.step)⟩

/-! ### laws_toArticle: function 49 -/
def laws_toArticle.f (a0_0 : ByteArray) (a0_1 : Int) (a0_2 : Int) (a0_3 : Int) (a0_4 : Int) (a0_5 : Int) (a0_6 : Int) (a0_7 : Int) (a0_8 : Int) : Option (ByteArray × Int × Int × Int × Int × Int × Int × Int × Int) := some (a0_0, a0_1, a0_2, a0_3, a0_4, a0_5, a0_6, a0_7, a0_8)
set_option maxHeartbeats 8000000 in
set_option maxRecDepth 100000 in
theorem laws_toArticle.calls (a0_0 : ByteArray) (a0_1 : Int) (a0_2 : Int) (a0_3 : Int) (a0_4 : Int) (a0_5 : Int) (a0_6 : Int) (a0_7 : Int) (a0_8 : Int) (r1 : ByteArray) (r2 : Int) (r3 : Int) (r4 : Int) (r5 : Int) (r6 : Int) (r7 : Int) (r8 : Int) (r9 : Int) (w : World) (h : laws_toArticle.f a0_0 a0_1 a0_2 a0_3 a0_4 a0_5 a0_6 a0_7 a0_8 = some (r1, r2, r3, r4, r5, r6, r7, r8, r9)) :
  Calls Try.prog 49 #[.agg #[.string a0_0, .int .i64 a0_1, .int .i64 a0_2, .int .i64 a0_3, .int .i64 a0_4, .int .i64 a0_5, .int .i64 a0_6, .int .i64 a0_7, .int .i64 a0_8]] w fun e w' => e = .returned (.agg #[.string r1, .int .i64 r2, .int .i64 r3, .int .i64 r4, .int .i64 r5, .int .i64 r6, .int .i64 r7, .int .i64 r8, .int .i64 r9]) ∧ Below w.heap.size w w' := by
 have hu62 := Try.underlying62
 have hu65 := Try.underlying65
 have HB := jA (Below.refl w.heap.size w)
 have H := h
 unfold laws_toArticle.f at H
 clear h
 simp only [jN, jQ] at H
 obtain ⟨rfl, rfl, rfl, rfl, rfl, rfl, rfl, rfl, rfl⟩ := H
 go_enter Try.func49, Try.ntmps49
 go_wp2_with (first | ((with_reducible refine jJ (N := 1) rfl ?_); refine zE 1 #[.string a0_0, .int .i64 a0_1, .int .i64 a0_2, .int .i64 a0_3, .int .i64 a0_4, .int .i64 a0_5, .int .i64 a0_6, .int .i64 a0_7, .int .i64 a0_8] 62 ?_; intro gb195 hg w2 hbox hb; have BK195 := jA (hbox); have GW195 := zg0 hg HB; have GE195 := zg0 hg HB; replace HB := zS0 HB hb; clear hb hbox hg) | ((with_reducible refine jJ (N := 2) rfl ?_); refine zE 2 #[.string (⟨#[]⟩ : ByteArray), .int .i64 0, .int .i64 0, .int .i64 0, .int .i64 0, .int .i64 0, .int .i64 0, .int .i64 0, .int .i64 0] 65 ?_; intro gb196 hg w3 hbox hb; have BK196 := jA (hbox); have GW196 := zg1 hg HB GE195; have GE196 := zg1 hg HB GE195; replace HB := zS1 HB GE195 hb; have NB195_196 := zn hg BK195; replace BK195 := zB BK195 hb; have NB196_195 := jA NB195_196.out.symm; clear hb hbox hg) | ((with_reducible refine jJ (N := 3) rfl ?_); refine zE 3 #[.string (⟨#[]⟩ : ByteArray), .int .i64 0, .int .i64 0, .int .i64 0, .int .i64 0, .int .i64 0, .int .i64 0, .int .i64 0, .int .i64 0] 65 ?_; intro gb197 hg w4 hbox hb; have BK197 := jA (hbox); have GW197 := zg2 hg HB GE195 GE196; have GE197 := zg2 hg HB GE195 GE196; replace HB := zS2 HB GE195 GE196 hb; have NB195_197 := zn hg BK195; replace BK195 := zB BK195 hb; have NB197_195 := jA NB195_197.out.symm; have NB196_197 := zn hg BK196; replace BK196 := zB BK196 hb; have NB197_196 := jA NB196_197.out.symm; clear hb hbox hg; have hnb5 := NB195_196.out; have hnc5 := NB196_195.out; have hnb6 := NB195_197.out; have hnc6 := NB197_195.out; have hcz7 := zc9 BK195; have hnb8 := NB197_196.out; have hnc8 := NB196_197.out; have hcz9 := zc9 BK197; have hcz10 := zc9 BK196))
 refine bodyPost_ret (results_cell_row rfl _ _ gb196 65 #[.string a0_0, .int .i64 a0_1, .int .i64 a0_2, .int .i64 a0_3, .int .i64 a0_4, .int .i64 a0_5, .int .i64 a0_6, .int .i64 a0_7, .int .i64 a0_8] (0, 0) _ rfl (zP1 BK196 NB196_197) Try.underlying65 rfl zr) rfl ?_
 exact ⟨ze, zb3 HB GE195 GE196 GE197⟩

/-! ### laws_fillerArticle: function 50 -/
def laws_fillerArticle.f  : Option (ByteArray × Int × Int × Int × Int × Int × Int × Int × Int) := some ((⟨#[126, 115, 112, 97, 114, 101, 126]⟩ : ByteArray), (-7000000000000000101), (-7000000000000000101), (-7000000000000000101), (-7000000000000000101), (-7000000000000000101), (-7000000000000000101), (-7000000000000000101), (-7000000000000000101))
set_option maxHeartbeats 8000000 in
set_option maxRecDepth 100000 in
theorem laws_fillerArticle.calls  (r1 : ByteArray) (r2 : Int) (r3 : Int) (r4 : Int) (r5 : Int) (r6 : Int) (r7 : Int) (r8 : Int) (r9 : Int) (w : World) (h : laws_fillerArticle.f  = some (r1, r2, r3, r4, r5, r6, r7, r8, r9)) :
  Calls Try.prog 50 #[] w fun e w' => e = .returned (.agg #[.string r1, .int .i64 r2, .int .i64 r3, .int .i64 r4, .int .i64 r5, .int .i64 r6, .int .i64 r7, .int .i64 r8, .int .i64 r9]) ∧ Below w.heap.size w w' := by
 have hu65 := Try.underlying65
 have HB := jA (Below.refl w.heap.size w)
 have H := h
 unfold laws_fillerArticle.f at H
 clear h
 simp only [jN, jQ] at H
 obtain ⟨rfl, rfl, rfl, rfl, rfl, rfl, rfl, rfl, rfl⟩ := H
 go_enter Try.func50, Try.ntmps50
 go_wp2_with (first | ((with_reducible refine jJ (N := 0) rfl ?_); refine zE 0 #[.string (⟨#[]⟩ : ByteArray), .int .i64 0, .int .i64 0, .int .i64 0, .int .i64 0, .int .i64 0, .int .i64 0, .int .i64 0, .int .i64 0] 65 ?_; intro gb198 hg w1 hbox hb; have BK198 := jA (hbox); have GW198 := zg0 hg HB; have GE198 := zg0 hg HB; replace HB := zS0 HB hb; clear hb hbox hg; have hcz2 := zc9 BK198))
 refine bodyPost_ret (results_cell_row rfl _ _ gb198 65 #[.string (⟨#[126, 115, 112, 97, 114, 101, 126]⟩ : ByteArray), .int .i64 (-7000000000000000101), .int .i64 (-7000000000000000101), .int .i64 (-7000000000000000101), .int .i64 (-7000000000000000101), .int .i64 (-7000000000000000101), .int .i64 (-7000000000000000101), .int .i64 (-7000000000000000101), .int .i64 (-7000000000000000101)] (0, 0) _ rfl (zP0 BK198) Try.underlying65 rfl zr) rfl ?_
 exact ⟨ze, zb1 HB GE198⟩

/-! ### laws_toArticleS with what lies behind its length: function 16 -/
mutual
def laws_toArticleSX.j0 : Nat → List (S62) → Bool → Option ((List (S65)))
 | 0, _, _ => none
 | k + 1, x0, x13 => if x13 = true then (some ([] : List (S65))) else ((laws_roomBehind.f (x0.length : Int)).bind fun t199 => (if 0 ≤ (wrap64 ((x0.length : Int) + t199)) then (if (wrap64 ((x0.length : Int) + t199) : Int).toNat ≤ 3518437208883 then (laws_toArticleSX.l0 k x0 (List.replicate (wrap64 ((x0.length : Int) + t199) : Int).toNat z65) 0) else (none)) else (none)))
def laws_toArticleSX.l0 : Nat → List (S62) → List (S65) → Int → Option ((List (S65)))
 | 0, _, _, _ => none
 | k + 1, x0, x5, x6 => if x6 < (x0.length : Int) then (if 0 ≤ x6 then ((laws_toArticle.f ((rd_T62 x0 x6).f0) ((rd_T62 x0 x6).f1) ((rd_T62 x0 x6).f2) ((rd_T62 x0 x6).f3) ((rd_T62 x0 x6).f4) ((rd_T62 x0 x6).f5) ((rd_T62 x0 x6).f6) ((rd_T62 x0 x6).f7) ((rd_T62 x0 x6).f8)).bind fun bt204 => (if x6 < (x5.length : Int) then (laws_toArticleSX.l0 k x0 (x5.set (x6 : Int).toNat (⟨bt204.1, bt204.2.1, bt204.2.2.1, bt204.2.2.2.1, bt204.2.2.2.2.1, bt204.2.2.2.2.2.1, bt204.2.2.2.2.2.2.1, bt204.2.2.2.2.2.2.2.1, bt204.2.2.2.2.2.2.2.2⟩ : S65)) (wrap64 (x6 + 1))) else (none))) else (none)) else (laws_toArticleSX.l1 k x0 x5 (x0.length : Int))
def laws_toArticleSX.l1 : Nat → List (S62) → List (S65) → Int → Option ((List (S65)))
 | 0, _, _, _ => none
 | k + 1, x0, x5, x7 => if x7 < (x5.length : Int) then ((laws_fillerArticle.f).bind fun bt214 => (if 0 ≤ x7 then (laws_toArticleSX.l1 k x0 (x5.set (x7 : Int).toNat (⟨bt214.1, bt214.2.1, bt214.2.2.1, bt214.2.2.2.1, bt214.2.2.2.2.1, bt214.2.2.2.2.2.1, bt214.2.2.2.2.2.2.1, bt214.2.2.2.2.2.2.2.1, bt214.2.2.2.2.2.2.2.2⟩ : S65)) (wrap64 (x7 + 1))) else (none))) else (if 0 ≤ (x0.length : Int) then (if (x0.length : Int) ≤ (x5.length : Int) then (some x5) else (none)) else (none))
end
def laws_toArticleSX.f (k : Nat) (l0 : List (S62)) (a1 : Bool) : Option ((List (S65))) := if a1 = true then (laws_toArticleSX.j0 k l0 ((l0.length : Int) == 0)) else (laws_toArticleSX.j0 k l0 false)
theorem laws_toArticleSX.mono_l : ∀ k, (∀ y0 y1, LeO (laws_toArticleSX.j0 k y0 y1) (laws_toArticleSX.j0 (k + 1) y0 y1)) ∧ (∀ y0 y1 y2, LeO (laws_toArticleSX.l0 k y0 y1 y2) (laws_toArticleSX.l0 (k + 1) y0 y1 y2)) ∧ (∀ y0 y1 y2, LeO (laws_toArticleSX.l1 k y0 y1 y2) (laws_toArticleSX.l1 (k + 1) y0 y1 y2))
 | 0 => ⟨fun _ _ r h => by simp [laws_toArticleSX.j0] at h, fun _ _ _ r h => by simp [laws_toArticleSX.l0] at h, fun _ _ _ r h => by simp [laws_toArticleSX.l1] at h⟩
 | k + 1 => by
  obtain ⟨ih0, ih1, ih2⟩ := laws_toArticleSX.mono_l k
  refine ⟨?_, ?_, ?_⟩
  ·intro y0 y1
   unfold laws_toArticleSX.j0
   repeat' first
   | (with_reducible exact ih0 _ _)
   | (with_reducible exact ih1 _ _ _)
   | (with_reducible exact ih2 _ _ _)
   | (with_reducible exact LeO.refl _)
   | (with_reducible exact LeO.none _)
   | (with_reducible refine LeO.ite ?_ ?_)
   | (with_reducible refine LeO.bind ?_ (fun _ => ?_))
   | exact ih0 _ _
   | exact ih1 _ _ _
   | exact ih2 _ _ _
   | exact LeO.none _
   | refine LeO.ite ?_ ?_
   | refine LeO.bind ?_ (fun _ => ?_)
  ·intro y0 y1 y2
   unfold laws_toArticleSX.l0
   repeat' first
   | (with_reducible exact ih0 _ _)
   | (with_reducible exact ih1 _ _ _)
   | (with_reducible exact ih2 _ _ _)
   | (with_reducible exact LeO.refl _)
   | (with_reducible exact LeO.none _)
   | (with_reducible refine LeO.ite ?_ ?_)
   | (with_reducible refine LeO.bind ?_ (fun _ => ?_))
   | exact ih0 _ _
   | exact ih1 _ _ _
   | exact ih2 _ _ _
   | exact LeO.none _
   | refine LeO.ite ?_ ?_
   | refine LeO.bind ?_ (fun _ => ?_)
  ·intro y0 y1 y2
   unfold laws_toArticleSX.l1
   repeat' first
   | (with_reducible exact ih0 _ _)
   | (with_reducible exact ih1 _ _ _)
   | (with_reducible exact ih2 _ _ _)
   | (with_reducible exact LeO.refl _)
   | (with_reducible exact LeO.none _)
   | (with_reducible refine LeO.ite ?_ ?_)
   | (with_reducible refine LeO.bind ?_ (fun _ => ?_))
   | exact ih0 _ _
   | exact ih1 _ _ _
   | exact ih2 _ _ _
   | exact LeO.none _
   | refine LeO.ite ?_ ?_
   | refine LeO.bind ?_ (fun _ => ?_)
theorem laws_toArticleSX.mono : ∀ a0 a1 k, LeO (laws_toArticleSX.f k a0 a1) (laws_toArticleSX.f (k + 1) a0 a1) := by
 intro a0 a1 k
 obtain ⟨ih0, ih1, ih2⟩ := laws_toArticleSX.mono_l k
 unfold laws_toArticleSX.f
 repeat' first
   | (with_reducible exact ih0 _ _)
   | (with_reducible exact ih1 _ _ _)
   | (with_reducible exact ih2 _ _ _)
   | (with_reducible exact LeO.refl _)
   | (with_reducible exact LeO.none _)
   | (with_reducible refine LeO.ite ?_ ?_)
   | (with_reducible refine LeO.bind ?_ (fun _ => ?_))
   | exact ih0 _ _
   | exact ih1 _ _ _
   | exact ih2 _ _ _
   | exact LeO.none _
   | refine LeO.ite ?_ ?_
   | refine LeO.bind ?_ (fun _ => ?_)
set_option maxHeartbeats 8000000 in
set_option maxRecDepth 100000 in
theorem laws_toArticleSX.calls (k : Nat) (A0 : Option Addr) (c0 : Nat) (l0 : List (S62)) (a1 : Bool) (r : List (S65)) (w : World) (hr0 : Kd.C k62 w A0 l0.length l0) (hc0 : l0.length ≤ c0) (h : laws_toArticleSX.f k l0 a1 = some r) :
  Calls Try.prog 16 #[.slice A0 l0.length c0, .bool a1] w fun e w' => ∃ (A_ : Option Addr) (n_ c_ : Nat), e = .returned (.slice A_ n_ c_) ∧ LenOr n_ l0.length r ∧ Kd.R k65 65 w' w.heap.size (fun _ => True) (.slice A_ r.length c_) r ∧ Below w.heap.size w w' := by
 have hu62 := Try.underlying62
 have hu65 := Try.underlying65
 have HR0 := jA hr0
 have HC0 := jA hc0
 clear hr0 hc0
 have HB := jA (Below.refl w.heap.size w)
 have H : (if a1 = true then (laws_toArticleSX.j0 k l0 ((l0.length : Int) == 0)) else (laws_toArticleSX.j0 k l0 false)) = some r := h
 clear h
 have HC3 := jA H
 clear H
 go_enter Try.func16, Try.ntmps16
 go_upto_region 1 with (fail)
 go_cut [13] (fun v13 wc => ∃ (kq : Nat) (x13_2 : Bool), v13 = .bool x13_2 ∧ Aside0 (laws_toArticleSX.j0 kq l0 x13_2 = some r) ∧ Aside0 (kq ≤ k) ∧ Aside0 (Below w.heap.size w wc))
 case first =>
  have H := HC3.out
  clear HC3
  by_cases c4 : a1 = true
  ·subst c4
   rw [if_pos rfl] at H
   have H' := jA H
   clear H
   go_wp2
   go_meet
   case rel => exact ⟨_, (((l0.length : Int) == 0)), zz, H', ⟨by first | omega | exact Nat.le_refl _⟩, ⟨zb0 HB⟩⟩
  ·replace c4 := Bool.eq_false_iff.mpr c4
   subst c4
   rw [if_neg zfalse] at H
   have H' := jA H
   clear H
   go_wp2
   go_meet
   case rel => exact ⟨_, (false), zz, H', ⟨by first | omega | exact Nat.le_refl _⟩, ⟨zb0 HB⟩⟩
 case rest =>
  clear HC3
  try clear c1
  try clear p2
  try clear c4
  obtain ⟨kq, x13_2, rfl, HA, HJ2, HB⟩ := hcut
  cases kq with
  | zero => exact absurd HA.out (by simp [laws_toArticleSX.j0])
  | succ kj2 =>
   have H := HA.out
   clear HA
   simp only [laws_toArticleSX.j0] at H
   by_cases c5 : x13_2 = true
   ·subst c5
    rw [if_pos rfl] at H
    obtain rfl := jH H
    go_wp2
    go_ret
    exact ⟨_, _, _, by first | rfl | (simp [errW_none, errW_some] <;> rfl) | (simp [*, errW_none, errW_some] <;> rfl), LenOr.nil _, Kd.R_nil _ _ _ _ _, zb0 HB⟩
   ·replace c5 := Bool.eq_false_iff.mpr c5
    subst c5
    rw [if_neg zfalse] at H
    replace H := jG.mp H
    obtain ⟨t199, A60, H⟩ := H
    try dsimp only at H
    have A6 := jA A60
    clear A60
    obtain ⟨ji7, hji7⟩ : ∃ j_ : Int, (wrap64 ((l0.length : Int) + t199)) = j_ := ⟨_, rfl⟩
    replace H : (if 0 ≤ (ji7) then (if (ji7 : Int).toNat ≤ 3518437208883 then (laws_toArticleSX.l0 kj2 l0 (List.replicate (ji7 : Int).toNat z65) 0) else (none)) else (none)) = some r := by first | (rw [hji7] at H; exact H) | (simp only [hji7] at H ⊢; exact H)
    (try rw [hji7] at A6)
    have hji7w : (IntKind.i64.wrap ((l0.length : Int) + t199)) = ji7 := (i64_w _).trans hji7
    by_cases c8 : 0 ≤ (ji7)
    ·rw [if_pos c8] at H
     have c8b0 := eq_true c8
     have c8b1 : decide (0 ≤ (ji7)) = true := jI c8
     clear c8
     by_cases c9 : (ji7 : Int).toNat ≤ 3518437208883
     ·rw [if_pos c9] at H
      have c9b0 := eq_true c9
      have c9b1 : decide ((ji7 : Int).toNat ≤ 3518437208883) = true := jI c9
      clear c9
      obtain ⟨y200, hy200⟩ : ∃ y_ : List (S65), y_ = (List.replicate (ji7 : Int).toNat z65) := ⟨_, rfl⟩
      replace H : (laws_toArticleSX.l0 kj2 l0 y200 0) = some r := by first | (rw [hy200]; with_reducible exact H) | (have H2_ := (Option.bind_some _ _).symm.trans H; rw [hy200]; with_reducible exact H2_) | (have H2_ := (Option.bind_some _ _).symm.trans H; with_reducible exact H2_) | with_reducible exact H | (rw [hy200]; exact H) | exact H
      have Ny200 := jA hy200
      clear hy200
      have H' := jA H
      clear H
      go_wp2_with (first | ((with_reducible refine jK (f := 48) rfl ?_); refine zL (some 18) Try.func48 #[.int .i64 (l0.length : Int)] ?_; (with_reducible refine (laws_roomBehind.calls (l0.length : Int) t199 _ A6.out).mono ?_); rintro e w' ⟨rfl, ⟨nd, rfl⟩⟩; refine ⟨_, rfl, ?_⟩) | ((with_reducible refine jJ (N := 20) rfl ?_); (try (refine gate_guard (by rfl) ?_; dsimp only)); refine Kd.R_make k65 _ 65 rfl (N := 20) rfl 31 _ _ rfl ji7 rfl rfl Try.underlying31 (.agg #[(.string ⟨#[]⟩), (.int .i64 0), (.int .i64 0), (.int .i64 0), (.int .i64 0), (.int .i64 0), (.int .i64 0), (.int .i64 0), (.int .i64 0)]) 80 info65 rfl (by decide) (by omega) z65 (ok := fun _ => True) (okp := fun _ => True) (k65_mkM _ _ _ z65 ) (fun _ hk => hk) trivial (jB za) (Nat.le_trans (Nat.mul_le_mul_right _ (jB za : ji7.toNat ≤ 3518437208883)) (by omega)) (Below.refl _ _) (Nat.le_refl _) ?_; intro v201 w10 ho11 hb hg_ hnew_; clear hg_ hnew_; (first | rw [← Ny200.out] at ho11 | (simp only [Int.reduceToNat] at ho11; rw [← Ny200.out] at ho11)); have HO202 := jA (Kd.R_lower ho11 (below_size (zb0 HB))); replace HB := zS0 HB hb; clear hb ho11))
      go_loopg [6] kj2 (fun kq v6 w' => ∃ (x5_2 : List (S65)) (x6_2 : Int), v6 = .int .i64 x6_2 ∧ Aside0 (laws_toArticleSX.l0 kq l0 x5_2 x6_2 = some r) ∧ Aside0 (kq ≤ kj2) ∧ Aside0 (Kd.R k65 65 w' w.heap.size (fun _ => True) v201 x5_2) ∧ Aside0 (Below w.heap.size w w'))
      case atStart => exact ⟨(y200), (0), zz, H', ⟨Nat.le_refl _⟩, ⟨zo HO202⟩, ⟨zb0 HB⟩⟩
      case round =>
       clear H'
       try clear c1
       try clear p2
       try clear c4
       try clear c5
       try clear p6
       try clear c8
       try clear c8b0
       try clear c8b1
       try clear c9
       try clear c9b0
       try clear c9b1
       try clear p2
       obtain ⟨x5_2, x6_2, rfl, HA, HK2, HO_5, HB⟩ := hrel
       cases gk with
       | zero => exact absurd HA.out (by simp [laws_toArticleSX.l0])
       | succ k2 =>
        have H := HA.out
        clear HA
        simp only [laws_toArticleSX.l0] at H
        by_cases c12 : x6_2 < (l0.length : Int)
        ·rw [if_pos c12] at H
         have c12b0 : decide (x6_2 < (l0.length : Int)) = true := jI c12
         clear c12
         by_cases c13 : 0 ≤ x6_2
         ·rw [if_pos c13] at H
          have c13b0 : decide (0 ≤ x6_2) = true := jI c13
          clear c13
          replace H := jG.mp H
          obtain ⟨⟨t204, t205, t206, t207, t208, t209, t210, t211, t212⟩, A140, H⟩ := H
          replace H : (if x6_2 < (x5_2.length : Int) then (laws_toArticleSX.l0 k2 l0 (x5_2.set (x6_2 : Int).toNat (⟨t204, t205, t206, t207, t208, t209, t210, t211, t212⟩ : S65)) (wrap64 (x6_2 + 1))) else (none)) = some r := H
          have A14 := jA A140
          clear A140
          by_cases c15 : x6_2 < (x5_2.length : Int)
          ·rw [if_pos c15] at H
           have c15b0 : decide (x6_2 < (x5_2.length : Int)) = true := jI c15
           clear c15
           obtain ⟨y213, hy213⟩ : ∃ y_ : List (S65), y_ = (x5_2.set (x6_2 : Int).toNat (⟨t204, t205, t206, t207, t208, t209, t210, t211, t212⟩ : S65)) := ⟨_, rfl⟩
           replace H : (laws_toArticleSX.l0 k2 l0 y213 (wrap64 (x6_2 + 1))) = some r := by first | (rw [hy213]; with_reducible exact H) | (have H2_ := (Option.bind_some _ _).symm.trans H; rw [hy213]; with_reducible exact H2_) | (have H2_ := (Option.bind_some _ _).symm.trans H; with_reducible exact H2_) | with_reducible exact H | (rw [hy213]; exact H) | exact H
           have Ny213 := jA hy213
           clear hy213
           have H' := jA H
           clear H
           have p203 : 0 ≤ (x6_2 : Int) := jB za
           have q203 : x6_2 < (l0.length : Int) := jB za
           obtain ⟨ad203, e203, hx203_0, hx203_1, hx203_2, hx203_3, hx203_4, hx203_5, hx203_6, hx203_7, hx203_8⟩ := at_T62 HR0.out x6_2 p203 q203
           cases e203
           replace hx203_0 := zx HB hx203_0
           replace hx203_1 := zx HB hx203_1
           replace hx203_2 := zx HB hx203_2
           replace hx203_3 := zx HB hx203_3
           replace hx203_4 := zx HB hx203_4
           replace hx203_5 := zx HB hx203_5
           replace hx203_6 := zx HB hx203_6
           replace hx203_7 := zx HB hx203_7
           replace hx203_8 := zx HB hx203_8
           replace p203 := eq_true p203
           replace q203 := eq_true q203
           go_wp2_with (first | ((with_reducible refine jK (f := 49) rfl ?_); refine zL (some 33) Try.func49 #[.agg #[.string ((rd_T62 l0 x6_2).f0), .int .i64 ((rd_T62 l0 x6_2).f1), .int .i64 ((rd_T62 l0 x6_2).f2), .int .i64 ((rd_T62 l0 x6_2).f3), .int .i64 ((rd_T62 l0 x6_2).f4), .int .i64 ((rd_T62 l0 x6_2).f5), .int .i64 ((rd_T62 l0 x6_2).f6), .int .i64 ((rd_T62 l0 x6_2).f7), .int .i64 ((rd_T62 l0 x6_2).f8)]] ?_; (with_reducible refine (laws_toArticle.calls ((rd_T62 l0 x6_2).f0) ((rd_T62 l0 x6_2).f1) ((rd_T62 l0 x6_2).f2) ((rd_T62 l0 x6_2).f3) ((rd_T62 l0 x6_2).f4) ((rd_T62 l0 x6_2).f5) ((rd_T62 l0 x6_2).f6) ((rd_T62 l0 x6_2).f7) ((rd_T62 l0 x6_2).f8) t204 t205 t206 t207 t208 t209 t210 t211 t212 _ A14.out).mono ?_); rintro e w17 ⟨rfl, hb⟩; refine ⟨_, rfl, ?_⟩; replace HO_5 := jA (Kd.R_below (zo HO_5) hb); replace HB := zS0 HB hb; clear hb; have p16 : 0 ≤ (x6_2 : Int) := jB za; have q16 : (x6_2 : Int) < ((x5_2.length : Int) : Int) := jB za; obtain ⟨go16, co16, eo16, gb16, gl16, cl16, HG16⟩ := Kd.R_form HO_5.out (by omega); (first | cases eo16 | (injection eo16 with ea_ en_ ec_; (first | subst ea_ | (injection ea_ with ea_; subst ea_)); subst ec_; clear en_)); have GB16 := jA gb16; have GG16 := jA HG16; clear gb16 gl16 HG16; obtain ⟨ce16, hcl16, hM16, hcc16, hfr16⟩ := Kd.R_elem HO_5.out z65 (x6_2 : Int) p16 q16; obtain rfl := k65_openM hM16; have hx16_0 : w17.cell? ⟨go16, (x6_2 : Int).toNat * 9, none⟩ = some (.string ((rd_T65 x5_2 x6_2).f0)) := hcc16 0 _ rfl; have hx16_1 : w17.cell? ⟨go16, (x6_2 : Int).toNat * 9 + 1, none⟩ = some (.int .i64 ((rd_T65 x5_2 x6_2).f1)) := hcc16 1 _ rfl; have hx16_2 : w17.cell? ⟨go16, (x6_2 : Int).toNat * 9 + 2, none⟩ = some (.int .i64 ((rd_T65 x5_2 x6_2).f2)) := hcc16 2 _ rfl; have hx16_3 : w17.cell? ⟨go16, (x6_2 : Int).toNat * 9 + 3, none⟩ = some (.int .i64 ((rd_T65 x5_2 x6_2).f3)) := hcc16 3 _ rfl; have hx16_4 : w17.cell? ⟨go16, (x6_2 : Int).toNat * 9 + 4, none⟩ = some (.int .i64 ((rd_T65 x5_2 x6_2).f4)) := hcc16 4 _ rfl; have hx16_5 : w17.cell? ⟨go16, (x6_2 : Int).toNat * 9 + 5, none⟩ = some (.int .i64 ((rd_T65 x5_2 x6_2).f5)) := hcc16 5 _ rfl; have hx16_6 : w17.cell? ⟨go16, (x6_2 : Int).toNat * 9 + 6, none⟩ = some (.int .i64 ((rd_T65 x5_2 x6_2).f6)) := hcc16 6 _ rfl; have hx16_7 : w17.cell? ⟨go16, (x6_2 : Int).toNat * 9 + 7, none⟩ = some (.int .i64 ((rd_T65 x5_2 x6_2).f7)) := hcc16 7 _ rfl; have hx16_8 : w17.cell? ⟨go16, (x6_2 : Int).toNat * 9 + 8, none⟩ = some (.int .i64 ((rd_T65 x5_2 x6_2).f8)) := hcc16 8 _ rfl; have hf16_0 : w17.frozen? ⟨go16, (x6_2 : Int).toNat * 9, none⟩ = false := hfr16 0; have hf16_1 : w17.frozen? ⟨go16, (x6_2 : Int).toNat * 9 + 1, none⟩ = false := hfr16 1; have hf16_2 : w17.frozen? ⟨go16, (x6_2 : Int).toNat * 9 + 2, none⟩ = false := hfr16 2; have hf16_3 : w17.frozen? ⟨go16, (x6_2 : Int).toNat * 9 + 3, none⟩ = false := hfr16 3; have hf16_4 : w17.frozen? ⟨go16, (x6_2 : Int).toNat * 9 + 4, none⟩ = false := hfr16 4; have hf16_5 : w17.frozen? ⟨go16, (x6_2 : Int).toNat * 9 + 5, none⟩ = false := hfr16 5; have hf16_6 : w17.frozen? ⟨go16, (x6_2 : Int).toNat * 9 + 6, none⟩ = false := hfr16 6; have hf16_7 : w17.frozen? ⟨go16, (x6_2 : Int).toNat * 9 + 7, none⟩ = false := hfr16 7; have hf16_8 : w17.frozen? ⟨go16, (x6_2 : Int).toNat * 9 + 8, none⟩ = false := hfr16 8; clear hcl16 hcc16 hfr16 hM16; replace p16 := eq_true p16; replace q16 := eq_true q16; have HX18 := jA (show Kd.R k65 65 w17 w.heap.size (fun _ => True) (.slice (some ⟨go16, 0, none⟩) x5_2.length co16) x5_2 from (zo HO_5)); obtain ⟨ce18, hcl18, hM18, hcc18, hfr18⟩ := Kd.R_elem HX18.out z65 (x6_2 : Int) (jB za) (by have h_ : (x6_2 : Int) < ((x5_2.length : Int) : Int) := jB za; first | exact h_ | (have e_ := (jP HO_5.out).1; omega) | simpa using h_); obtain rfl := k65_openM hM18; have HP18 := Kd.R_seg HX18.out (x6_2 : Int) (jB za) (by have h_ : (x6_2 : Int) < ((x5_2.length : Int) : Int) := jB za; first | exact h_ | (have e_ := (jP HO_5.out).1; omega) | simpa using h_) (seg := [.string t204, .int .i64 t205, .int .i64 t206, .int .i64 t207, .int .i64 t208, .int .i64 t209, .int .i64 t210, .int .i64 t211, .int .i64 t212]) (j := 0) hcl18 hcc18 (show 9 ≤ 9 from by decide) (x' := (⟨t204, t205, t206, t207, t208, t209, t210, t211, t212⟩ : S65)) (k65_mkM _ _ _ (⟨t204, t205, t206, t207, t208, t209, t210, t211, t212⟩ : S65) ) (fun _ hk => hk); have hx18_0 := hcc18 0 _ rfl; (try simp only [show (k65).sz = 9 from rfl, Nat.mul_one, Nat.add_zero] at hx18_0); have hf18_0 := hfr18 0; (try simp only [show (k65).sz = 9 from rfl, Nat.mul_one, Nat.add_zero] at hf18_0); have hx18_1 := hcc18 1 _ rfl; (try simp only [show (k65).sz = 9 from rfl, Nat.mul_one, Nat.add_zero] at hx18_1); have hf18_1 := hfr18 1; (try simp only [show (k65).sz = 9 from rfl, Nat.mul_one, Nat.add_zero] at hf18_1); have hx18_2 := hcc18 2 _ rfl; (try simp only [show (k65).sz = 9 from rfl, Nat.mul_one, Nat.add_zero] at hx18_2); have hf18_2 := hfr18 2; (try simp only [show (k65).sz = 9 from rfl, Nat.mul_one, Nat.add_zero] at hf18_2); have hx18_3 := hcc18 3 _ rfl; (try simp only [show (k65).sz = 9 from rfl, Nat.mul_one, Nat.add_zero] at hx18_3); have hf18_3 := hfr18 3; (try simp only [show (k65).sz = 9 from rfl, Nat.mul_one, Nat.add_zero] at hf18_3); have hx18_4 := hcc18 4 _ rfl; (try simp only [show (k65).sz = 9 from rfl, Nat.mul_one, Nat.add_zero] at hx18_4); have hf18_4 := hfr18 4; (try simp only [show (k65).sz = 9 from rfl, Nat.mul_one, Nat.add_zero] at hf18_4); have hx18_5 := hcc18 5 _ rfl; (try simp only [show (k65).sz = 9 from rfl, Nat.mul_one, Nat.add_zero] at hx18_5); have hf18_5 := hfr18 5; (try simp only [show (k65).sz = 9 from rfl, Nat.mul_one, Nat.add_zero] at hf18_5); have hx18_6 := hcc18 6 _ rfl; (try simp only [show (k65).sz = 9 from rfl, Nat.mul_one, Nat.add_zero] at hx18_6); have hf18_6 := hfr18 6; (try simp only [show (k65).sz = 9 from rfl, Nat.mul_one, Nat.add_zero] at hf18_6); have hx18_7 := hcc18 7 _ rfl; (try simp only [show (k65).sz = 9 from rfl, Nat.mul_one, Nat.add_zero] at hx18_7); have hf18_7 := hfr18 7; (try simp only [show (k65).sz = 9 from rfl, Nat.mul_one, Nat.add_zero] at hf18_7); have hx18_8 := hcc18 8 _ rfl; (try simp only [show (k65).sz = 9 from rfl, Nat.mul_one, Nat.add_zero] at hx18_8); have hf18_8 := hfr18 8; (try simp only [show (k65).sz = 9 from rfl, Nat.mul_one, Nat.add_zero] at hf18_8); clear hcl18 hcc18 hfr18 hM18) | ((with_reducible refine gate_store (t := 65) (p := 34) rfl ?_); refine store_event (t := 65) (p := 34) (v := ?vo_w19) (w1 := (((((((((w17.setCell ⟨go16, (x6_2 : Int).toNat * 9, none⟩ (.string t204)).setCell ⟨go16, (x6_2 : Int).toNat * 9 + 1, none⟩ (.int .i64 t205)).setCell ⟨go16, (x6_2 : Int).toNat * 9 + 2, none⟩ (.int .i64 t206)).setCell ⟨go16, (x6_2 : Int).toNat * 9 + 3, none⟩ (.int .i64 t207)).setCell ⟨go16, (x6_2 : Int).toNat * 9 + 4, none⟩ (.int .i64 t208)).setCell ⟨go16, (x6_2 : Int).toNat * 9 + 5, none⟩ (.int .i64 t209)).setCell ⟨go16, (x6_2 : Int).toNat * 9 + 6, none⟩ (.int .i64 t210)).setCell ⟨go16, (x6_2 : Int).toNat * 9 + 7, none⟩ (.int .i64 t211)).setCell ⟨go16, (x6_2 : Int).toNat * 9 + 8, none⟩ (.int .i64 t212))) ?hg ?ho ?hn ?hr ?_; (case ho => rfl); (case hg => rfl); (case hn => rfl); (case hr => first | (go_simp; done) | (go_simp; rfl)); intro w19 hw; have hg : w17.grownBy w19 (some go16) := (by rw [hw]; exact HP18.2); have hp_ : Kd.R k65 65 w19 w.heap.size (fun _ => True) (.slice (some ⟨go16, 0, none⟩) x5_2.length co16) y213 := (by rw [hw, Ny213.out]; exact HP18.1); clear HP18; replace HO_5 := jA (hp_); replace HB := jA ((by rw [hw]; exact below_set (below_set (below_set (below_set (below_set (below_set (below_set (below_set (below_set (HB.out) GB16.out) GB16.out) GB16.out) GB16.out) GB16.out) GB16.out) GB16.out) GB16.out) GB16.out : Below w.heap.size w w19)); clear hg hw hp_))
           go_roundg k2
           case measure => have := HJ2.out; have := HK2.out; omega
           case rel => exact ⟨(y213), (wrap64 (x6_2 + 1)), zz, H', ⟨by have := HJ2.out; have := HK2.out; omega⟩, ⟨zo HO_5⟩, ⟨zb0 HB⟩⟩
          ·rw [if_neg c15] at H
           exact absurd H (by simp)
         ·rw [if_neg c13] at H
          exact absurd H (by simp)
        ·rw [if_neg c12] at H
         have c12b0 : decide (x6_2 < (l0.length : Int)) = false := jM c12
         clear c12
         have H' := jA H
         clear H
         go_wp2
         go_loopg [7] k2 (fun kq v7 w' => ∃ (x5_3 : List (S65)) (x7_3 : Int), v7 = .int .i64 x7_3 ∧ Aside0 (laws_toArticleSX.l1 kq l0 x5_3 x7_3 = some r) ∧ Aside0 (kq ≤ k2) ∧ Aside0 (Kd.R k65 65 w' w.heap.size (fun _ => True) v201 x5_3) ∧ Aside0 (Below w.heap.size w w'))
         case atStart => exact ⟨(x5_2), ((l0.length : Int)), zz, H', ⟨Nat.le_refl _⟩, ⟨zo HO_5⟩, ⟨zb0 HB⟩⟩
         case round =>
          clear H'
          try clear c1
          try clear p1
          try clear q1
          try clear hx1
          try clear p2
          try clear q2
          try clear hx2
          try clear c4
          try clear c5
          try clear p6
          try clear c8
          try clear c8b0
          try clear c8b1
          try clear c9
          try clear c9b0
          try clear c9b1
          try clear c12
          try clear c12b0
          try clear c13
          try clear c13b0
          try clear c15
          try clear c15b0
          try clear c16
          try clear p16
          try clear q16
          try clear hx16
          try clear hf16
          try clear c18
          try clear hx18
          try clear hf18
          try clear hx16_0
          try clear hx16_1
          try clear hx16_2
          try clear hx16_3
          try clear hx16_4
          try clear hx16_5
          try clear hx16_6
          try clear hx16_7
          try clear hx16_8
          try clear hx18_0
          try clear hx18_1
          try clear hx18_2
          try clear hx18_3
          try clear hx18_4
          try clear hx18_5
          try clear hx18_6
          try clear hx18_7
          try clear hx18_8
          try clear hx203_0
          try clear hx203_1
          try clear hx203_2
          try clear hx203_3
          try clear hx203_4
          try clear hx203_5
          try clear hx203_6
          try clear hx203_7
          try clear hx203_8
          try clear p16
          try clear p2
          try clear p203
          try clear p6
          try clear q16
          try clear q203
          obtain ⟨x5_3, x7_3, rfl, HA, HK3, HO_5, HB⟩ := hrel
          cases gk with
          | zero => exact absurd HA.out (by simp [laws_toArticleSX.l1])
          | succ k3 =>
           have H := HA.out
           clear HA
           simp only [laws_toArticleSX.l1] at H
           by_cases c20 : x7_3 < (x5_3.length : Int)
           ·rw [if_pos c20] at H
            have c20b0 : decide (x7_3 < (x5_3.length : Int)) = true := jI c20
            clear c20
            replace H := jG.mp H
            obtain ⟨⟨t214, t215, t216, t217, t218, t219, t220, t221, t222⟩, A210, H⟩ := H
            replace H : (if 0 ≤ x7_3 then (laws_toArticleSX.l1 k3 l0 (x5_3.set (x7_3 : Int).toNat (⟨t214, t215, t216, t217, t218, t219, t220, t221, t222⟩ : S65)) (wrap64 (x7_3 + 1))) else (none)) = some r := H
            have A21 := jA A210
            clear A210
            by_cases c22 : 0 ≤ x7_3
            ·rw [if_pos c22] at H
             have c22b0 : decide (0 ≤ x7_3) = true := jI c22
             clear c22
             obtain ⟨y223, hy223⟩ : ∃ y_ : List (S65), y_ = (x5_3.set (x7_3 : Int).toNat (⟨t214, t215, t216, t217, t218, t219, t220, t221, t222⟩ : S65)) := ⟨_, rfl⟩
             replace H : (laws_toArticleSX.l1 k3 l0 y223 (wrap64 (x7_3 + 1))) = some r := by first | (rw [hy223]; with_reducible exact H) | (have H2_ := (Option.bind_some _ _).symm.trans H; rw [hy223]; with_reducible exact H2_) | (have H2_ := (Option.bind_some _ _).symm.trans H; with_reducible exact H2_) | with_reducible exact H | (rw [hy223]; exact H) | exact H
             have Ny223 := jA hy223
             clear hy223
             have H' := jA H
             clear H
             obtain ⟨Ao24, co24, eo24⟩ := Kd.R_slice HO_5.out
             subst eo24
             go_wp2_with (first | ((with_reducible refine jK (f := 50) rfl ?_); refine zL (some 45) Try.func50 #[] ?_; (with_reducible refine (laws_fillerArticle.calls  t214 t215 t216 t217 t218 t219 t220 t221 t222 _ A21.out).mono ?_); rintro e w25 ⟨rfl, hb⟩; refine ⟨_, rfl, ?_⟩; replace HO_5 := jA (Kd.R_below (zo HO_5) hb); replace HB := zS0 HB hb; clear hb; have p23 : 0 ≤ (x7_3 : Int) := jB za; have q23 : (x7_3 : Int) < ((x5_3.length : Int) : Int) := jB za; obtain ⟨go23, co23, eo23, gb23, gl23, cl23, HG23⟩ := Kd.R_form HO_5.out (by omega); (first | cases eo23 | (injection eo23 with ea_ en_ ec_; (first | subst ea_ | (injection ea_ with ea_; subst ea_)); subst ec_; clear en_)); have GB23 := jA gb23; have GG23 := jA HG23; clear gb23 gl23 HG23; obtain ⟨ce23, hcl23, hM23, hcc23, hfr23⟩ := Kd.R_elem HO_5.out z65 (x7_3 : Int) p23 q23; obtain rfl := k65_openM hM23; have hx23_0 : w25.cell? ⟨go23, (x7_3 : Int).toNat * 9, none⟩ = some (.string ((rd_T65 x5_3 x7_3).f0)) := hcc23 0 _ rfl; have hx23_1 : w25.cell? ⟨go23, (x7_3 : Int).toNat * 9 + 1, none⟩ = some (.int .i64 ((rd_T65 x5_3 x7_3).f1)) := hcc23 1 _ rfl; have hx23_2 : w25.cell? ⟨go23, (x7_3 : Int).toNat * 9 + 2, none⟩ = some (.int .i64 ((rd_T65 x5_3 x7_3).f2)) := hcc23 2 _ rfl; have hx23_3 : w25.cell? ⟨go23, (x7_3 : Int).toNat * 9 + 3, none⟩ = some (.int .i64 ((rd_T65 x5_3 x7_3).f3)) := hcc23 3 _ rfl; have hx23_4 : w25.cell? ⟨go23, (x7_3 : Int).toNat * 9 + 4, none⟩ = some (.int .i64 ((rd_T65 x5_3 x7_3).f4)) := hcc23 4 _ rfl; have hx23_5 : w25.cell? ⟨go23, (x7_3 : Int).toNat * 9 + 5, none⟩ = some (.int .i64 ((rd_T65 x5_3 x7_3).f5)) := hcc23 5 _ rfl; have hx23_6 : w25.cell? ⟨go23, (x7_3 : Int).toNat * 9 + 6, none⟩ = some (.int .i64 ((rd_T65 x5_3 x7_3).f6)) := hcc23 6 _ rfl; have hx23_7 : w25.cell? ⟨go23, (x7_3 : Int).toNat * 9 + 7, none⟩ = some (.int .i64 ((rd_T65 x5_3 x7_3).f7)) := hcc23 7 _ rfl; have hx23_8 : w25.cell? ⟨go23, (x7_3 : Int).toNat * 9 + 8, none⟩ = some (.int .i64 ((rd_T65 x5_3 x7_3).f8)) := hcc23 8 _ rfl; have hf23_0 : w25.frozen? ⟨go23, (x7_3 : Int).toNat * 9, none⟩ = false := hfr23 0; have hf23_1 : w25.frozen? ⟨go23, (x7_3 : Int).toNat * 9 + 1, none⟩ = false := hfr23 1; have hf23_2 : w25.frozen? ⟨go23, (x7_3 : Int).toNat * 9 + 2, none⟩ = false := hfr23 2; have hf23_3 : w25.frozen? ⟨go23, (x7_3 : Int).toNat * 9 + 3, none⟩ = false := hfr23 3; have hf23_4 : w25.frozen? ⟨go23, (x7_3 : Int).toNat * 9 + 4, none⟩ = false := hfr23 4; have hf23_5 : w25.frozen? ⟨go23, (x7_3 : Int).toNat * 9 + 5, none⟩ = false := hfr23 5; have hf23_6 : w25.frozen? ⟨go23, (x7_3 : Int).toNat * 9 + 6, none⟩ = false := hfr23 6; have hf23_7 : w25.frozen? ⟨go23, (x7_3 : Int).toNat * 9 + 7, none⟩ = false := hfr23 7; have hf23_8 : w25.frozen? ⟨go23, (x7_3 : Int).toNat * 9 + 8, none⟩ = false := hfr23 8; clear hcl23 hcc23 hfr23 hM23; replace p23 := eq_true p23; replace q23 := eq_true q23; have HX26 := jA (show Kd.R k65 65 w25 w.heap.size (fun _ => True) (.slice (some ⟨go23, 0, none⟩) x5_3.length co24) x5_3 from (zo HO_5)); obtain ⟨ce26, hcl26, hM26, hcc26, hfr26⟩ := Kd.R_elem HX26.out z65 (x7_3 : Int) (jB za) (by have h_ : (x7_3 : Int) < ((x5_3.length : Int) : Int) := jB za; first | exact h_ | (have e_ := (jP HO_5.out).1; omega) | simpa using h_); obtain rfl := k65_openM hM26; have HP26 := Kd.R_seg HX26.out (x7_3 : Int) (jB za) (by have h_ : (x7_3 : Int) < ((x5_3.length : Int) : Int) := jB za; first | exact h_ | (have e_ := (jP HO_5.out).1; omega) | simpa using h_) (seg := [.string t214, .int .i64 t215, .int .i64 t216, .int .i64 t217, .int .i64 t218, .int .i64 t219, .int .i64 t220, .int .i64 t221, .int .i64 t222]) (j := 0) hcl26 hcc26 (show 9 ≤ 9 from by decide) (x' := (⟨t214, t215, t216, t217, t218, t219, t220, t221, t222⟩ : S65)) (k65_mkM _ _ _ (⟨t214, t215, t216, t217, t218, t219, t220, t221, t222⟩ : S65) ) (fun _ hk => hk); have hx26_0 := hcc26 0 _ rfl; (try simp only [show (k65).sz = 9 from rfl, Nat.mul_one, Nat.add_zero] at hx26_0); have hf26_0 := hfr26 0; (try simp only [show (k65).sz = 9 from rfl, Nat.mul_one, Nat.add_zero] at hf26_0); have hx26_1 := hcc26 1 _ rfl; (try simp only [show (k65).sz = 9 from rfl, Nat.mul_one, Nat.add_zero] at hx26_1); have hf26_1 := hfr26 1; (try simp only [show (k65).sz = 9 from rfl, Nat.mul_one, Nat.add_zero] at hf26_1); have hx26_2 := hcc26 2 _ rfl; (try simp only [show (k65).sz = 9 from rfl, Nat.mul_one, Nat.add_zero] at hx26_2); have hf26_2 := hfr26 2; (try simp only [show (k65).sz = 9 from rfl, Nat.mul_one, Nat.add_zero] at hf26_2); have hx26_3 := hcc26 3 _ rfl; (try simp only [show (k65).sz = 9 from rfl, Nat.mul_one, Nat.add_zero] at hx26_3); have hf26_3 := hfr26 3; (try simp only [show (k65).sz = 9 from rfl, Nat.mul_one, Nat.add_zero] at hf26_3); have hx26_4 := hcc26 4 _ rfl; (try simp only [show (k65).sz = 9 from rfl, Nat.mul_one, Nat.add_zero] at hx26_4); have hf26_4 := hfr26 4; (try simp only [show (k65).sz = 9 from rfl, Nat.mul_one, Nat.add_zero] at hf26_4); have hx26_5 := hcc26 5 _ rfl; (try simp only [show (k65).sz = 9 from rfl, Nat.mul_one, Nat.add_zero] at hx26_5); have hf26_5 := hfr26 5; (try simp only [show (k65).sz = 9 from rfl, Nat.mul_one, Nat.add_zero] at hf26_5); have hx26_6 := hcc26 6 _ rfl; (try simp only [show (k65).sz = 9 from rfl, Nat.mul_one, Nat.add_zero] at hx26_6); have hf26_6 := hfr26 6; (try simp only [show (k65).sz = 9 from rfl, Nat.mul_one, Nat.add_zero] at hf26_6); have hx26_7 := hcc26 7 _ rfl; (try simp only [show (k65).sz = 9 from rfl, Nat.mul_one, Nat.add_zero] at hx26_7); have hf26_7 := hfr26 7; (try simp only [show (k65).sz = 9 from rfl, Nat.mul_one, Nat.add_zero] at hf26_7); have hx26_8 := hcc26 8 _ rfl; (try simp only [show (k65).sz = 9 from rfl, Nat.mul_one, Nat.add_zero] at hx26_8); have hf26_8 := hfr26 8; (try simp only [show (k65).sz = 9 from rfl, Nat.mul_one, Nat.add_zero] at hf26_8); clear hcl26 hcc26 hfr26 hM26) | ((with_reducible refine gate_store (t := 65) (p := 46) rfl ?_); refine store_event (t := 65) (p := 46) (v := ?vo_w27) (w1 := (((((((((w25.setCell ⟨go23, (x7_3 : Int).toNat * 9, none⟩ (.string t214)).setCell ⟨go23, (x7_3 : Int).toNat * 9 + 1, none⟩ (.int .i64 t215)).setCell ⟨go23, (x7_3 : Int).toNat * 9 + 2, none⟩ (.int .i64 t216)).setCell ⟨go23, (x7_3 : Int).toNat * 9 + 3, none⟩ (.int .i64 t217)).setCell ⟨go23, (x7_3 : Int).toNat * 9 + 4, none⟩ (.int .i64 t218)).setCell ⟨go23, (x7_3 : Int).toNat * 9 + 5, none⟩ (.int .i64 t219)).setCell ⟨go23, (x7_3 : Int).toNat * 9 + 6, none⟩ (.int .i64 t220)).setCell ⟨go23, (x7_3 : Int).toNat * 9 + 7, none⟩ (.int .i64 t221)).setCell ⟨go23, (x7_3 : Int).toNat * 9 + 8, none⟩ (.int .i64 t222))) ?hg ?ho ?hn ?hr ?_; (case ho => rfl); (case hg => rfl); (case hn => rfl); (case hr => first | (go_simp; done) | (go_simp; rfl)); intro w27 hw; have hg : w25.grownBy w27 (some go23) := (by rw [hw]; exact HP26.2); have hp_ : Kd.R k65 65 w27 w.heap.size (fun _ => True) (.slice (some ⟨go23, 0, none⟩) x5_3.length co24) y223 := (by rw [hw, Ny223.out]; exact HP26.1); clear HP26; replace HO_5 := jA (hp_); replace HB := jA ((by rw [hw]; exact below_set (below_set (below_set (below_set (below_set (below_set (below_set (below_set (below_set (HB.out) GB23.out) GB23.out) GB23.out) GB23.out) GB23.out) GB23.out) GB23.out) GB23.out) GB23.out : Below w.heap.size w w27)); clear hg hw hp_))
             go_roundg k3
             case measure => have := HJ2.out; have := HK2.out; have := HK3.out; omega
             case rel => exact ⟨(y223), (wrap64 (x7_3 + 1)), zz, H', ⟨by have := HJ2.out; have := HK2.out; have := HK3.out; omega⟩, ⟨zo HO_5⟩, ⟨zb0 HB⟩⟩
            ·rw [if_neg c22] at H
             exact absurd H (by simp)
           ·rw [if_neg c20] at H
            have c20b0 : decide (x7_3 < (x5_3.length : Int)) = false := jM c20
            clear c20
            by_cases c28 : 0 ≤ (l0.length : Int)
            ·rw [if_pos c28] at H
             have c28b0 := eq_true c28
             have c28b1 : decide (0 ≤ (l0.length : Int)) = true := jI c28
             clear c28
             by_cases c29 : (l0.length : Int) ≤ (x5_3.length : Int)
             ·rw [if_pos c29] at H
              have c29b0 := eq_true c29
              have c29b1 : decide ((l0.length : Int) ≤ (x5_3.length : Int)) = true := jI c29
              clear c29
              obtain rfl := jH H
              obtain ⟨Ao30, co30, eo30⟩ := Kd.R_slice HO_5.out
              subst eo30
              have q31 : ((l0.length : Int) : Int) ≤ ((x5_3.length : Int) : Int) := jB za
              obtain ⟨i031, hi031, _, hsz31, _⟩ := info_parts info65
              have hcut31 := cut_to (P := Try.prog) 31 65 .i64 Try.underlying31 hi031 Ao30 x5_3.length co30 (l0.length : Int) (jB za) q31 (jP HO_5.out).2.1
              rw [Int.toNat_natCast] at hcut31
              replace q31 := eq_true q31
              go_wp2
              go_ret
              exact ⟨_, _, _, rfl, LenOr.same _ _, zo HO_5, zb0 HB⟩
             ·rw [if_neg c29] at H
              exact absurd H (by simp)
            ·rw [if_neg c28] at H
             exact absurd H (by simp)
     ·rw [if_neg c9] at H
      exact absurd H (by simp)
    ·rw [if_neg c8] at H
     exact absurd H (by simp)

end Go.Proofs.Ytdgglhfnlljmeaa.PFnExactMovePieces
