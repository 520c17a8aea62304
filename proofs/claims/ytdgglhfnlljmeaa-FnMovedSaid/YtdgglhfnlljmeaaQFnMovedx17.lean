/- Functions and contracts that FnMoved reaches (18 of 29). -/
import Derived.Test.YtdgglhfnlljmeaaQFnMovedx16
namespace Go.Proofs.Ytdgglhfnlljmeaa.PFnMoved
open Go.RowKit Go.Proofs.YtdgglhfnlljmeaaW.PrintWords Go.Proofs.YtdgglhfnlljmeaaW.PrintLast Go.Proofs.YtdgglhfnlljmeaaW.PrintMore
attribute [local go_sem] max2_int min2_int max_two min_two max_three min_three max_four min_four   -- for this text's walks alone
set_option linter.unusedVariables false
set_option linter.unusedSimpArgs false

/-! ### impl_NetIn: function 28 -/
def impl_NetIn.f (k : Nat) (l0 : List (S65)) (a1_0 : Int) (l1_1 : List Int) : Option (Int × Int) := (impl_IsMagazine.f k l0 a1_0 l1_1).bind fun t285 => (if t285 = true then ((impl_netIn.f k l0 a1_0 l1_1).bind fun t286 => (some (t286, 0))) else (some (0, 1)))
theorem impl_NetIn.mono : ∀ a0 a1 a2 k, LeO (impl_NetIn.f k a0 a1 a2) (impl_NetIn.f (k + 1) a0 a1 a2) := by
 intro a0 a1 a2 k
 unfold impl_NetIn.f
 repeat' first
   | (with_reducible exact impl_IsMagazine.mono _ _ _ _)
   | (with_reducible exact impl_netIn.mono _ _ _ _)
   | (with_reducible exact LeO.refl _)
   | (with_reducible exact LeO.none _)
   | (with_reducible refine LeO.ite ?_ ?_)
   | (with_reducible refine LeO.bind ?_ (fun _ => ?_))
   | exact impl_IsMagazine.mono _ _ _ _
   | exact impl_netIn.mono _ _ _ _
   | exact LeO.none _
   | refine LeO.ite ?_ ?_
   | refine LeO.bind ?_ (fun _ => ?_)
set_option maxHeartbeats 8000000 in
set_option maxRecDepth 100000 in
theorem impl_NetIn.calls (k : Nat) (A0 : Option Addr) (c0 : Nat) (l0 : List (S65)) (a1_0 : Int) (A1_1 : Option Addr) (c1_1 : Nat) (l1_1 : List Int) (r1 : Int) (r2 : Int) (w : World) (hr0 : Kd.C k65 w A0 l0.length l0) (hc0 : l0.length ≤ c0) (hr1_1 : Kd.C (Kd.int .i64) w A1_1 l1_1.length l1_1) (hc1_1 : l1_1.length ≤ c1_1) (h : impl_NetIn.f k l0 a1_0 l1_1 = some (r1, r2)) :
  Calls Try.prog 28 #[.slice A0 l0.length c0, .agg #[.int .i64 a1_0, .slice A1_1 l1_1.length c1_1]] w fun e w' => e = .returned (.tuple #[.int .i64 r1, .int .i64 r2]) ∧ Below w.heap.size w w' := by
 have hu28 := Try.underlying28
 have HR0 := jA hr0
 have HC0 := jA hc0
 clear hr0 hc0
 have HR1_1 := jA hr1_1
 have HC1_1 := jA hc1_1
 clear hr1_1 hc1_1
 have HB := jA (Below.refl w.heap.size w)
 have H := h
 unfold impl_NetIn.f at H
 clear h
 replace H := jB.mp H
 obtain ⟨t285, A30, H⟩ := H
 try dsimp only at H
 have A3 := jA A30
 clear A30
 by_cases c4 : t285 = true
 ·subst c4
  rw [if_pos rfl] at H
  replace H := jB.mp H
  obtain ⟨t286, A50, H⟩ := H
  replace H : (some (t286, 0)) = some (r1, r2) := H
  have A5 := jA A50
  clear A50
  simp only [jM, jS] at H
  obtain ⟨rfl, rfl⟩ := H
  go_enter Try.func28, Try.ntmps28
  go_wp2_with (first | ((with_reducible refine jJ (N := 3) rfl ?_); refine zE 3 #[.int .i64 a1_0, .slice A1_1 l1_1.length c1_1] 28 ?_; intro gb284 hg w6 hbox hb; have BK284 := jA (hbox); have GW284 := zg0 hg HB; have GE284 := zg0 hg HB; replace HB := zS0 HB hb; clear hb hbox hg; have hcz7 := zc2 BK284) | ((with_reducible refine jG (f := 26) rfl ?_); refine zL (some 8) Try.func26 #[.slice A0 l0.length c0, .agg #[.int .i64 a1_0, .slice A1_1 l1_1.length c1_1]] ?_; (with_reducible refine (impl_IsMagazine.calls k _ _ l0 a1_0 _ _ l1_1 true _ ?side1 ?side2 ?side3 ?side4 A3.out).mono ?_); (case side1 => exact zs HR0 HB); (case side2 => exact HC0.out); (case side3 => exact zs HR1_1 HB); (case side4 => exact HC1_1.out); rintro e w8 ⟨rfl, hb⟩; refine ⟨_, rfl, ?_⟩; replace BK284 := zB BK284 hb; replace HB := zS1 HB GE284 hb; clear hb; have hcz9 := zc2 BK284) | ((with_reducible refine jG (f := 64) rfl ?_); refine zL (some 12) Try.func64 #[.slice A0 l0.length c0, .agg #[.int .i64 a1_0, .slice A1_1 l1_1.length c1_1]] ?_; (with_reducible refine (impl_netIn.calls k _ _ l0 a1_0 _ _ l1_1 t286 _ ?side1 ?side2 ?side3 ?side4 A5.out).mono ?_); (case side1 => exact zs HR0 HB); (case side2 => exact HC0.out); (case side3 => exact zs HR1_1 HB); (case side4 => exact HC1_1.out); rintro e w10 ⟨rfl, hb⟩; refine ⟨_, rfl, ?_⟩; replace BK284 := zB BK284 hb; replace HB := zS1 HB GE284 hb; clear hb))
  go_ret2
  exact ⟨ze, zb1 HB GE284⟩
 ·replace c4 := Bool.eq_false_iff.mpr c4
  subst c4
  rw [if_neg zfalse] at H
  simp only [jM, jS] at H
  obtain ⟨rfl, rfl⟩ := H
  go_enter Try.func28, Try.ntmps28
  go_wp2_with (first | ((with_reducible refine jJ (N := 3) rfl ?_); refine zE 3 #[.int .i64 a1_0, .slice A1_1 l1_1.length c1_1] 28 ?_; intro gb284 hg w11 hbox hb; have BK284 := jA (hbox); have GW284 := zg0 hg HB; have GE284 := zg0 hg HB; replace HB := zS0 HB hb; clear hb hbox hg; have hcz12 := zc2 BK284) | ((with_reducible refine jG (f := 26) rfl ?_); refine zL (some 8) Try.func26 #[.slice A0 l0.length c0, .agg #[.int .i64 a1_0, .slice A1_1 l1_1.length c1_1]] ?_; (with_reducible refine (impl_IsMagazine.calls k _ _ l0 a1_0 _ _ l1_1 false _ ?side1 ?side2 ?side3 ?side4 A3.out).mono ?_); (case side1 => exact zs HR0 HB); (case side2 => exact HC0.out); (case side3 => exact zs HR1_1 HB); (case side4 => exact HC1_1.out); rintro e w13 ⟨rfl, hb⟩; refine ⟨_, rfl, ?_⟩; replace BK284 := zB BK284 hb; replace HB := zS1 HB GE284 hb; clear hb))
  go_ret2
  exact ⟨ze, zb1 HB GE284⟩

/-! ### spec_RoomFor: function 33 -/
def spec_RoomFor.l0 : Nat → List (S65) → ByteArray → Int → Int → List Int → Option (Int × Int)
 | 0, _, _, _, _, _ => none
 | k + 1, x0, x2, x9, x288000, x288001 => if x9 ≥ 0 then ((spec_StorePieces.f k x0 x288000 x288001 x2 x9).bind fun bt289 => (if bt289.2.2 = 0 then (some (x9, 0)) else (spec_RoomFor.l0 k x0 x2 (wrap64 (x9 - 1)) x288000 x288001))) else (some (0, 5))
def spec_RoomFor.f (k : Nat) (l0 : List (S65)) (a1_0 : Int) (l1_1 : List Int) (a2 : ByteArray) : Option (Int × Int) := (spec_l26Code.f k l0 a1_0 l1_1 a2 0).bind fun t288 => (if t288 = 0 then (spec_RoomFor.l0 k l0 a2 1000 a1_0 l1_1) else (some (0, t288)))
theorem spec_RoomFor.mono_l : ∀ k, (∀ y0 y1 y2 y3 y4, LeO (spec_RoomFor.l0 k y0 y1 y2 y3 y4) (spec_RoomFor.l0 (k + 1) y0 y1 y2 y3 y4))
 | 0 => fun _ _ _ _ _ r h => by simp [spec_RoomFor.l0] at h
 | k + 1 => by
  have ih0 := spec_RoomFor.mono_l k
  ·intro y0 y1 y2 y3 y4
   unfold spec_RoomFor.l0
   repeat' first
   | (with_reducible exact ih0 _ _ _ _ _)
   | (with_reducible exact spec_StorePieces.mono _ _ _ _ _ _)
   | (with_reducible exact spec_l26Code.mono _ _ _ _ _ _)
   | (with_reducible exact LeO.refl _)
   | (with_reducible exact LeO.none _)
   | (with_reducible refine LeO.ite ?_ ?_)
   | (with_reducible refine LeO.bind ?_ (fun _ => ?_))
   | exact ih0 _ _ _ _ _
   | exact spec_StorePieces.mono _ _ _ _ _ _
   | exact spec_l26Code.mono _ _ _ _ _ _
   | exact LeO.none _
   | refine LeO.ite ?_ ?_
   | refine LeO.bind ?_ (fun _ => ?_)
theorem spec_RoomFor.mono : ∀ a0 a1 a2 a3 k, LeO (spec_RoomFor.f k a0 a1 a2 a3) (spec_RoomFor.f (k + 1) a0 a1 a2 a3) := by
 intro a0 a1 a2 a3 k
 have ih0 := spec_RoomFor.mono_l k
 unfold spec_RoomFor.f
 repeat' first
   | (with_reducible exact ih0 _ _ _ _ _)
   | (with_reducible exact spec_StorePieces.mono _ _ _ _ _ _)
   | (with_reducible exact spec_l26Code.mono _ _ _ _ _ _)
   | (with_reducible exact LeO.refl _)
   | (with_reducible exact LeO.none _)
   | (with_reducible refine LeO.ite ?_ ?_)
   | (with_reducible refine LeO.bind ?_ (fun _ => ?_))
   | exact ih0 _ _ _ _ _
   | exact spec_StorePieces.mono _ _ _ _ _ _
   | exact spec_l26Code.mono _ _ _ _ _ _
   | exact LeO.none _
   | refine LeO.ite ?_ ?_
   | refine LeO.bind ?_ (fun _ => ?_)
set_option maxHeartbeats 8000000 in
set_option maxRecDepth 100000 in
theorem spec_RoomFor.calls (k : Nat) (A0 : Option Addr) (c0 : Nat) (l0 : List (S65)) (a1_0 : Int) (A1_1 : Option Addr) (c1_1 : Nat) (l1_1 : List Int) (a2 : ByteArray) (r1 : Int) (r2 : Int) (w : World) (hr0 : Kd.C k65 w A0 l0.length l0) (hc0 : l0.length ≤ c0) (hr1_1 : Kd.C (Kd.int .i64) w A1_1 l1_1.length l1_1) (hc1_1 : l1_1.length ≤ c1_1) (h : spec_RoomFor.f k l0 a1_0 l1_1 a2 = some (r1, r2)) :
  Calls Try.prog 33 #[.slice A0 l0.length c0, .agg #[.int .i64 a1_0, .slice A1_1 l1_1.length c1_1], .string a2] w fun e w' => e = .returned (.tuple #[.int .i64 r1, .int .i64 r2]) ∧ Below w.heap.size w w' := by
 have hu28 := Try.underlying28
 have HR0 := jA hr0
 have HC0 := jA hc0
 clear hr0 hc0
 have HR1_1 := jA hr1_1
 have HC1_1 := jA hc1_1
 clear hr1_1 hc1_1
 have HB := jA (Below.refl w.heap.size w)
 have H := h
 unfold spec_RoomFor.f at H
 clear h
 replace H := jB.mp H
 obtain ⟨t288, A40, H⟩ := H
 try dsimp only at H
 have A4 := jA A40
 clear A40
 by_cases c5 : t288 = 0
 ·rw [if_pos c5] at H
  have c5b0 : (t288 == 0) = true := beq_iff_eq.mpr c5
  have c5b1 : (t288 != 0) = false := bne_eq_false_iff_eq.mpr c5
  clear c5
  have H' := jA H
  clear H
  go_enter Try.func33, Try.ntmps33
  go_wp2_with (first | ((with_reducible refine jJ (N := 4) rfl ?_); refine zE 4 #[.int .i64 a1_0, .slice A1_1 l1_1.length c1_1] 28 ?_; intro gb287 hg w6 hbox hb; have BK287 := jA (hbox); have GW287 := zg0 hg HB; have GE287 := zg0 hg HB; replace HB := zS0 HB hb; clear hb hbox hg; have hcz7 := zc2 BK287) | ((with_reducible refine jG (f := 69) rfl ?_); refine zL (some 15) Try.func69 #[.slice A0 l0.length c0, .agg #[.int .i64 a1_0, .slice A1_1 l1_1.length c1_1], .string a2, .int .i64 0] ?_; (with_reducible refine (spec_l26Code.calls k _ _ l0 a1_0 _ _ l1_1 a2 0 t288 _ ?side1 ?side2 ?side3 ?side4 A4.out).mono ?_); (case side1 => exact zs HR0 HB); (case side2 => exact HC0.out); (case side3 => exact zs HR1_1 HB); (case side4 => exact HC1_1.out); rintro e w8 ⟨rfl, hb⟩; refine ⟨_, rfl, ?_⟩; replace BK287 := zB BK287 hb; replace HB := zS1 HB GE287 hb; clear hb))
  go_loopg [9] k (fun kq v9 w' => ∃ (x9_1 : Int), v9 = .int .i64 x9_1 ∧ Aside0 (spec_RoomFor.l0 kq l0 a2 x9_1 a1_0 l1_1 = some (r1, r2)) ∧ Aside0 (kq ≤ k) ∧ Aside0 (w'.heap[gb287]? = some (.cells #[.int .i64 a1_0, (.slice A1_1 l1_1.length c1_1)] 28 (0, 0))) ∧ Aside0 (Below w.heap.size w w'))
  case atStart => exact ⟨(1000), zz, H', ⟨Nat.le_refl _⟩, ⟨zk BK287⟩, ⟨zb1 HB GE287⟩⟩
  case round =>
   clear H'
   try clear c1
   try clear p2
   try clear c3
   try clear c5
   try clear c5b0
   try clear c5b1
   try clear c6
   try clear hcz7
   obtain ⟨x9_1, rfl, HA, HK1, BK287, HB⟩ := hrel
   cases gk with
   | zero => exact absurd HA.out (by simp [spec_RoomFor.l0])
   | succ k1 =>
    have H := HA.out
    clear HA
    simp only [spec_RoomFor.l0] at H
    by_cases c9 : x9_1 ≥ 0
    ·rw [if_pos c9] at H
     have c9b0 : decide (0 ≤ x9_1) = true := jK c9
     clear c9
     replace H := jB.mp H
     obtain ⟨⟨t289, t290, t293⟩, A100, H⟩ := H
     replace H : (if t293 = 0 then (some (x9_1, 0)) else (spec_RoomFor.l0 k1 l0 a2 (wrap64 (x9_1 - 1)) a1_0 l1_1)) = some (r1, r2) := H
     have A10 := jA A100
     clear A100
     by_cases c11 : t293 = 0
     ·rw [if_pos c11] at H
      have c11b0 : (t293 == 0) = true := beq_iff_eq.mpr c11
      have c11b1 : (t293 != 0) = false := bne_eq_false_iff_eq.mpr c11
      clear c11
      simp only [jM, jS] at H
      obtain ⟨rfl, rfl⟩ := H
      have hcz12 := zc2 BK287
      go_wp2_with (first | ((with_reducible refine jG (f := 40) rfl ?_); refine zL (some 28) Try.func40 #[.slice A0 l0.length c0, .agg #[.int .i64 a1_0, .slice A1_1 l1_1.length c1_1], .string a2, .int .i64 x9_1] ?_; (with_reducible refine (spec_StorePieces.calls k1 _ _ l0 a1_0 _ _ l1_1 a2 x9_1 t289 t290 t293 _ ?side1 ?side2 ?side3 ?side4 A10.out).mono ?_); (case side1 => exact zs HR0 HB); (case side2 => exact HC0.out); (case side3 => exact zs HR1_1 HB); (case side4 => exact HC1_1.out); rintro e w13 ⟨v291, rfl, ho0, hb⟩; refine ⟨_, rfl, ?_⟩; have HO292 := jA (jU ho0 (jW (zb1 HB GE287))); replace BK287 := zB BK287 hb; replace HB := zS1 HB GE287 hb; (try clear hb); (try clear hb2); (try clear hk); (try clear hi); (try clear ho0)) | ((with_reducible refine jJ (N := 10) rfl ?_); refine zE 10 #[.int .i64 0, .slice none 0 0] 28 ?_; intro gb294 hg w14 hbox hb; replace HO292 := jA (jE (zo HO292) hb); have BK294 := jA (hbox); have GW294 := zg1 hg HB GE287; have GE294 := zg1 hg HB GE287; replace HB := zS1 HB GE287 hb; have NB287_294 := zn hg BK287; replace BK287 := zB BK287 hb; have NB294_287 := jA NB287_294.out.symm; clear hb hbox hg; have hnb15 := NB294_287.out; have hnc15 := NB287_294.out; have hcz16 := zc2 BK294; obtain ⟨Ao17, co17, eo17⟩ := Kd.R_slice HO292.out; subst eo17))
      go_ret2
      exact ⟨ze, zb2 HB GE287 GE294⟩
     ·rw [if_neg c11] at H
      have c11b0 : (t293 == 0) = false := beq_eq_false_iff_ne.mpr c11
      have c11b1 : (t293 != 0) = true := bne_iff_ne.mpr c11
      have H' := jA H
      clear H
      have hcz18 := zc2 BK287
      go_wp2_with (first | ((with_reducible refine jG (f := 40) rfl ?_); refine zL (some 28) Try.func40 #[.slice A0 l0.length c0, .agg #[.int .i64 a1_0, .slice A1_1 l1_1.length c1_1], .string a2, .int .i64 x9_1] ?_; (with_reducible refine (spec_StorePieces.calls k1 _ _ l0 a1_0 _ _ l1_1 a2 x9_1 t289 t290 t293 _ ?side1 ?side2 ?side3 ?side4 A10.out).mono ?_); (case side1 => exact zs HR0 HB); (case side2 => exact HC0.out); (case side3 => exact zs HR1_1 HB); (case side4 => exact HC1_1.out); rintro e w19 ⟨v291, rfl, ho0, hb⟩; refine ⟨_, rfl, ?_⟩; have HO292 := jA (jU ho0 (jW (zb1 HB GE287))); replace BK287 := zB BK287 hb; replace HB := zS1 HB GE287 hb; (try clear hb); (try clear hb2); (try clear hk); (try clear hi); (try clear ho0)) | ((with_reducible refine jJ (N := 10) rfl ?_); refine zE 10 #[.int .i64 0, .slice none 0 0] 28 ?_; intro gb294 hg w20 hbox hb; replace HO292 := jA (jE (zo HO292) hb); have BK294 := jA (hbox); have GW294 := zg1 hg HB GE287; have GE294 := zg1 hg HB GE287; replace HB := zS1 HB GE287 hb; have NB287_294 := zn hg BK287; replace BK287 := zB BK287 hb; have NB294_287 := jA NB287_294.out.symm; clear hb hbox hg; have hnb21 := NB294_287.out; have hnc21 := NB287_294.out; have hcz22 := zc2 BK294; obtain ⟨Ao23, co23, eo23⟩ := Kd.R_slice HO292.out; subst eo23))
      go_roundg k1
      case measure => have := HK1.out; omega
      case rel => exact ⟨(wrap64 (x9_1 - 1)), zz, H', ⟨by have := HK1.out; omega⟩, ⟨zQ1 BK287 NB287_294⟩, ⟨zb2 HB GE287 GE294⟩⟩
    ·rw [if_neg c9] at H
     have c9b0 : decide (0 ≤ x9_1) = false := jV c9
     clear c9
     simp only [jM, jS] at H
     obtain ⟨rfl, rfl⟩ := H
     go_wp2
     go_ret2
     exact ⟨ze, zb1 HB GE287⟩
 ·rw [if_neg c5] at H
  have c5b0 : (t288 == 0) = false := beq_eq_false_iff_ne.mpr c5
  have c5b1 : (t288 != 0) = true := bne_iff_ne.mpr c5
  simp only [jM, jS] at H
  obtain ⟨rfl, rfl⟩ := H
  go_enter Try.func33, Try.ntmps33
  go_wp2_with (first | ((with_reducible refine jJ (N := 4) rfl ?_); refine zE 4 #[.int .i64 a1_0, .slice A1_1 l1_1.length c1_1] 28 ?_; intro gb287 hg w24 hbox hb; have BK287 := jA (hbox); have GW287 := zg0 hg HB; have GE287 := zg0 hg HB; replace HB := zS0 HB hb; clear hb hbox hg; have hcz25 := zc2 BK287) | ((with_reducible refine jG (f := 69) rfl ?_); refine zL (some 15) Try.func69 #[.slice A0 l0.length c0, .agg #[.int .i64 a1_0, .slice A1_1 l1_1.length c1_1], .string a2, .int .i64 0] ?_; (with_reducible refine (spec_l26Code.calls k _ _ l0 a1_0 _ _ l1_1 a2 0 t288 _ ?side1 ?side2 ?side3 ?side4 A4.out).mono ?_); (case side1 => exact zs HR0 HB); (case side2 => exact HC0.out); (case side3 => exact zs HR1_1 HB); (case side4 => exact HC1_1.out); rintro e w26 ⟨rfl, hb⟩; refine ⟨_, rfl, ?_⟩; replace BK287 := zB BK287 hb; replace HB := zS1 HB GE287 hb; clear hb))
  go_ret2
  exact ⟨ze, zb1 HB GE287⟩

/-! ### impl_RoomFor: function 34 -/
def impl_RoomFor.l0 : Nat → List (S65) → Int → Int → Int → List Int → Option (Int × Int)
 | 0, _, _, _, _, _ => none
 | k + 1, x0, x8, x9, x296000, x296001 => if x9 ≥ 0 then ((impl_isStored.f k x0 x296000 x296001 x8 x9).bind fun t298 => (if t298 = true then (some (x9, 0)) else (impl_RoomFor.l0 k x0 x8 (wrap64 (x9 - 1)) x296000 x296001))) else (some (0, 5))
def impl_RoomFor.f (k : Nat) (l0 : List (S65)) (a1_0 : Int) (l1_1 : List Int) (a2 : ByteArray) : Option (Int × Int) := (impl_IsMagazine.f k l0 a1_0 l1_1).bind fun t296 => (if t296 = true then ((impl_articleOf.f k l0 a2).bind fun t297 => (if t297 < 0 then (some (0, 4)) else (impl_RoomFor.l0 k l0 t297 1000 a1_0 l1_1))) else (some (0, 1)))
theorem impl_RoomFor.mono_l : ∀ k, (∀ y0 y1 y2 y3 y4, LeO (impl_RoomFor.l0 k y0 y1 y2 y3 y4) (impl_RoomFor.l0 (k + 1) y0 y1 y2 y3 y4))
 | 0 => fun _ _ _ _ _ r h => by simp [impl_RoomFor.l0] at h
 | k + 1 => by
  have ih0 := impl_RoomFor.mono_l k
  ·intro y0 y1 y2 y3 y4
   unfold impl_RoomFor.l0
   repeat' first
   | (with_reducible exact ih0 _ _ _ _ _)
   | (with_reducible exact impl_IsMagazine.mono _ _ _ _)
   | (with_reducible exact impl_articleOf.mono _ _ _)
   | (with_reducible exact impl_isStored.mono _ _ _ _ _ _)
   | (with_reducible exact LeO.refl _)
   | (with_reducible exact LeO.none _)
   | (with_reducible refine LeO.ite ?_ ?_)
   | (with_reducible refine LeO.bind ?_ (fun _ => ?_))
   | exact ih0 _ _ _ _ _
   | exact impl_IsMagazine.mono _ _ _ _
   | exact impl_articleOf.mono _ _ _
   | exact impl_isStored.mono _ _ _ _ _ _
   | exact LeO.none _
   | refine LeO.ite ?_ ?_
   | refine LeO.bind ?_ (fun _ => ?_)
theorem impl_RoomFor.mono : ∀ a0 a1 a2 a3 k, LeO (impl_RoomFor.f k a0 a1 a2 a3) (impl_RoomFor.f (k + 1) a0 a1 a2 a3) := by
 intro a0 a1 a2 a3 k
 have ih0 := impl_RoomFor.mono_l k
 unfold impl_RoomFor.f
 repeat' first
   | (with_reducible exact ih0 _ _ _ _ _)
   | (with_reducible exact impl_IsMagazine.mono _ _ _ _)
   | (with_reducible exact impl_articleOf.mono _ _ _)
   | (with_reducible exact impl_isStored.mono _ _ _ _ _ _)
   | (with_reducible exact LeO.refl _)
   | (with_reducible exact LeO.none _)
   | (with_reducible refine LeO.ite ?_ ?_)
   | (with_reducible refine LeO.bind ?_ (fun _ => ?_))
   | exact ih0 _ _ _ _ _
   | exact impl_IsMagazine.mono _ _ _ _
   | exact impl_articleOf.mono _ _ _
   | exact impl_isStored.mono _ _ _ _ _ _
   | exact LeO.none _
   | refine LeO.ite ?_ ?_
   | refine LeO.bind ?_ (fun _ => ?_)
set_option maxHeartbeats 8000000 in
set_option maxRecDepth 100000 in
theorem impl_RoomFor.calls (k : Nat) (A0 : Option Addr) (c0 : Nat) (l0 : List (S65)) (a1_0 : Int) (A1_1 : Option Addr) (c1_1 : Nat) (l1_1 : List Int) (a2 : ByteArray) (r1 : Int) (r2 : Int) (w : World) (hr0 : Kd.C k65 w A0 l0.length l0) (hc0 : l0.length ≤ c0) (hr1_1 : Kd.C (Kd.int .i64) w A1_1 l1_1.length l1_1) (hc1_1 : l1_1.length ≤ c1_1) (h : impl_RoomFor.f k l0 a1_0 l1_1 a2 = some (r1, r2)) :
  Calls Try.prog 34 #[.slice A0 l0.length c0, .agg #[.int .i64 a1_0, .slice A1_1 l1_1.length c1_1], .string a2] w fun e w' => e = .returned (.tuple #[.int .i64 r1, .int .i64 r2]) ∧ Below w.heap.size w w' := by
 have hu28 := Try.underlying28
 have HR0 := jA hr0
 have HC0 := jA hc0
 clear hr0 hc0
 have HR1_1 := jA hr1_1
 have HC1_1 := jA hc1_1
 clear hr1_1 hc1_1
 have HB := jA (Below.refl w.heap.size w)
 have H := h
 unfold impl_RoomFor.f at H
 clear h
 replace H := jB.mp H
 obtain ⟨t296, A40, H⟩ := H
 try dsimp only at H
 have A4 := jA A40
 clear A40
 by_cases c5 : t296 = true
 ·subst c5
  rw [if_pos rfl] at H
  replace H := jB.mp H
  obtain ⟨t297, A60, H⟩ := H
  try dsimp only at H
  have A6 := jA A60
  clear A60
  by_cases c7 : t297 < 0
  ·rw [if_pos c7] at H
   have c7b0 : decide (t297 < 0) = true := jK c7
   clear c7
   simp only [jM, jS] at H
   obtain ⟨rfl, rfl⟩ := H
   go_enter Try.func34, Try.ntmps34
   go_wp2_with (first | ((with_reducible refine jJ (N := 4) rfl ?_); refine zE 4 #[.int .i64 a1_0, .slice A1_1 l1_1.length c1_1] 28 ?_; intro gb295 hg w8 hbox hb; have BK295 := jA (hbox); have GW295 := zg0 hg HB; have GE295 := zg0 hg HB; replace HB := zS0 HB hb; clear hb hbox hg; have hcz9 := zc2 BK295) | ((with_reducible refine jG (f := 26) rfl ?_); refine zL (some 12) Try.func26 #[.slice A0 l0.length c0, .agg #[.int .i64 a1_0, .slice A1_1 l1_1.length c1_1]] ?_; (with_reducible refine (impl_IsMagazine.calls k _ _ l0 a1_0 _ _ l1_1 true _ ?side1 ?side2 ?side3 ?side4 A4.out).mono ?_); (case side1 => exact zs HR0 HB); (case side2 => exact HC0.out); (case side3 => exact zs HR1_1 HB); (case side4 => exact HC1_1.out); rintro e w10 ⟨rfl, hb⟩; refine ⟨_, rfl, ?_⟩; replace BK295 := zB BK295 hb; replace HB := zS1 HB GE295 hb; clear hb) | ((with_reducible refine jG (f := 70) rfl ?_); refine zL (some 16) Try.func70 #[.slice A0 l0.length c0, .string a2] ?_; (with_reducible refine (impl_articleOf.calls k _ _ l0 a2 t297 _ ?side1 ?side2 A6.out).mono ?_); (case side1 => exact zs HR0 HB); (case side2 => exact HC0.out); rintro e w11 ⟨rfl, hb⟩; refine ⟨_, rfl, ?_⟩; replace BK295 := zB BK295 hb; replace HB := zS1 HB GE295 hb; clear hb))
   go_ret2
   exact ⟨ze, zb1 HB GE295⟩
  ·rw [if_neg c7] at H
   have c7b0 : decide (t297 < 0) = false := jV c7
   clear c7
   have H' := jA H
   clear H
   go_enter Try.func34, Try.ntmps34
   go_wp2_with (first | ((with_reducible refine jJ (N := 4) rfl ?_); refine zE 4 #[.int .i64 a1_0, .slice A1_1 l1_1.length c1_1] 28 ?_; intro gb295 hg w12 hbox hb; have BK295 := jA (hbox); have GW295 := zg0 hg HB; have GE295 := zg0 hg HB; replace HB := zS0 HB hb; clear hb hbox hg; have hcz13 := zc2 BK295) | ((with_reducible refine jG (f := 26) rfl ?_); refine zL (some 12) Try.func26 #[.slice A0 l0.length c0, .agg #[.int .i64 a1_0, .slice A1_1 l1_1.length c1_1]] ?_; (with_reducible refine (impl_IsMagazine.calls k _ _ l0 a1_0 _ _ l1_1 true _ ?side1 ?side2 ?side3 ?side4 A4.out).mono ?_); (case side1 => exact zs HR0 HB); (case side2 => exact HC0.out); (case side3 => exact zs HR1_1 HB); (case side4 => exact HC1_1.out); rintro e w14 ⟨rfl, hb⟩; refine ⟨_, rfl, ?_⟩; replace BK295 := zB BK295 hb; replace HB := zS1 HB GE295 hb; clear hb) | ((with_reducible refine jG (f := 70) rfl ?_); refine zL (some 16) Try.func70 #[.slice A0 l0.length c0, .string a2] ?_; (with_reducible refine (impl_articleOf.calls k _ _ l0 a2 t297 _ ?side1 ?side2 A6.out).mono ?_); (case side1 => exact zs HR0 HB); (case side2 => exact HC0.out); rintro e w15 ⟨rfl, hb⟩; refine ⟨_, rfl, ?_⟩; replace BK295 := zB BK295 hb; replace HB := zS1 HB GE295 hb; clear hb))
   go_loopg [9] k (fun kq v9 w' => ∃ (x9_1 : Int), v9 = .int .i64 x9_1 ∧ Aside0 (impl_RoomFor.l0 kq l0 t297 x9_1 a1_0 l1_1 = some (r1, r2)) ∧ Aside0 (kq ≤ k) ∧ Aside0 (w'.heap[gb295]? = some (.cells #[.int .i64 a1_0, (.slice A1_1 l1_1.length c1_1)] 28 (0, 0))) ∧ Aside0 (Below w.heap.size w w'))
   case atStart => exact ⟨(1000), zz, H', ⟨Nat.le_refl _⟩, ⟨zk BK295⟩, ⟨zb1 HB GE295⟩⟩
   case round =>
    clear H'
    try clear c1
    try clear c2
    try clear p2
    try clear c3
    try clear c5
    try clear c7
    try clear c7b0
    try clear hcz13
    try clear hcz9
    obtain ⟨x9_1, rfl, HA, HK1, BK295, HB⟩ := hrel
    cases gk with
    | zero => exact absurd HA.out (by simp [impl_RoomFor.l0])
    | succ k1 =>
     have H := HA.out
     clear HA
     simp only [impl_RoomFor.l0] at H
     by_cases c16 : x9_1 ≥ 0
     ·rw [if_pos c16] at H
      have c16b0 : decide (0 ≤ x9_1) = true := jK c16
      clear c16
      replace H := jB.mp H
      obtain ⟨t298, A170, H⟩ := H
      replace H : (if t298 = true then (some (x9_1, 0)) else (impl_RoomFor.l0 k1 l0 t297 (wrap64 (x9_1 - 1)) a1_0 l1_1)) = some (r1, r2) := H
      have A17 := jA A170
      clear A170
      by_cases c18 : t298 = true
      ·subst c18
       rw [if_pos rfl] at H
       simp only [jM, jS] at H
       obtain ⟨rfl, rfl⟩ := H
       have hcz19 := zc2 BK295
       go_wp2_with (first | ((with_reducible refine jG (f := 71) rfl ?_); refine zL (some 27) Try.func71 #[.slice A0 l0.length c0, .agg #[.int .i64 a1_0, .slice A1_1 l1_1.length c1_1], .int .i64 t297, .int .i64 x9_1] ?_; (with_reducible refine (impl_isStored.calls k1 _ _ l0 a1_0 _ _ l1_1 t297 x9_1 true _ ?side1 ?side2 ?side3 ?side4 A17.out).mono ?_); (case side1 => exact zs HR0 HB); (case side2 => exact HC0.out); (case side3 => exact zs HR1_1 HB); (case side4 => exact HC1_1.out); rintro e w20 ⟨rfl, hb⟩; refine ⟨_, rfl, ?_⟩; replace BK295 := zB BK295 hb; replace HB := zS1 HB GE295 hb; clear hb))
       go_ret2
       exact ⟨ze, zb1 HB GE295⟩
      ·replace c18 := Bool.eq_false_iff.mpr c18
       subst c18
       rw [if_neg zfalse] at H
       have H' := jA H
       clear H
       have hcz21 := zc2 BK295
       go_wp2_with (first | ((with_reducible refine jG (f := 71) rfl ?_); refine zL (some 27) Try.func71 #[.slice A0 l0.length c0, .agg #[.int .i64 a1_0, .slice A1_1 l1_1.length c1_1], .int .i64 t297, .int .i64 x9_1] ?_; (with_reducible refine (impl_isStored.calls k1 _ _ l0 a1_0 _ _ l1_1 t297 x9_1 false _ ?side1 ?side2 ?side3 ?side4 A17.out).mono ?_); (case side1 => exact zs HR0 HB); (case side2 => exact HC0.out); (case side3 => exact zs HR1_1 HB); (case side4 => exact HC1_1.out); rintro e w22 ⟨rfl, hb⟩; refine ⟨_, rfl, ?_⟩; replace BK295 := zB BK295 hb; replace HB := zS1 HB GE295 hb; clear hb))
       go_roundg k1
       case measure => have := HK1.out; omega
       case rel => exact ⟨(wrap64 (x9_1 - 1)), zz, H', ⟨by have := HK1.out; omega⟩, ⟨zk BK295⟩, ⟨zb1 HB GE295⟩⟩
     ·rw [if_neg c16] at H
      have c16b0 : decide (0 ≤ x9_1) = false := jV c16
      clear c16
      simp only [jM, jS] at H
      obtain ⟨rfl, rfl⟩ := H
      go_wp2
      go_ret2
      exact ⟨ze, zb1 HB GE295⟩
 ·replace c5 := Bool.eq_false_iff.mpr c5
  subst c5
  rw [if_neg zfalse] at H
  simp only [jM, jS] at H
  obtain ⟨rfl, rfl⟩ := H
  go_enter Try.func34, Try.ntmps34
  go_wp2_with (first | ((with_reducible refine jJ (N := 4) rfl ?_); refine zE 4 #[.int .i64 a1_0, .slice A1_1 l1_1.length c1_1] 28 ?_; intro gb295 hg w23 hbox hb; have BK295 := jA (hbox); have GW295 := zg0 hg HB; have GE295 := zg0 hg HB; replace HB := zS0 HB hb; clear hb hbox hg; have hcz24 := zc2 BK295) | ((with_reducible refine jG (f := 26) rfl ?_); refine zL (some 12) Try.func26 #[.slice A0 l0.length c0, .agg #[.int .i64 a1_0, .slice A1_1 l1_1.length c1_1]] ?_; (with_reducible refine (impl_IsMagazine.calls k _ _ l0 a1_0 _ _ l1_1 false _ ?side1 ?side2 ?side3 ?side4 A4.out).mono ?_); (case side1 => exact zs HR0 HB); (case side2 => exact HC0.out); (case side3 => exact zs HR1_1 HB); (case side4 => exact HC1_1.out); rintro e w25 ⟨rfl, hb⟩; refine ⟨_, rfl, ?_⟩; replace BK295 := zB BK295 hb; replace HB := zS1 HB GE295 hb; clear hb))
  go_ret2
  exact ⟨ze, zb1 HB GE295⟩

/-! ### laws_big: function 37 -/
def laws_big.f (l0 : List Int) : Option (Bool) := some (decide ((l0.length : Int) > 4096))
set_option maxHeartbeats 8000000 in
set_option maxRecDepth 100000 in
theorem laws_big.calls (A0 : Option Addr) (c0 : Nat) (l0 : List Int) (r : Bool) (w : World) (hr0 : Kd.C (Kd.int .u8) w A0 l0.length l0) (hc0 : l0.length ≤ c0) (h : laws_big.f l0 = some r) :
  Calls Try.prog 37 #[.slice A0 l0.length c0] w fun e w' => e = .returned (.bool r) ∧ Drawn0 w w' := by
 have HR0 := jA hr0
 have HC0 := jA hc0
 clear hr0 hc0
 have H : (some (decide ((l0.length : Int) > 4096))) = some r := h
 clear h
 obtain rfl := jN H
 go_enter Try.func37, Try.ntmps37
 go_wp2
 go_ret
 exact ⟨by first | rfl | (simp; done) | (simp [*]; done), by repeat (first | exact Drawn0.refl _ | apply Drawn0.step)⟩

/-! ### laws_likeInts: function 80 -/
def laws_likeInts.l0 : Nat → List Int → List Int → Int → Option (Bool)
 | 0, _, _, _ => none
 | k + 1, x0, x1, x5 => if x5 < (x0.length : Int) then (if 0 ≤ x5 then (if x5 < (x1.length : Int) then (if (rd x0 x5) = (rd x1 x5) then (laws_likeInts.l0 k x0 x1 (wrap64 (x5 + 1))) else (some false)) else (none)) else (none)) else (some true)
def laws_likeInts.f (k : Nat) (l0 : List Int) (l1 : List Int) : Option (Bool) := if (l0.length : Int) = (l1.length : Int) then (laws_likeInts.l0 k l0 l1 0) else (some false)
theorem laws_likeInts.mono_l : ∀ k, (∀ y0 y1 y2, LeO (laws_likeInts.l0 k y0 y1 y2) (laws_likeInts.l0 (k + 1) y0 y1 y2))
 | 0 => fun _ _ _ r h => by simp [laws_likeInts.l0] at h
 | k + 1 => by
  have ih0 := laws_likeInts.mono_l k
  ·intro y0 y1 y2
   unfold laws_likeInts.l0
   repeat' first
   | (with_reducible exact ih0 _ _ _)
   | (with_reducible exact LeO.refl _)
   | (with_reducible exact LeO.none _)
   | (with_reducible refine LeO.ite ?_ ?_)
   | (with_reducible refine LeO.bind ?_ (fun _ => ?_))
   | exact ih0 _ _ _
   | exact LeO.none _
   | refine LeO.ite ?_ ?_
   | refine LeO.bind ?_ (fun _ => ?_)
theorem laws_likeInts.mono : ∀ a0 a1 k, LeO (laws_likeInts.f k a0 a1) (laws_likeInts.f (k + 1) a0 a1) := by
 intro a0 a1 k
 have ih0 := laws_likeInts.mono_l k
 unfold laws_likeInts.f
 repeat' first
   | (with_reducible exact ih0 _ _ _)
   | (with_reducible exact LeO.refl _)
   | (with_reducible exact LeO.none _)
   | (with_reducible refine LeO.ite ?_ ?_)
   | (with_reducible refine LeO.bind ?_ (fun _ => ?_))
   | exact ih0 _ _ _
   | exact LeO.none _
   | refine LeO.ite ?_ ?_
   | refine LeO.bind ?_ (fun _ => ?_)
set_option maxHeartbeats 8000000 in
set_option maxRecDepth 100000 in
theorem laws_likeInts.calls (k : Nat) (A0 : Option Addr) (c0 : Nat) (l0 : List Int) (A1 : Option Addr) (c1 : Nat) (l1 : List Int) (r : Bool) (w : World) (hr0 : Kd.C (Kd.int .i64) w A0 l0.length l0) (hc0 : l0.length ≤ c0) (hr1 : Kd.C (Kd.int .i64) w A1 l1.length l1) (hc1 : l1.length ≤ c1) (h : laws_likeInts.f k l0 l1 = some r) :
  Calls Try.prog 80 #[.slice A0 l0.length c0, .slice A1 l1.length c1] w fun e w' => e = .returned (.bool r) ∧ Drawn0 w w' := by
 have HR0 := jA hr0
 have HC0 := jA hc0
 clear hr0 hc0
 have HR1 := jA hr1
 have HC1 := jA hc1
 clear hr1 hc1
 have H := h
 unfold laws_likeInts.f at H
 clear h
 by_cases c3 : (l0.length : Int) = (l1.length : Int)
 ·rw [if_pos c3] at H
  have c3b0 : ((l0.length : Int) == (l1.length : Int)) = true := beq_iff_eq.mpr c3
  have c3b1 : ((l0.length : Int) != (l1.length : Int)) = false := bne_eq_false_iff_eq.mpr c3
  have c3b2 : (l0.length == l1.length) = true := by first | simpa using c3 | (simp at c3 ⊢; omega)
  clear c3
  have H' := jA H
  clear H
  go_enter Try.func80, Try.ntmps80
  go_wp2
  repeat (go_quiet (fail); try go_wp2)
  go_loopg [5] k (fun kq v5 w' => ∃ (x5_1 : Int), v5 = .int .i64 x5_1 ∧ Aside0 (laws_likeInts.l0 kq l0 l1 x5_1 = some r) ∧ Aside0 (kq ≤ k) ∧ Drawn0 w w')
  case atStart => exact ⟨(0), zz, H', ⟨Nat.le_refl _⟩, by repeat (first | exact Drawn0.refl _ | apply Drawn0.step)⟩
  case round =>
   clear H'
   try clear c1
   try clear p2
   try clear c3
   try clear c3b0
   try clear c3b1
   try clear c3b2
   obtain ⟨x5_1, rfl, HA, HK1, ⟨m1, rfl⟩⟩ := hrel
   cases gk with
   | zero => exact absurd HA.out (by simp [laws_likeInts.l0])
   | succ k1 =>
    have H := HA.out
    clear HA
    simp only [laws_likeInts.l0] at H
    by_cases c4 : x5_1 < (l0.length : Int)
    ·rw [if_pos c4] at H
     have c4b0 : decide (x5_1 < (l0.length : Int)) = true := jK c4
     clear c4
     by_cases c5 : 0 ≤ x5_1
     ·rw [if_pos c5] at H
      have c5b0 : decide (0 ≤ x5_1) = true := jK c5
      clear c5
      by_cases c6 : x5_1 < (l1.length : Int)
      ·rw [if_pos c6] at H
       have c6b0 : decide (x5_1 < (l1.length : Int)) = true := jK c6
       clear c6
       by_cases c7 : (rd l0 x5_1) = (rd l1 x5_1)
       ·rw [if_pos c7] at H
        have c7b0 : ((rd l0 x5_1) == (rd l1 x5_1)) = true := beq_iff_eq.mpr c7
        have c7b1 : ((rd l0 x5_1) != (rd l1 x5_1)) = false := bne_eq_false_iff_eq.mpr c7
        clear c7
        have H' := jA H
        clear H
        have p299 : 0 ≤ (x5_1 : Int) := jD za
        have q299 : x5_1 < (l0.length : Int) := jD za
        obtain ⟨ad299, e299, hx299_0⟩ := Kd.at_int HR0.out x5_1 p299 q299
        cases e299
        replace p299 := eq_true p299
        replace q299 := eq_true q299
        have p300 : 0 ≤ (x5_1 : Int) := jD za
        have q300 : x5_1 < (l1.length : Int) := jD za
        obtain ⟨ad300, e300, hx300_0⟩ := Kd.at_int HR1.out x5_1 p300 q300
        cases e300
        replace p300 := eq_true p300
        replace q300 := eq_true q300
        go_wp2
        repeat (go_quiet (fail); try go_wp2)
        go_roundg k1
        case measure => have := HK1.out; omega
        case rel => exact ⟨(wrap64 (x5_1 + 1)), zz, H', ⟨by have := HK1.out; omega⟩, by repeat (first | exact Drawn0.refl _ | apply Drawn0.step)⟩
       ·rw [if_neg c7] at H
        have c7b0 : ((rd l0 x5_1) == (rd l1 x5_1)) = false := beq_eq_false_iff_ne.mpr c7
        have c7b1 : ((rd l0 x5_1) != (rd l1 x5_1)) = true := bne_iff_ne.mpr c7
        obtain rfl := jN H
        have p299 : 0 ≤ (x5_1 : Int) := jD za
        have q299 : x5_1 < (l0.length : Int) := jD za
        obtain ⟨ad299, e299, hx299_0⟩ := Kd.at_int HR0.out x5_1 p299 q299
        cases e299
        replace p299 := eq_true p299
        replace q299 := eq_true q299
        have p300 : 0 ≤ (x5_1 : Int) := jD za
        have q300 : x5_1 < (l1.length : Int) := jD za
        obtain ⟨ad300, e300, hx300_0⟩ := Kd.at_int HR1.out x5_1 p300 q300
        cases e300
        replace p300 := eq_true p300
        replace q300 := eq_true q300
        go_wp2
        repeat (go_quiet (fail); try go_wp2)
        go_ret
        exact ⟨by first | rfl | (simp; done) | (simp [*]; done), by repeat (first | exact Drawn0.refl _ | apply Drawn0.step)⟩
      ·rw [if_neg c6] at H
       exact absurd H (by simp)
     ·rw [if_neg c5] at H
      exact absurd H (by simp)
    ·rw [if_neg c4] at H
     have c4b0 : decide (x5_1 < (l0.length : Int)) = false := jV c4
     clear c4
     obtain rfl := jN H
     go_wp2
     repeat (go_quiet (fail); try go_wp2)
     go_ret
     exact ⟨by first | rfl | (simp; done) | (simp [*]; done), by repeat (first | exact Drawn0.refl _ | apply Drawn0.step)⟩
 ·rw [if_neg c3] at H
  have c3b0 : ((l0.length : Int) == (l1.length : Int)) = false := beq_eq_false_iff_ne.mpr c3
  have c3b1 : ((l0.length : Int) != (l1.length : Int)) = true := bne_iff_ne.mpr c3
  have c3b2 : (l0.length == l1.length) = false := by first | simpa using c3 | (simp at c3 ⊢; omega)
  obtain rfl := jN H
  go_enter Try.func80, Try.ntmps80
  go_wp2
  repeat (go_quiet (fail); try go_wp2)
  go_ret
  exact ⟨by first | rfl | (simp; done) | (simp [*]; done), by repeat (first | exact Drawn0.refl _ | apply Drawn0.step)⟩

/-! ### laws_likeMagazine: function 42 -/
def laws_likeMagazine.f (k : Nat) (a0_0 : Int) (l0_1 : List Int) (a1_0 : Int) (l1_1 : List Int) : Option (Bool) := if a0_0 = a1_0 then ((laws_likeInts.f k l0_1 l1_1).bind fun t303 => (some t303)) else (some false)
theorem laws_likeMagazine.mono : ∀ a0 a1 a2 a3 k, LeO (laws_likeMagazine.f k a0 a1 a2 a3) (laws_likeMagazine.f (k + 1) a0 a1 a2 a3) := by
 intro a0 a1 a2 a3 k
 unfold laws_likeMagazine.f
 repeat' first
   | (with_reducible exact laws_likeInts.mono _ _ _)
   | (with_reducible exact LeO.refl _)
   | (with_reducible exact LeO.none _)
   | (with_reducible refine LeO.ite ?_ ?_)
   | (with_reducible refine LeO.bind ?_ (fun _ => ?_))
   | exact laws_likeInts.mono _ _ _
   | exact LeO.none _
   | refine LeO.ite ?_ ?_
   | refine LeO.bind ?_ (fun _ => ?_)
set_option maxHeartbeats 8000000 in
set_option maxRecDepth 100000 in
theorem laws_likeMagazine.calls (k : Nat) (a0_0 : Int) (A0_1 : Option Addr) (c0_1 : Nat) (l0_1 : List Int) (a1_0 : Int) (A1_1 : Option Addr) (c1_1 : Nat) (l1_1 : List Int) (r : Bool) (w : World) (hr0_1 : Kd.C (Kd.int .i64) w A0_1 l0_1.length l0_1) (hc0_1 : l0_1.length ≤ c0_1) (hr1_1 : Kd.C (Kd.int .i64) w A1_1 l1_1.length l1_1) (hc1_1 : l1_1.length ≤ c1_1) (h : laws_likeMagazine.f k a0_0 l0_1 a1_0 l1_1 = some r) :
  Calls Try.prog 42 #[.agg #[.int .i64 a0_0, .slice A0_1 l0_1.length c0_1], .agg #[.int .i64 a1_0, .slice A1_1 l1_1.length c1_1]] w fun e w' => e = .returned (.bool r) ∧ Below w.heap.size w w' := by
 have hu28 := Try.underlying28
 have HR0_1 := jA hr0_1
 have HC0_1 := jA hc0_1
 clear hr0_1 hc0_1
 have HR1_1 := jA hr1_1
 have HC1_1 := jA hc1_1
 clear hr1_1 hc1_1
 have HB := jA (Below.refl w.heap.size w)
 have H := h
 unfold laws_likeMagazine.f at H
 clear h
 by_cases c3 : a0_0 = a1_0
 ·rw [if_pos c3] at H
  have c3b0 : (a0_0 == a1_0) = true := beq_iff_eq.mpr c3
  have c3b1 : (a0_0 != a1_0) = false := bne_eq_false_iff_eq.mpr c3
  clear c3
  replace H := jB.mp H
  obtain ⟨t303, A40, H⟩ := H
  replace H : (some t303) = some r := H
  have A4 := jA A40
  clear A40
  obtain rfl := jN H
  go_enter Try.func42, Try.ntmps42
  go_wp2_with (first | ((with_reducible refine jJ (N := 2) rfl ?_); refine zE 2 #[.int .i64 a0_0, .slice A0_1 l0_1.length c0_1] 28 ?_; intro gb301 hg w5 hbox hb; have BK301 := jA (hbox); have GW301 := zg0 hg HB; have GE301 := zg0 hg HB; replace HB := zS0 HB hb; clear hb hbox hg) | ((with_reducible refine jJ (N := 3) rfl ?_); refine zE 3 #[.int .i64 a1_0, .slice A1_1 l1_1.length c1_1] 28 ?_; intro gb302 hg w6 hbox hb; have BK302 := jA (hbox); have GW302 := zg1 hg HB GE301; have GE302 := zg1 hg HB GE301; replace HB := zS1 HB GE301 hb; have NB301_302 := zn hg BK301; replace BK301 := zB BK301 hb; have NB302_301 := jA NB301_302.out.symm; clear hb hbox hg; have hnb7 := NB301_302.out; have hnc7 := NB302_301.out; have hcz8 := zc2 BK301; have hcz9 := zc2 BK302) | (go_at_call 80; (with_reducible refine (laws_likeInts.calls k _ _ l0_1 _ _ l1_1 t303 _ ?side1 ?side2 ?side3 ?side4 A4.out).mono ?_); (case side1 => exact zs HR0_1 HB); (case side2 => exact HC0_1.out); (case side3 => exact zs HR1_1 HB); (case side4 => exact HC1_1.out); rintro e w' ⟨rfl, ⟨nd, rfl⟩⟩))
  go_ret
  exact ⟨ze, zb2 HB GE301 GE302⟩
 ·rw [if_neg c3] at H
  have c3b0 : (a0_0 == a1_0) = false := beq_eq_false_iff_ne.mpr c3
  have c3b1 : (a0_0 != a1_0) = true := bne_iff_ne.mpr c3
  obtain rfl := jN H
  go_enter Try.func42, Try.ntmps42
  go_wp2_with (first | ((with_reducible refine jJ (N := 2) rfl ?_); refine zE 2 #[.int .i64 a0_0, .slice A0_1 l0_1.length c0_1] 28 ?_; intro gb301 hg w10 hbox hb; have BK301 := jA (hbox); have GW301 := zg0 hg HB; have GE301 := zg0 hg HB; replace HB := zS0 HB hb; clear hb hbox hg) | ((with_reducible refine jJ (N := 3) rfl ?_); refine zE 3 #[.int .i64 a1_0, .slice A1_1 l1_1.length c1_1] 28 ?_; intro gb302 hg w11 hbox hb; have BK302 := jA (hbox); have GW302 := zg1 hg HB GE301; have GE302 := zg1 hg HB GE301; replace HB := zS1 HB GE301 hb; have NB301_302 := zn hg BK301; replace BK301 := zB BK301 hb; have NB302_301 := jA NB301_302.out.symm; clear hb hbox hg; have hnb12 := NB301_302.out; have hnc12 := NB302_301.out; have hcz13 := zc2 BK301; have hcz14 := zc2 BK302))
  go_ret
  exact ⟨ze, zb2 HB GE301 GE302⟩

/-- A state of type 92 at block g of W; what its slices lead to came in by w0. -/
def IsS92 (w0 W : World) (g : Nat) (f0 : List Int) (f1 : Int) (f2 : Int) : Prop := ∃ A0 c0, W.heap[g]? = some (.cells #[.slice A0 f0.length c0, .int .i64 f1, .int .i64 f2] 92 (0, 0)) ∧ w0.heap.size ≤ g ∧ Kd.C (Kd.int .u8) w0 A0 f0.length f0
theorem IsS92.grown {w0 W : World} {g : Nat} {f0 : List Int} {f1 : Int} {f2 : Int} {W1 : World} {row : Option Nat} (h : IsS92 w0 W g f0 f1 f2) (hw : W.grownBy W1 row) (hne : some g ≠ row) : IsS92 w0 W1 g f0 f1 f2 := by
 obtain ⟨A0, c0, hb, hg, hr0⟩ := h
 exact ⟨A0, c0, blk_grown hb hw hne, hg, hr0⟩
theorem IsS92.own_neN {w0 W : World} {g : Nat} {f0 : List Int} {f1 : Int} {f2 : Int} {α : Type} {d : Kd α} {e : Nat} {base : Nat} {ok : Nat → Prop} {v : Value} {xs : List α} (h : IsS92 w0 W g f0 f1 f2) (ho : Kd.N d e W base ok v xs) (ht : e ≠ 92) : some g ≠ v.ownBlock := by
 obtain ⟨A0, c0, hb, hg, hr0⟩ := h
 exact Kd.N_ne ho hb ht
theorem IsS92.fresh {w0 W : World} {g : Nat} {f0 : List Int} {f1 : Int} {f2 : Int} (h : IsS92 w0 W g f0 f1 f2) : ∀ k, W.heap.size ≤ k → k ≠ g := by
 obtain ⟨A0, c0, hb, hg, hr0⟩ := h
 exact Kd.freshB hb
theorem IsS92.kept {w0 W : World} {g : Nat} {f0 : List Int} {f1 : Int} {f2 : Int} {W1 : World} {S : Nat → Prop} (h : IsS92 w0 W g f0 f1 f2) (hk : Kept W W1 S) (hne : ¬ S g) : IsS92 w0 W1 g f0 f1 f2 := by
 obtain ⟨A0, c0, hb, hg, hr0⟩ := h
 exact ⟨A0, c0, blk_kept hb hk hne, hg, hr0⟩
theorem IsS92.below {w0 W : World} {g : Nat} {f0 : List Int} {f1 : Int} {f2 : Int} {W1 : World} (h : IsS92 w0 W g f0 f1 f2) (hw : Below W.heap.size W W1) : IsS92 w0 W1 g f0 f1 f2 := h.grown (grown_of_below hw none) (by simp)
theorem IsS92.alloc {w0 W : World} {g : Nat} {f0 : List Int} {f1 : Int} {f2 : Int} (h : IsS92 w0 W g f0 f1 f2) (o : Obj) : IsS92 w0 (W.alloc o) g f0 f1 f2 := h.below (below_alloc (Below.refl _ _) o)
theorem IsS92.drewN {w0 W : World} {g : Nat} {f0 : List Int} {f1 : Int} {f2 : Int} (h : IsS92 w0 W g f0 f1 f2) (m : Nat) : IsS92 w0 (W.drewN m) g f0 f1 f2 := h
theorem IsS92.drew {w0 W : World} {g : Nat} {f0 : List Int} {f1 : Int} {f2 : Int} (h : IsS92 w0 W g f0 f1 f2) : IsS92 w0 W.drew g f0 f1 f2 := h
theorem IsS92.at_ {w0 W : World} {g : Nat} {f0 : List Int} {f1 : Int} {f2 : Int} {w' : World} {m : Nat} (hq : W.drewN m = w') (h : IsS92 w0 W g f0 f1 f2) : IsS92 w0 w' g f0 f1 f2 := by subst hq; exact IsS92.drewN h m
theorem IsS92.apart {w0 W : World} {g : Nat} {f0 : List Int} {f1 : Int} {f2 : Int} {α : Type} {d : Kd α} {e : Nat} {base : Nat} {ok : Nat → Prop} {v : Value} {xs : List α} (h : IsS92 w0 W g f0 f1 f2) (ho : d.R e W base ok v xs) (ht : ∀ q, q ∈ e :: d.E → q ≠ 92) : d.R e W base (fun k => ok k ∧ k ≠ g) v xs := by
 obtain ⟨A0, c0, hb, hg, hr0⟩ := h
 exact Kd.R_types ho hb ht
theorem IsS92.own_ne {w0 W : World} {g : Nat} {f0 : List Int} {f1 : Int} {f2 : Int} {α : Type} {d : Kd α} {e : Nat} {base : Nat} {ok : Nat → Prop} {v : Value} {xs : List α} (h : IsS92 w0 W g f0 f1 f2) (ho : d.R e W base ok v xs) (ht : e ≠ 92) : some g ≠ v.ownBlock := by
 obtain ⟨A0, c0, hb, hg, hr0⟩ := h
 exact Kd.R_ne ho hb ht
theorem IsS92.apartQ {w0 W : World} {g : Nat} {f0 : List Int} {f1 : Int} {f2 : Int} {α : Type} {d : Kd α} {e : Nat} {base : Nat} {ok : Nat → Prop} {v : Value} {xs : List α} (h : IsS92 w0 W g f0 f1 f2) (ho : d.Q e W base ok v xs) (ht : ∀ q, q ∈ e :: d.E → q ≠ 92) : d.Q e W base (fun k => ok k ∧ k ≠ g) v xs := by
 obtain ⟨A0, c0, hb, hg, hr0⟩ := h
 exact Kd.Q_types ho hb ht
theorem IsS92.own_neQ {w0 W : World} {g : Nat} {f0 : List Int} {f1 : Int} {f2 : Int} {α : Type} {d : Kd α} {e : Nat} {base : Nat} {ok : Nat → Prop} {v : Value} {xs : List α} (h : IsS92 w0 W g f0 f1 f2) (ho : d.Q e W base ok v xs) (ht : e ≠ 92) : some g ≠ v.ownBlock := by
 obtain ⟨A0, c0, hb, hg, hr0⟩ := h
 exact Kd.Q_ne ho hb ht
theorem IsS92.apartS {w0 W : World} {g : Nat} {f0 : List Int} {f1 : Int} {f2 : Int} {α : Type} {d : Kd α} {e : Nat} {base : Nat} {ok : Nat → Prop} {v : Value} {xs : List α} (h : IsS92 w0 W g f0 f1 f2) (ho : d.S e W base ok v xs) (ht : ∀ q, q ∈ e :: d.E → q ≠ 92) : d.S e W base (fun k => ok k ∧ k ≠ g) v xs := by
 obtain ⟨A0, c0, hb, hg, hr0⟩ := h
 exact Kd.S_types ho hb ht
theorem IsS92.own_neS {w0 W : World} {g : Nat} {f0 : List Int} {f1 : Int} {f2 : Int} {α : Type} {d : Kd α} {e : Nat} {base : Nat} {ok : Nat → Prop} {v : Value} {xs : List α} (h : IsS92 w0 W g f0 f1 f2) (ho : d.S e W base ok v xs) (ht : e ≠ 92) : some g ≠ v.ownBlock := by
 obtain ⟨A0, c0, hb, hg, hr0⟩ := h
 exact Kd.S_ne ho hb ht
theorem IsS92.lt {w0 W : World} {g : Nat} {f0 : List Int} {f1 : Int} {f2 : Int} (h : IsS92 w0 W g f0 f1 f2) : g < W.heap.size := by
 obtain ⟨A0, c0, hb, hg, hr0⟩ := h
 exact blk_lt hb
theorem IsS92.ge {w0 W : World} {g : Nat} {f0 : List Int} {f1 : Int} {f2 : Int} (h : IsS92 w0 W g f0 f1 f2) : w0.heap.size ≤ g := by
 obtain ⟨A0, c0, hb, hg, hr0⟩ := h
 exact hg
theorem IsS92.ne_blk {w0 W : World} {g : Nat} {f0 : List Int} {f1 : Int} {f2 : Int} {a : Nat} {cs : Array Value} {t : TypeId} {fr : Nat × Nat} (h : IsS92 w0 W g f0 f1 f2) (hb2 : W.heap[a]? = some (.cells cs t fr)) (ht : t ≠ 92) : g ≠ a := by
 obtain ⟨A0, c0, hb, hg, hr0⟩ := h
 rintro rfl
 rw [hb] at hb2
 injection hb2 with hb2
 injection hb2 with _ ht2
 exact ht ht2.symm
theorem IsS92.far {w0 W : World} {g : Nat} {f0 : List Int} {f1 : Int} {f2 : Int} {p : Addr} (h : IsS92 w0 W g f0 f1 f2) (hne : g ≠ p.block) (u : Value) : IsS92 w0 (W.setCell p u) g f0 f1 f2 := by
 obtain ⟨A0, c0, hb, hg, hr0⟩ := h
 exact ⟨A0, c0, blk_far hb hne u, hg, hr0⟩
theorem cellS92_0 {W : World} {g : Nat} {A0 : Option Addr} {c0 : Nat} {f0 : List Int} {f1 : Int} {f2 : Int} (h : W.heap[g]? = some (.cells #[.slice A0 f0.length c0, .int .i64 f1, .int .i64 f2] 92 (0, 0))) : W.cell? ⟨g, 0, none⟩ = some (.slice A0 f0.length c0) := (jF h 0).trans rfl
theorem cellS92_1 {W : World} {g : Nat} {A0 : Option Addr} {c0 : Nat} {f0 : List Int} {f1 : Int} {f2 : Int} (h : W.heap[g]? = some (.cells #[.slice A0 f0.length c0, .int .i64 f1, .int .i64 f2] 92 (0, 0))) : W.cell? ⟨g, 1, none⟩ = some (.int .i64 f1) := (jF h 1).trans rfl
theorem IsS92.set_1 {w0 W : World} {g : Nat} {f0 : List Int} {f1 : Int} {f2 : Int} (h : IsS92 w0 W g f0 f1 f2) (x : Int) : IsS92 w0 (W.setCell ⟨g, 1, none⟩ (.int .i64 x)) g f0 x f2 := by
 obtain ⟨A0, c0, hb, hg, hr0⟩ := h
 exact ⟨A0, c0, by simpa using blk_set hb 1 (.int .i64 x), hg, hr0⟩
theorem cellS92_2 {W : World} {g : Nat} {A0 : Option Addr} {c0 : Nat} {f0 : List Int} {f1 : Int} {f2 : Int} (h : W.heap[g]? = some (.cells #[.slice A0 f0.length c0, .int .i64 f1, .int .i64 f2] 92 (0, 0))) : W.cell? ⟨g, 2, none⟩ = some (.int .i64 f2) := (jF h 2).trans rfl
theorem IsS92.set_2 {w0 W : World} {g : Nat} {f0 : List Int} {f1 : Int} {f2 : Int} (h : IsS92 w0 W g f0 f1 f2) (x : Int) : IsS92 w0 (W.setCell ⟨g, 2, none⟩ (.int .i64 x)) g f0 f1 x := by
 obtain ⟨A0, c0, hb, hg, hr0⟩ := h
 exact ⟨A0, c0, by simpa using blk_set hb 2 (.int .i64 x), hg, hr0⟩
theorem IsS92.new (w0 W : World) (A0 : Option Addr) (c0 : Nat) (f0 : List Int) (f1 : Int) (f2 : Int) (hB : Below w0.heap.size w0 W) (hr0 : Kd.C (Kd.int .u8) w0 A0 f0.length f0) : IsS92 w0 (W.alloc (.cells #[.slice A0 f0.length c0, .int .i64 f1, .int .i64 f2] 92)) W.heap.size f0 f1 f2 := ⟨A0, c0, by simpa using heap_alloc_new W _, hB.size, hr0⟩
theorem zr14 {p q r0 r1 r2 r3 r4 : Prop} (H : Aside0 q) (G0 : Aside0 r0) (G1 : Aside0 r1) (G2 : Aside0 r2) (G3 : Aside0 r3) (G4 : Aside0 r4) (h : q → r0 → r1 → r2 → r3 → r4 → p := by intro h_ g0_ g1_ g2_ g3_ g4_; repeat (first | (with_reducible first | exact h_ | apply below_alloc | apply pw_below_drewN | apply below_drew1 | refine below_set ?_ (IsS92.ge g0_) | refine below_set ?_ g1_ | refine below_set ?_ g2_ | refine below_set ?_ g3_ | refine below_set ?_ g4_) | exact h_)) : p := h H.out G0.out G1.out G2.out G3.out G4.out
theorem zr13 {p q r0 r1 r2 r3 : Prop} (H : Aside0 q) (G0 : Aside0 r0) (G1 : Aside0 r1) (G2 : Aside0 r2) (G3 : Aside0 r3) (h : q → r0 → r1 → r2 → r3 → p := by intro h_ g0_ g1_ g2_ g3_; repeat (first | (with_reducible first | exact h_ | apply IsS92.alloc | apply IsS92.drewN | apply IsS92.drew | apply IsS92.set_1 | apply IsS92.set_2 | refine IsS92.far ?_ g0_ _ | refine IsS92.far ?_ g1_ _ | refine IsS92.far ?_ g2_ _ | refine IsS92.far ?_ g3_ _) | exact h_)) : p := h H.out G0.out G1.out G2.out G3.out
theorem zr12 {p q r0 r1 r2 r3 : Prop} (H : Aside0 q) (G0 : Aside0 r0) (G1 : Aside0 r1) (G2 : Aside0 r2) (G3 : Aside0 r3) (h : q → r0 → r1 → r2 → r3 → p := by intro h_ g0_ g1_ g2_ g3_; repeat (first | (with_reducible first | exact h_ | apply below_alloc | apply pw_below_drewN | apply below_drew1 | refine below_set ?_ (IsS92.ge g0_) | refine below_set ?_ g1_ | refine below_set ?_ g2_ | refine below_set ?_ g3_) | exact h_)) : p := h H.out G0.out G1.out G2.out G3.out
theorem zr11 {p q r0 r1 r2 r3 r4 : Prop} (H : Aside0 q) (G0 : Aside0 r0) (G1 : Aside0 r1) (G2 : Aside0 r2) (G3 : Aside0 r3) (G4 : Aside0 r4) (h : q → r0 → r1 → r2 → r3 → r4 → p := by intro h_ g0_ g1_ g2_ g3_ g4_; repeat (first | (with_reducible first | exact h_ | apply below_alloc | apply pw_below_drewN | apply below_drew1 | refine below_set ?_ (Nat.le_trans g0_ g1_) | refine below_set ?_ (IsS92.ge g2_) | refine below_set ?_ g3_ | refine below_set ?_ g4_) | exact h_)) : p := h H.out G0.out G1.out G2.out G3.out G4.out
theorem zr9 {p q r0 r1 r2 : Prop} (H : Aside0 q) (G0 : Aside0 r0) (G1 : Aside0 r1) (G2 : Aside0 r2) (h : q → r0 → r1 → r2 → p := by intro h_ g0_ g1_ g2_; repeat (first | (with_reducible first | exact h_ | apply IsS92.alloc | apply IsS92.drewN | apply IsS92.drew | apply IsS92.set_1 | apply IsS92.set_2 | refine IsS92.far ?_ g0_ _ | refine IsS92.far ?_ g1_ _ | refine IsS92.far ?_ g2_ _) | exact h_)) : p := h H.out G0.out G1.out G2.out
theorem zr8 {p q r0 r1 r2 : Prop} (H : Aside0 q) (G0 : Aside0 r0) (G1 : Aside0 r1) (G2 : Aside0 r2) (h : q → r0 → r1 → r2 → p := by intro h_ g0_ g1_ g2_; repeat (first | (with_reducible first | exact h_ | apply below_alloc | apply pw_below_drewN | apply below_drew1 | refine below_set ?_ (IsS92.ge g0_) | refine below_set ?_ g1_ | refine below_set ?_ g2_) | exact h_)) : p := h H.out G0.out G1.out G2.out
theorem zr7 {p q r0 r1 : Prop} (H : Aside0 q) (G0 : Aside0 r0) (G1 : Aside0 r1) (h : q → r0 → r1 → p := by intro h_ g0_ g1_; repeat (first | (with_reducible first | exact h_ | apply IsS92.alloc | apply IsS92.drewN | apply IsS92.drew | apply IsS92.set_1 | apply IsS92.set_2 | refine IsS92.far ?_ g0_ _ | refine IsS92.far ?_ g1_ _) | exact h_)) : p := h H.out G0.out G1.out
theorem zr6 {p q r0 r1 : Prop} (H : Aside0 q) (G0 : Aside0 r0) (G1 : Aside0 r1) (h : q → r0 → r1 → p := by intro h_ g0_ g1_; repeat (first | (with_reducible first | exact h_ | apply below_alloc | apply pw_below_drewN | apply below_drew1 | refine below_set ?_ (IsS92.ge g0_) | refine below_set ?_ g1_) | exact h_)) : p := h H.out G0.out G1.out
theorem zr5 {p q r0 : Prop} (H : Aside0 q) (G0 : Aside0 r0) (h : q → r0 → p := by intro h_ g0_; repeat (first | (with_reducible first | exact h_ | apply IsS92.alloc | apply IsS92.drewN | apply IsS92.drew | apply IsS92.set_1 | apply IsS92.set_2 | refine IsS92.far ?_ g0_ _) | exact h_)) : p := h H.out G0.out
theorem zr4 {p q r0 : Prop} (H : Aside0 q) (G0 : Aside0 r0) (h : q → r0 → p := by intro h_ g0_; repeat (first | (with_reducible first | exact h_ | apply below_alloc | apply pw_below_drewN | apply below_drew1 | refine below_set ?_ (IsS92.ge g0_)) | exact h_)) : p := h H.out G0.out
theorem zr3 {p q : Prop} (H : Aside0 q) (h : q → p := by intro h_; repeat (first | (with_reducible first | exact h_ | apply IsS92.alloc | apply IsS92.drewN | apply IsS92.drew | apply IsS92.set_1 | apply IsS92.set_2) | exact h_)) : p := h H.out

end Go.Proofs.Ytdgglhfnlljmeaa.PFnMoved
