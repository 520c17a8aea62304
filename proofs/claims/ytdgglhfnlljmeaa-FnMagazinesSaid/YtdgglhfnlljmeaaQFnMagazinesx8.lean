/- Functions and contracts that FnMagazines reaches (9 of 24). -/
import Derived.Test.YtdgglhfnlljmeaaQFnMagazinesx7
namespace Go.Proofs.Ytdgglhfnlljmeaa.PFnMagazines
open Go.RowKit Go.Proofs.YtdgglhfnlljmeaaW.PrintWords Go.Proofs.YtdgglhfnlljmeaaW.PrintLast Go.Proofs.YtdgglhfnlljmeaaW.PrintMore
attribute [local go_sem] max2_int min2_int max_two min_two max_three min_three max_four min_four   -- for this text's walks alone
set_option linter.unusedVariables false
set_option linter.unusedSimpArgs false

/-! ### impl_LawfulLimit: function 32 -/
def impl_LawfulLimit.f (k : Nat) (l0 : List (S65)) (a1_0 : Int) (l1_1 : List Int) : Option (Int × Int) := (impl_IsMagazine.f k l0 a1_0 l1_1).bind fun t182 => (if t182 = true then ((impl_netIn.f k l0 a1_0 l1_1).bind fun t183 => ((impl_isMixed.f k l0 a1_0 l1_1).bind fun t184 => (if t184 = true then (some (0, 5)) else (if t183 > 1000000000 then (some (0, 5)) else (some (t183, 0)))))) else (some (0, 1)))
theorem impl_LawfulLimit.mono : ∀ a0 a1 a2 k, LeO (impl_LawfulLimit.f k a0 a1 a2) (impl_LawfulLimit.f (k + 1) a0 a1 a2) := by
 intro a0 a1 a2 k
 unfold impl_LawfulLimit.f
 repeat' first
   | (with_reducible exact impl_IsMagazine.mono _ _ _ _)
   | (with_reducible exact impl_isMixed.mono _ _ _ _)
   | (with_reducible exact impl_netIn.mono _ _ _ _)
   | (with_reducible exact LeO.refl _)
   | (with_reducible exact LeO.none _)
   | (with_reducible refine LeO.ite ?_ ?_)
   | (with_reducible refine LeO.bind ?_ (fun _ => ?_))
   | exact impl_IsMagazine.mono _ _ _ _
   | exact impl_isMixed.mono _ _ _ _
   | exact impl_netIn.mono _ _ _ _
   | exact LeO.none _
   | refine LeO.ite ?_ ?_
   | refine LeO.bind ?_ (fun _ => ?_)
set_option maxHeartbeats 8000000 in
set_option maxRecDepth 100000 in
theorem impl_LawfulLimit.calls (k : Nat) (A0 : Option Addr) (c0 : Nat) (l0 : List (S65)) (a1_0 : Int) (A1_1 : Option Addr) (c1_1 : Nat) (l1_1 : List Int) (r1 : Int) (r2 : Int) (w : World) (hr0 : Kd.C k65 w A0 l0.length l0) (hc0 : l0.length ≤ c0) (hr1_1 : Kd.C (Kd.int .i64) w A1_1 l1_1.length l1_1) (hc1_1 : l1_1.length ≤ c1_1) (h : impl_LawfulLimit.f k l0 a1_0 l1_1 = some (r1, r2)) :
  Calls Try.prog 32 #[.slice A0 l0.length c0, .agg #[.int .i64 a1_0, .slice A1_1 l1_1.length c1_1]] w fun e w' => e = .returned (.tuple #[.int .i64 r1, .int .i64 r2]) ∧ Below w.heap.size w w' := by
 have hu28 := Try.underlying28
 have HR0 := jA hr0
 have HC0 := jA hc0
 clear hr0 hc0
 have HR1_1 := jA hr1_1
 have HC1_1 := jA hc1_1
 clear hr1_1 hc1_1
 have HB := jA (Below.refl w.heap.size w)
 have H := h
 unfold impl_LawfulLimit.f at H
 clear h
 replace H := jB.mp H
 obtain ⟨t182, A30, H⟩ := H
 try dsimp only at H
 have A3 := jA A30
 clear A30
 by_cases c4 : t182 = true
 ·subst c4
  rw [if_pos rfl] at H
  replace H := jB.mp H
  obtain ⟨t183, A50, H⟩ := H
  try dsimp only at H
  have A5 := jA A50
  clear A50
  replace H := jB.mp H
  obtain ⟨t184, A60, H⟩ := H
  try dsimp only at H
  have A6 := jA A60
  clear A60
  by_cases c7 : t184 = true
  ·subst c7
   rw [if_pos rfl] at H
   simp only [jN, jO] at H
   obtain ⟨rfl, rfl⟩ := H
   go_enter Try.func32, Try.ntmps32
   go_wp2_with (first | ((with_reducible refine jL (N := 3) rfl ?_); refine zE 3 #[.int .i64 a1_0, .slice A1_1 l1_1.length c1_1] 28 ?_; intro gb181 hg w8 hbox hb; have BK181 := jA (hbox); have GW181 := zg0 hg HB; have GE181 := zg0 hg HB; replace HB := zS0 HB hb; clear hb hbox hg; have hcz9 := zc2 BK181) | ((with_reducible refine jD (f := 26) rfl ?_); refine zL (some 9) Try.func26 #[.slice A0 l0.length c0, .agg #[.int .i64 a1_0, .slice A1_1 l1_1.length c1_1]] ?_; (with_reducible refine (impl_IsMagazine.calls k _ _ l0 a1_0 _ _ l1_1 true _ ?side1 ?side2 ?side3 ?side4 A3.out).mono ?_); (case side1 => exact zs HR0 HB); (case side2 => exact HC0.out); (case side3 => exact zs HR1_1 HB); (case side4 => exact HC1_1.out); rintro e w10 ⟨rfl, hb⟩; refine ⟨_, rfl, ?_⟩; replace BK181 := zB BK181 hb; replace HB := zS1 HB GE181 hb; clear hb; have hcz11 := zc2 BK181) | ((with_reducible refine jD (f := 64) rfl ?_); refine zL (some 13) Try.func64 #[.slice A0 l0.length c0, .agg #[.int .i64 a1_0, .slice A1_1 l1_1.length c1_1]] ?_; (with_reducible refine (impl_netIn.calls k _ _ l0 a1_0 _ _ l1_1 t183 _ ?side1 ?side2 ?side3 ?side4 A5.out).mono ?_); (case side1 => exact zs HR0 HB); (case side2 => exact HC0.out); (case side3 => exact zs HR1_1 HB); (case side4 => exact HC1_1.out); rintro e w12 ⟨rfl, hb⟩; refine ⟨_, rfl, ?_⟩; replace BK181 := zB BK181 hb; replace HB := zS1 HB GE181 hb; clear hb; have hcz13 := zc2 BK181) | ((with_reducible refine jD (f := 68) rfl ?_); refine zL (some 16) Try.func68 #[.slice A0 l0.length c0, .agg #[.int .i64 a1_0, .slice A1_1 l1_1.length c1_1]] ?_; (with_reducible refine (impl_isMixed.calls k _ _ l0 a1_0 _ _ l1_1 true _ ?side1 ?side2 ?side3 ?side4 A6.out).mono ?_); (case side1 => exact zs HR0 HB); (case side2 => exact HC0.out); (case side3 => exact zs HR1_1 HB); (case side4 => exact HC1_1.out); rintro e w14 ⟨rfl, hb⟩; refine ⟨_, rfl, ?_⟩; replace BK181 := zB BK181 hb; replace HB := zS1 HB GE181 hb; clear hb))
   go_ret2
   exact ⟨ze, zb1 HB GE181⟩
  ·replace c7 := Bool.eq_false_iff.mpr c7
   subst c7
   rw [if_neg zfalse] at H
   by_cases c15 : t183 > 1000000000
   ·rw [if_pos c15] at H
    have c15b0 : decide (1000000000 < t183) = true := jJ c15
    clear c15
    simp only [jN, jO] at H
    obtain ⟨rfl, rfl⟩ := H
    go_enter Try.func32, Try.ntmps32
    go_wp2_with (first | ((with_reducible refine jL (N := 3) rfl ?_); refine zE 3 #[.int .i64 a1_0, .slice A1_1 l1_1.length c1_1] 28 ?_; intro gb181 hg w16 hbox hb; have BK181 := jA (hbox); have GW181 := zg0 hg HB; have GE181 := zg0 hg HB; replace HB := zS0 HB hb; clear hb hbox hg; have hcz17 := zc2 BK181) | ((with_reducible refine jD (f := 26) rfl ?_); refine zL (some 9) Try.func26 #[.slice A0 l0.length c0, .agg #[.int .i64 a1_0, .slice A1_1 l1_1.length c1_1]] ?_; (with_reducible refine (impl_IsMagazine.calls k _ _ l0 a1_0 _ _ l1_1 true _ ?side1 ?side2 ?side3 ?side4 A3.out).mono ?_); (case side1 => exact zs HR0 HB); (case side2 => exact HC0.out); (case side3 => exact zs HR1_1 HB); (case side4 => exact HC1_1.out); rintro e w18 ⟨rfl, hb⟩; refine ⟨_, rfl, ?_⟩; replace BK181 := zB BK181 hb; replace HB := zS1 HB GE181 hb; clear hb; have hcz19 := zc2 BK181) | ((with_reducible refine jD (f := 64) rfl ?_); refine zL (some 13) Try.func64 #[.slice A0 l0.length c0, .agg #[.int .i64 a1_0, .slice A1_1 l1_1.length c1_1]] ?_; (with_reducible refine (impl_netIn.calls k _ _ l0 a1_0 _ _ l1_1 t183 _ ?side1 ?side2 ?side3 ?side4 A5.out).mono ?_); (case side1 => exact zs HR0 HB); (case side2 => exact HC0.out); (case side3 => exact zs HR1_1 HB); (case side4 => exact HC1_1.out); rintro e w20 ⟨rfl, hb⟩; refine ⟨_, rfl, ?_⟩; replace BK181 := zB BK181 hb; replace HB := zS1 HB GE181 hb; clear hb; have hcz21 := zc2 BK181) | ((with_reducible refine jD (f := 68) rfl ?_); refine zL (some 16) Try.func68 #[.slice A0 l0.length c0, .agg #[.int .i64 a1_0, .slice A1_1 l1_1.length c1_1]] ?_; (with_reducible refine (impl_isMixed.calls k _ _ l0 a1_0 _ _ l1_1 false _ ?side1 ?side2 ?side3 ?side4 A6.out).mono ?_); (case side1 => exact zs HR0 HB); (case side2 => exact HC0.out); (case side3 => exact zs HR1_1 HB); (case side4 => exact HC1_1.out); rintro e w22 ⟨rfl, hb⟩; refine ⟨_, rfl, ?_⟩; replace BK181 := zB BK181 hb; replace HB := zS1 HB GE181 hb; clear hb))
    go_ret2
    exact ⟨ze, zb1 HB GE181⟩
   ·rw [if_neg c15] at H
    have c15b0 : decide (1000000000 < t183) = false := jQ c15
    clear c15
    simp only [jN, jO] at H
    obtain ⟨rfl, rfl⟩ := H
    go_enter Try.func32, Try.ntmps32
    go_wp2_with (first | ((with_reducible refine jL (N := 3) rfl ?_); refine zE 3 #[.int .i64 a1_0, .slice A1_1 l1_1.length c1_1] 28 ?_; intro gb181 hg w23 hbox hb; have BK181 := jA (hbox); have GW181 := zg0 hg HB; have GE181 := zg0 hg HB; replace HB := zS0 HB hb; clear hb hbox hg; have hcz24 := zc2 BK181) | ((with_reducible refine jD (f := 26) rfl ?_); refine zL (some 9) Try.func26 #[.slice A0 l0.length c0, .agg #[.int .i64 a1_0, .slice A1_1 l1_1.length c1_1]] ?_; (with_reducible refine (impl_IsMagazine.calls k _ _ l0 a1_0 _ _ l1_1 true _ ?side1 ?side2 ?side3 ?side4 A3.out).mono ?_); (case side1 => exact zs HR0 HB); (case side2 => exact HC0.out); (case side3 => exact zs HR1_1 HB); (case side4 => exact HC1_1.out); rintro e w25 ⟨rfl, hb⟩; refine ⟨_, rfl, ?_⟩; replace BK181 := zB BK181 hb; replace HB := zS1 HB GE181 hb; clear hb; have hcz26 := zc2 BK181) | ((with_reducible refine jD (f := 64) rfl ?_); refine zL (some 13) Try.func64 #[.slice A0 l0.length c0, .agg #[.int .i64 a1_0, .slice A1_1 l1_1.length c1_1]] ?_; (with_reducible refine (impl_netIn.calls k _ _ l0 a1_0 _ _ l1_1 t183 _ ?side1 ?side2 ?side3 ?side4 A5.out).mono ?_); (case side1 => exact zs HR0 HB); (case side2 => exact HC0.out); (case side3 => exact zs HR1_1 HB); (case side4 => exact HC1_1.out); rintro e w27 ⟨rfl, hb⟩; refine ⟨_, rfl, ?_⟩; replace BK181 := zB BK181 hb; replace HB := zS1 HB GE181 hb; clear hb; have hcz28 := zc2 BK181) | ((with_reducible refine jD (f := 68) rfl ?_); refine zL (some 16) Try.func68 #[.slice A0 l0.length c0, .agg #[.int .i64 a1_0, .slice A1_1 l1_1.length c1_1]] ?_; (with_reducible refine (impl_isMixed.calls k _ _ l0 a1_0 _ _ l1_1 false _ ?side1 ?side2 ?side3 ?side4 A6.out).mono ?_); (case side1 => exact zs HR0 HB); (case side2 => exact HC0.out); (case side3 => exact zs HR1_1 HB); (case side4 => exact HC1_1.out); rintro e w29 ⟨rfl, hb⟩; refine ⟨_, rfl, ?_⟩; replace BK181 := zB BK181 hb; replace HB := zS1 HB GE181 hb; clear hb))
    go_ret2
    exact ⟨ze, zb1 HB GE181⟩
 ·replace c4 := Bool.eq_false_iff.mpr c4
  subst c4
  rw [if_neg zfalse] at H
  simp only [jN, jO] at H
  obtain ⟨rfl, rfl⟩ := H
  go_enter Try.func32, Try.ntmps32
  go_wp2_with (first | ((with_reducible refine jL (N := 3) rfl ?_); refine zE 3 #[.int .i64 a1_0, .slice A1_1 l1_1.length c1_1] 28 ?_; intro gb181 hg w30 hbox hb; have BK181 := jA (hbox); have GW181 := zg0 hg HB; have GE181 := zg0 hg HB; replace HB := zS0 HB hb; clear hb hbox hg; have hcz31 := zc2 BK181) | ((with_reducible refine jD (f := 26) rfl ?_); refine zL (some 9) Try.func26 #[.slice A0 l0.length c0, .agg #[.int .i64 a1_0, .slice A1_1 l1_1.length c1_1]] ?_; (with_reducible refine (impl_IsMagazine.calls k _ _ l0 a1_0 _ _ l1_1 false _ ?side1 ?side2 ?side3 ?side4 A3.out).mono ?_); (case side1 => exact zs HR0 HB); (case side2 => exact HC0.out); (case side3 => exact zs HR1_1 HB); (case side4 => exact HC1_1.out); rintro e w32 ⟨rfl, hb⟩; refine ⟨_, rfl, ?_⟩; replace BK181 := zB BK181 hb; replace HB := zS1 HB GE181 hb; clear hb))
  go_ret2
  exact ⟨ze, zb1 HB GE181⟩

/-! ### impl_articleOf: function 70 -/
def impl_articleOf.l0 : Nat → ByteArray → List (S65) → Int → Int → Option (Int)
 | 0, _, _, _, _ => none
 | k + 1, x1, x7, x8, x9 => if x9 < x8 then (if 0 ≤ x9 then (if x9 < (x7.length : Int) then (if ((rd_T65 x7 x9).f0).toList = x1.toList then (some x9) else (impl_articleOf.l0 k x1 x7 x8 (wrap64 (x9 + 1)))) else (none)) else (none)) else (some (-1))
def impl_articleOf.f (k : Nat) (l0 : List (S65)) (a1 : ByteArray) : Option (Int) := impl_articleOf.l0 k a1 l0 (l0.length : Int) 0
theorem impl_articleOf.mono_l : ∀ k, (∀ y0 y1 y2 y3, LeO (impl_articleOf.l0 k y0 y1 y2 y3) (impl_articleOf.l0 (k + 1) y0 y1 y2 y3))
 | 0 => fun _ _ _ _ r h => by simp [impl_articleOf.l0] at h
 | k + 1 => by
  have ih0 := impl_articleOf.mono_l k
  ·intro y0 y1 y2 y3
   unfold impl_articleOf.l0
   repeat' first
   | (with_reducible exact ih0 _ _ _ _)
   | (with_reducible exact LeO.refl _)
   | (with_reducible exact LeO.none _)
   | (with_reducible refine LeO.ite ?_ ?_)
   | (with_reducible refine LeO.bind ?_ (fun _ => ?_))
   | exact ih0 _ _ _ _
   | exact LeO.none _
   | refine LeO.ite ?_ ?_
   | refine LeO.bind ?_ (fun _ => ?_)
theorem impl_articleOf.mono : ∀ a0 a1 k, LeO (impl_articleOf.f k a0 a1) (impl_articleOf.f (k + 1) a0 a1) := by
 intro a0 a1 k
 have ih0 := impl_articleOf.mono_l k
 unfold impl_articleOf.f
 repeat' first
   | (with_reducible exact ih0 _ _ _ _)
   | (with_reducible exact LeO.refl _)
   | (with_reducible exact LeO.none _)
   | (with_reducible refine LeO.ite ?_ ?_)
   | (with_reducible refine LeO.bind ?_ (fun _ => ?_))
   | exact ih0 _ _ _ _
   | exact LeO.none _
   | refine LeO.ite ?_ ?_
   | refine LeO.bind ?_ (fun _ => ?_)
set_option maxHeartbeats 8000000 in
set_option maxRecDepth 100000 in
theorem impl_articleOf.calls (k : Nat) (A0 : Option Addr) (c0 : Nat) (l0 : List (S65)) (a1 : ByteArray) (r : Int) (w : World) (hr0 : Kd.C k65 w A0 l0.length l0) (hc0 : l0.length ≤ c0) (h : impl_articleOf.f k l0 a1 = some r) :
  Calls Try.prog 70 #[.slice A0 l0.length c0, .string a1] w fun e w' => e = .returned (.int .i64 r) ∧ Below w.heap.size w w' := by
 have hu65 := Try.underlying65
 have HR0 := jA hr0
 have HC0 := jA hc0
 clear hr0 hc0
 have HB := jA (Below.refl w.heap.size w)
 have H : (impl_articleOf.l0 k a1 l0 (l0.length : Int) 0) = some r := h
 clear h
 have H' := jA H
 clear H
 go_enter Try.func70, Try.ntmps70
 go_wp2
 go_loopg [9] k (fun kq v9 w' => ∃ (x9_1 : Int), v9 = .int .i64 x9_1 ∧ Aside0 (impl_articleOf.l0 kq a1 l0 (l0.length : Int) x9_1 = some r) ∧ Aside0 (kq ≤ k) ∧ Aside0 (Below w.heap.size w w'))
 case atStart => exact ⟨(0), zz, H', ⟨Nat.le_refl _⟩, ⟨zb0 HB⟩⟩
 case round =>
  clear H'
  try clear p2
  obtain ⟨x9_1, rfl, HA, HK1, HB⟩ := hrel
  cases gk with
  | zero => exact absurd HA.out (by simp [impl_articleOf.l0])
  | succ k1 =>
   have H := HA.out
   clear HA
   simp only [impl_articleOf.l0] at H
   by_cases c3 : x9_1 < (l0.length : Int)
   ·rw [if_pos c3] at H
    have c3b0 : decide (x9_1 < (l0.length : Int)) = true := jJ c3
    clear c3
    by_cases c4 : 0 ≤ x9_1
    ·rw [if_pos c4] at H
     have c4b0 : decide (0 ≤ x9_1) = true := jJ c4
     clear c4
     by_cases c5 : x9_1 < (l0.length : Int)
     ·rw [if_pos c5] at H
      have c5b0 : decide (x9_1 < (l0.length : Int)) = true := jJ c5
      clear c5
      by_cases c6 : ((rd_T65 l0 x9_1).f0).toList = a1.toList
      ·rw [if_pos c6] at H
       have c6b0 : (((rd_T65 l0 x9_1).f0).toList == a1.toList) = true := beq_iff_eq.mpr c6
       have c6b1 : (((rd_T65 l0 x9_1).f0).toList != a1.toList) = false := bne_eq_false_iff_eq.mpr c6
       clear c6
       obtain rfl := jK H
       have p185 : 0 ≤ (x9_1 : Int) := jC za
       have q185 : x9_1 < (l0.length : Int) := jC za
       obtain ⟨ad185, e185, hx185_0, hx185_1, hx185_2, hx185_3, hx185_4, hx185_5, hx185_6, hx185_7, hx185_8⟩ := at_T65 HR0.out x9_1 p185 q185
       cases e185
       replace hx185_0 := zx HB hx185_0
       replace hx185_1 := zx HB hx185_1
       replace hx185_2 := zx HB hx185_2
       replace hx185_3 := zx HB hx185_3
       replace hx185_4 := zx HB hx185_4
       replace hx185_5 := zx HB hx185_5
       replace hx185_6 := zx HB hx185_6
       replace hx185_7 := zx HB hx185_7
       replace hx185_8 := zx HB hx185_8
       replace p185 := eq_true p185
       replace q185 := eq_true q185
       go_wp2_with (first | ((with_reducible refine jL (N := 6) rfl ?_); refine zE 6 #[.string (⟨#[]⟩ : ByteArray), .int .i64 0, .int .i64 0, .int .i64 0, .int .i64 0, .int .i64 0, .int .i64 0, .int .i64 0, .int .i64 0] 65 ?_; intro gb186 hg w7 hbox hb; have BK186 := jA (hbox); have GW186 := zg0 hg HB; have GE186 := zg0 hg HB; replace HB := zS0 HB hb; clear hb hbox hg; have hcz8 := zc9 BK186))
       go_ret
       exact ⟨ze, zb1 HB GE186⟩
      ·rw [if_neg c6] at H
       have c6b0 : (((rd_T65 l0 x9_1).f0).toList == a1.toList) = false := beq_eq_false_iff_ne.mpr c6
       have c6b1 : (((rd_T65 l0 x9_1).f0).toList != a1.toList) = true := bne_iff_ne.mpr c6
       have H' := jA H
       clear H
       have p185 : 0 ≤ (x9_1 : Int) := jC za
       have q185 : x9_1 < (l0.length : Int) := jC za
       obtain ⟨ad185, e185, hx185_0, hx185_1, hx185_2, hx185_3, hx185_4, hx185_5, hx185_6, hx185_7, hx185_8⟩ := at_T65 HR0.out x9_1 p185 q185
       cases e185
       replace hx185_0 := zx HB hx185_0
       replace hx185_1 := zx HB hx185_1
       replace hx185_2 := zx HB hx185_2
       replace hx185_3 := zx HB hx185_3
       replace hx185_4 := zx HB hx185_4
       replace hx185_5 := zx HB hx185_5
       replace hx185_6 := zx HB hx185_6
       replace hx185_7 := zx HB hx185_7
       replace hx185_8 := zx HB hx185_8
       replace p185 := eq_true p185
       replace q185 := eq_true q185
       go_wp2_with (first | ((with_reducible refine jL (N := 6) rfl ?_); refine zE 6 #[.string (⟨#[]⟩ : ByteArray), .int .i64 0, .int .i64 0, .int .i64 0, .int .i64 0, .int .i64 0, .int .i64 0, .int .i64 0, .int .i64 0] 65 ?_; intro gb186 hg w9 hbox hb; have BK186 := jA (hbox); have GW186 := zg0 hg HB; have GE186 := zg0 hg HB; replace HB := zS0 HB hb; clear hb hbox hg; have hcz10 := zc9 BK186))
       go_roundg k1
       case measure => have := HK1.out; omega
       case rel => exact ⟨(wrap64 (x9_1 + 1)), zz, H', ⟨by have := HK1.out; omega⟩, ⟨zb1 HB GE186⟩⟩
     ·rw [if_neg c5] at H
      exact absurd H (by simp)
    ·rw [if_neg c4] at H
     exact absurd H (by simp)
   ·rw [if_neg c3] at H
    have c3b0 : decide (x9_1 < (l0.length : Int)) = false := jQ c3
    clear c3
    obtain rfl := jK H
    go_wp2
    go_ret
    exact ⟨ze, zb0 HB⟩

/-! ### impl_copyList: function 87 -/
def impl_copyList.f (l0 : List Int) : Option (List Int) := (some (([] : List Int) : List Int)).bind fun y187 => (if y187.length + l0.length < 17592186044416 then (some (y187 ++ l0)) else (none))
set_option maxHeartbeats 8000000 in
set_option maxRecDepth 100000 in
theorem impl_copyList.calls (A0 : Option Addr) (c0 : Nat) (l0 : List Int) (r : List Int) (w : World) (hr0 : Kd.C (Kd.int .i64) w A0 l0.length l0) (hc0 : l0.length ≤ c0) (h : impl_copyList.f l0 = some r) :
  Calls Try.prog 87 #[.slice A0 l0.length c0] w fun e w' => ∃ v0_ : Value, e = .returned (v0_) ∧ Kd.R (Kd.int .i64) 2 w' w.heap.size (fun _ => True) v0_ r ∧ Below w.heap.size w w' := by
 have HR0 := jA hr0
 have HC0 := jA hc0
 clear hr0 hc0
 have HB := jA (Below.refl w.heap.size w)
 have H := h
 unfold impl_copyList.f at H
 clear h
 obtain ⟨y187, hy187⟩ : ∃ y_ : List Int, y_ = (([] : List Int)) := ⟨_, rfl⟩
 replace H : (if y187.length + l0.length < 17592186044416 then (some (y187 ++ l0)) else (none)) = some r := by first | (rw [hy187]; with_reducible exact H) | (have H2_ := (Option.bind_some _ _).symm.trans H; rw [hy187]; with_reducible exact H2_) | (have H2_ := (Option.bind_some _ _).symm.trans H; with_reducible exact H2_) | with_reducible exact H | (rw [hy187]; exact H) | exact H
 have Ny187 := jA hy187
 clear hy187
 by_cases c2 : y187.length + l0.length < 17592186044416
 ·rw [if_pos c2] at H
  have LMc2 := jA c2
  clear c2
  obtain ⟨y190, hy190⟩ : ∃ y_ : List Int, y_ = (y187 ++ l0) := ⟨_, rfl⟩
  replace H : (some y190) = some r := by first | (rw [hy190]; with_reducible exact H) | (have H2_ := (Option.bind_some _ _).symm.trans H; rw [hy190]; with_reducible exact H2_) | (have H2_ := (Option.bind_some _ _).symm.trans H; with_reducible exact H2_) | with_reducible exact H | (rw [hy190]; exact H) | exact H
  have Ny190 := jA hy190
  clear hy190
  obtain rfl := jK H
  go_enter Try.func87, Try.ntmps87
  go_wp2_with (first | ((with_reducible refine jL (N := 3) rfl ?_); refine Kd.R_lit (Kd.int .i64) _ 2 ?hg (N := 3) ?hd (xs := ([] : List Int)) (inner := []) (ok := fun _ => True) (okp := fun _ => True) ?hr ?hp (fun _ hk => hk) trivial (Below.refl _ _) (Nat.le_refl _) (by simp) ?_; (case hd => rfl); (case hg => rfl); (case hr => first | (go_simp; done) | (go_simp; rfl)); (case hp => exact (Reps.none _ _)); intro v188 w3 ho4 hb hg_ hnew_; clear hg_ hnew_; (first | rw [← Ny187.out] at ho4 | (simp only [Int.reduceToNat] at ho4; rw [← Ny187.out] at ho4)); have HO189 := jA (jU ho4 (jW (zb0 HB))); replace HB := zS0 HB hb; clear hb ho4) | ((with_reducible refine gate_builtin (b := .append) (xs := #[.tmp 3, .tmp 4]) rfl ?_); at_builtin; refine Kd.R_append_rows (Kd.int .i64) (w0 := w) w.heap.size rfl (.tmp 3) (.tmp 4) 23 2 (.int .i64 0) 8 rfl Try.underlying23 info2 rfl (by decide) (by omega) v188 y187 l0 _ _ _ (fun _ => True) (fun _ => False) rfl rfl ?aO ?aR (fun _ _ h => h) (fun _ h => h.elim) ?aF ?aB ?aS ?aL ?_; (case aR => repeat (first | exact HR0.out | exact (Kd.C_below HR0.out HB.out) | (with_reducible refine Kd.C_alloc ?_ _) | (with_reducible refine Kd.C_drewN ?_ _) | (with_reducible refine Kd.C_drew ?_))); (case aB => exact (zb0 HB)); (case aF => exact (fun _ _ => trivial)); (case aO => exact (zo HO189)); (case aS => exact (jW (zb0 HB))); (case aL => have := LMc2.out; omega); intro v191 w5 ho hb hg hat; rw [← Ny190.out] at ho; replace HB := jA (hb); have HO192 := jA (ho); clear HO189; clear ho hb hg hat))
  go_ret
  exact ⟨_, ze, zo HO192, zb0 HB⟩
 ·rw [if_neg c2] at H
  exact absurd H (by simp)

/-! ### impl_withPieces: function 74 -/
def impl_withPieces.f (a0_0 : Int) (l0_1 : List Int) (a1 : Int) (a2 : Int) : Option (Int × List Int) := (impl_copyList.f l0_1).bind fun t195 => (if 0 ≤ a1 then (if a1 < (t195.length : Int) then (some (a0_0, (t195.set (a1 : Int).toNat (wrap64 ((rd t195 a1) + a2))))) else (none)) else (none))
def impl_withPieces.T1 : Bool × List (List Nat × List Nat) := (true, [([], []), ([0], [0]), ([], []), ([2], [2]), ([3], [3]), ([1, 4], [1, 4]), ([], []), ([6, 5, 4, 0, 1, 2, 3, 4, 5, 6], [5, 6])])
def impl_withPieces.B1 : List Nat := [0, 1, 0, 4, 12, 31, 0, 127]
theorem impl_withPieces.tab1 : rtab .any (opsOf Try.f74 1) = impl_withPieces.T1 := by kernel_rfl
theorem impl_withPieces.bits1 : waitsOk impl_withPieces.T1.2 impl_withPieces.B1 = true := by kernel_rfl
set_option maxHeartbeats 8000000 in
set_option maxRecDepth 100000 in
theorem impl_withPieces.calls (a0_0 : Int) (A0_1 : Option Addr) (c0_1 : Nat) (l0_1 : List Int) (a1 : Int) (a2 : Int) (r1 : Int) (r2 : List Int) (w : World) (hr0_1 : Kd.C (Kd.int .i64) w A0_1 l0_1.length l0_1) (hc0_1 : l0_1.length ≤ c0_1) (h : impl_withPieces.f a0_0 l0_1 a1 a2 = some (r1, r2)) :
  Calls Try.prog 74 #[.agg #[.int .i64 a0_0, .slice A0_1 l0_1.length c0_1], .int .i64 a1, .int .i64 a2] w fun e w' => ∃ v1_ : Value, e = .returned (.agg #[.int .i64 r1, v1_]) ∧ Kd.R (Kd.int .i64) 2 w' w.heap.size (fun _ => True) v1_ r2 ∧ Below w.heap.size w w' := by
 have hu28 := Try.underlying28
 have HR0_1 := jA hr0_1
 have HC0_1 := jA hc0_1
 clear hr0_1 hc0_1
 have HB := jA (Below.refl w.heap.size w)
 have H := h
 unfold impl_withPieces.f at H
 clear h
 replace H := jB.mp H
 obtain ⟨t195, A40, H⟩ := H
 try dsimp only at H
 have A4 := jA A40
 clear A40
 by_cases c5 : 0 ≤ a1
 ·rw [if_pos c5] at H
  have c5b0 : decide (0 ≤ a1) = true := jJ c5
  clear c5
  by_cases c6 : a1 < (t195.length : Int)
  ·rw [if_pos c6] at H
   have c6b0 : decide (a1 < (t195.length : Int)) = true := jJ c6
   clear c6
   obtain ⟨y200, hy200⟩ : ∃ y_ : List Int, y_ = (t195.set (a1 : Int).toNat (wrap64 ((rd t195 a1) + a2))) := ⟨_, rfl⟩
   replace H : (some (a0_0, y200)) = some (r1, r2) := by first | (rw [hy200]; with_reducible exact H) | (have H2_ := (Option.bind_some _ _).symm.trans H; rw [hy200]; with_reducible exact H2_) | (have H2_ := (Option.bind_some _ _).symm.trans H; with_reducible exact H2_) | with_reducible exact H | (rw [hy200]; exact H) | exact H
   have Ny200 := jA hy200
   clear hy200
   simp only [jN, jO] at H
   obtain ⟨rfl, rfl⟩ := H
   go_enter Try.func74, Try.ntmps74
   try go_wp2_with (first | ((with_reducible refine jL (N := 3) rfl ?_); refine zE 3 #[.int .i64 a0_0, .slice A0_1 l0_1.length c0_1] 28 ?_; intro gb193 hg w8 hbox hb; have BK193 := jA (hbox); have GW193 := zg0 hg HB; have GE193 := zg0 hg HB; replace HB := zS0 HB hb; clear hb hbox hg) | ((with_reducible refine jL (N := 6) rfl ?_); refine zE 6 #[.int .i64 0, .slice none 0 0] 28 ?_; intro gb194 hg w9 hbox hb; have BK194 := jA (hbox); have GW194 := zg1 hg HB GE193; have GE194 := zg1 hg HB GE193; replace HB := zS1 HB GE193 hb; have NB193_194 := zn hg BK193; replace BK193 := zB BK193 hb; have NB194_193 := jA NB193_194.out.symm; clear hb hbox hg))
   replace BK193 := jA (blk_drew BK193.out)
   replace BK194 := jA (blk_drew BK194.out)
   replace HB := jA (below_drew1 HB.out)
   refine start_ (n := 8) (S := fun w' => w'.cell? ⟨gb193, 0, none⟩ = some (.int .i64 a0_0) ∧ w'.cell? ⟨gb193, 1, none⟩ = some (.slice A0_1 l0_1.length c0_1)) (ds := []) m8_0 zr rfl rfl ⟨(jG BK193.out 0).trans rfl, (jG BK193.out 1).trans rfl⟩ (fun hHeld => ?_); refine with_tabW impl_withPieces.tab1 impl_withPieces.bits1 (fun HT_ HW_ => ?_)
   generalize w9.drew = w10 at BK193 BK194 HB hHeld ⊢
   refine zp HT_ 0 8 m8_80 ?_
   refine zp HT_ 2 10 m8_a0 ?_
   refine zt2 HT_ HW_ hHeld 1 9 m8_e0 ?_
   refine zt2 HT_ HW_ hHeld 3 11 m8_f0 ?_
   refine join_ (σ := Value × Nat) 1 m8_fe (fun s_ => [(12, s_.1), (7, .pointer (some ⟨s_.2, 0, none⟩)), (13, .agg #[.int .i64 a0_0, s_.1])]) (fun s_ w' => (w'.cell? ⟨gb193, 0, none⟩ = some (.int .i64 a0_0) ∧ w'.cell? ⟨gb193, 1, none⟩ = some (.slice A0_1 l0_1.length c0_1)) ∧ (Kd.R (Kd.int .i64) 2 w' w.heap.size (fun _ => True) s_.1 t195) ∧ (w'.heap[gb193]? = some (.cells #[.int .i64 a0_0, .slice A0_1 l0_1.length c0_1] 28 (0, 0))) ∧ (w'.heap[gb194]? = some (.cells #[.int .i64 0, .slice none 0 0] 28 (0, 0))) ∧ (w'.heap[s_.2]? = some (.cells #[.int .i64 0, .slice none 0 0] 28 (0, 0))) ∧ (w.heap.size ≤ s_.2) ∧ (w.heap.size ≤ s_.2) ∧ (gb193 ≠ s_.2) ∧ (s_.2 ≠ gb193) ∧ (gb194 ≠ s_.2) ∧ (s_.2 ≠ gb194) ∧ (Below w.heap.size w w')) ?_ ?_
   rotate_left
   ·intro hCont
    refine two_ (i := 4) (j := 6) (Ni := some 12) (Nj := some 7) m8_f8 m8_f2 rfl rfl rfl rfl (two_of HT_.out zr) (by decide) (by decide) (fun K hK => ?_) (fun K hK => ?_)
    ·skip
     refine goes_ Try.func87 zr rfl #[.slice A0_1 l0_1.length c0_1] (by rfl) rfl rfl zm ?_
     with_reducible refine (impl_copyList.calls _ _ l0_1 t195 _ ?side1 ?side2 A4.out).mono ?_
     (case side1 => exact zs HR0_1 HB)
     (case side2 => exact HC0_1.out)
     rintro e w11 ⟨v196, rfl, ho0, hb⟩
     refine ⟨_, rfl, ?_⟩
     have HO197 := jA (jU ho0 (jW (zb2 HB GE193 GE194)))
     replace BK193 := zB BK193 hb
     replace BK194 := zB BK194 hb
     replace HB := zS2 HB GE193 GE194 hb
     (try clear hb)
     (try clear hb2)
     (try clear hk)
     (try clear hi)
     (try clear ho0)
     obtain ⟨Ao12, co12, eo12⟩ := Kd.R_slice HO197.out
     (first | subst eo12 | (injection eo12 with f1_ f2_ f3_; have f4_ := f1_.symm; have f5_ := f3_.symm; clear f1_ f2_ f3_; subst f4_; subst f5_))
     refine hK.out _ _ ⟨(jG BK193.out 0).trans rfl, (jG BK193.out 1).trans rfl⟩ (fun hHeld => ?_)
     clear hK K
     refine norm_ (a' := ?_) ?_ ?_
     rotate_left
     ·show Act.put _ (some 12) _ = _
      simp only [Act.put, jE, jH, jI, i64_w, i32_w]
      rfl
     refine zp HT_ 5 13 m8_fc ?_
     refine one_ (i := 6) (N := some 7) m8_fe rfl rfl (one_of HT_.out zr) (by decide) (fun K hK => ?_)
     refine box_step ?hg (N := 7) ?hd (cs := #[.int .i64 0, .slice none 0 0]) (t := 28) ?hr ?_; (case hd => rfl); (case hg => rfl); (case hr => first | (go_simp; done) | (go_simp; rfl))
     intro gb198 hg w13 hbox hb
     replace HO197 := jA (jF (zo HO197) hb)
     have BK198 := jA (hbox)
     have GW198 := zg2 hg HB GE193 GE194
     have GE198 := zg2 hg HB GE193 GE194
     replace HB := zS2 HB GE193 GE194 hb
     have NB193_198 := zn hg BK193
     have NB198_193 := zN hg BK193
     replace BK193 := zB BK193 hb
     have NB194_198 := zn hg BK194
     have NB198_194 := zN hg BK194
     replace BK194 := zB BK194 hb
     clear hb hbox hg
     refine hK.out _ _ ⟨(jG BK193.out 0).trans rfl, (jG BK193.out 1).trans rfl⟩ (fun hHeld => ?_)
     clear hK K
     refine norm_ (a' := ?_) ?_ ?_
     rotate_left
     ·show Act.put _ (some 7) _ = _
      simp only [Act.put, jE, jH, jI, i64_w, i32_w]
      rfl
     exact norm_ (by simp only [putAll, Act.put, jE, jH, jI]) (hCont (.slice Ao12 t195.length co12, gb198) _ ⟨hHeld, (zo HO197), (zk BK193), (zk BK194), (zk BK198), GW198.out, GE198.out, NB193_198.out, NB198_193.out, NB194_198.out, NB198_194.out, (zb3 HB GE193 GE194 GE198)⟩)
    ·skip
     refine box_step ?hg (N := 7) ?hd (cs := #[.int .i64 0, .slice none 0 0]) (t := 28) ?hr ?_; (case hd => rfl); (case hg => rfl); (case hr => first | (go_simp; done) | (go_simp; rfl))
     intro gb198 hg w11 hbox hb
     have BK198 := jA (hbox)
     have GW198 := zg2 hg HB GE193 GE194
     have GE198 := zg2 hg HB GE193 GE194
     replace HB := zS2 HB GE193 GE194 hb
     have NB193_198 := zn hg BK193
     have NB198_193 := zN hg BK193
     replace BK193 := zB BK193 hb
     have NB194_198 := zn hg BK194
     have NB198_194 := zN hg BK194
     replace BK194 := zB BK194 hb
     clear hb hbox hg
     refine hK.out _ _ ⟨(jG BK193.out 0).trans rfl, (jG BK193.out 1).trans rfl⟩ (fun hHeld => ?_)
     clear hK K
     refine norm_ (a' := ?_) ?_ ?_
     rotate_left
     ·show Act.put _ (some 7) _ = _
      simp only [Act.put, jE, jH, jI, i64_w, i32_w]
      rfl
     refine one_ (i := 4) (N := some 12) m8_fa rfl rfl (one_of HT_.out zr) (by decide) (fun K hK => ?_)
     refine goes_ Try.func87 zr rfl #[.slice A0_1 l0_1.length c0_1] (by rfl) rfl rfl zm ?_
     with_reducible refine (impl_copyList.calls _ _ l0_1 t195 _ ?side1 ?side2 A4.out).mono ?_
     (case side1 => exact zs HR0_1 HB)
     (case side2 => exact HC0_1.out)
     rintro e w12 ⟨v196, rfl, ho0, hb⟩
     refine ⟨_, rfl, ?_⟩
     have HO197 := jA (jU ho0 (jW (zb3 HB GE193 GE194 GE198)))
     replace BK193 := zB BK193 hb
     replace BK194 := zB BK194 hb
     replace BK198 := zB BK198 hb
     replace HB := zS3 HB GE193 GE194 GE198 hb
     (try clear hb)
     (try clear hb2)
     (try clear hk)
     (try clear hi)
     (try clear ho0)
     obtain ⟨Ao13, co13, eo13⟩ := Kd.R_slice HO197.out
     (first | subst eo13 | (injection eo13 with f1_ f2_ f3_; have f4_ := f1_.symm; have f5_ := f3_.symm; clear f1_ f2_ f3_; subst f4_; subst f5_))
     refine hK.out _ _ ⟨(jG BK193.out 0).trans rfl, (jG BK193.out 1).trans rfl⟩ (fun hHeld => ?_)
     clear hK K
     refine norm_ (a' := ?_) ?_ ?_
     rotate_left
     ·show Act.put _ (some 12) _ = _
      simp only [Act.put, jE, jH, jI, i64_w, i32_w]
      rfl
     refine zp HT_ 5 13 m8_fe ?_
     exact norm_ (by simp only [putAll, Act.put, jE, jH, jI]) (hCont (.slice Ao13 t195.length co13, gb198) _ ⟨hHeld, (zo HO197), (zk BK193), (zk BK194), (zk BK198), GW198.out, GE198.out, NB193_198.out, NB198_193.out, NB194_198.out, NB198_194.out, (zb3 HB GE193 GE194 GE198)⟩)
   rintro ⟨v196, gb198⟩ w14 ⟨hS_, h0_, h1_, h2_, h3_, h4_, h5_, h6_, h7_, h8_, h9_, h10_⟩
   have HO197 : Aside0 (Kd.R (Kd.int .i64) 2 w14 w.heap.size (fun _ => True) v196 t195) := ⟨h0_⟩
   replace BK193 : Aside0 (w14.heap[gb193]? = some (.cells #[.int .i64 a0_0, .slice A0_1 l0_1.length c0_1] 28 (0, 0))) := ⟨h1_⟩
   replace BK194 : Aside0 (w14.heap[gb194]? = some (.cells #[.int .i64 0, .slice none 0 0] 28 (0, 0))) := ⟨h2_⟩
   have BK198 : Aside0 (w14.heap[gb198]? = some (.cells #[.int .i64 0, .slice none 0 0] 28 (0, 0))) := ⟨h3_⟩
   have GW198 : Aside0 (w.heap.size ≤ gb198) := ⟨h4_⟩
   have GE198 : Aside0 (w.heap.size ≤ gb198) := ⟨h5_⟩
   have NB193_198 : Aside0 (gb193 ≠ gb198) := ⟨h6_⟩
   have NB198_193 : Aside0 (gb198 ≠ gb193) := ⟨h7_⟩
   have NB194_198 : Aside0 (gb194 ≠ gb198) := ⟨h8_⟩
   have NB198_194 : Aside0 (gb198 ≠ gb194) := ⟨h9_⟩
   replace HB : Aside0 (Below w.heap.size w w14) := ⟨h10_⟩
   clear h0_ h1_ h2_ h3_ h4_ h5_ h6_ h7_ h8_ h9_ h10_
   have hHeld : w14.cell? ⟨gb193, 0, none⟩ = some (.int .i64 a0_0) ∧ w14.cell? ⟨gb193, 1, none⟩ = some (.slice A0_1 l0_1.length c0_1) := hS_
   obtain ⟨Ao15, co15, eo15⟩ := Kd.R_slice HO197.out
   (first | subst eo15 | (injection eo15 with f1_ f2_ f3_; have f4_ := f1_.symm; have f5_ := f3_.symm; clear f1_ f2_ f3_; subst f4_; subst f5_))
   refine norm_ (a' := ?_) ?_ ?_
   rotate_left
   ·simp only [putAll, Act.put, jE, jH, jI]
    rfl
   refine one_ (i := 7) (N := none) m8_ff rfl rfl (one_of HT_.out zr) (by decide) (fun K hK => ?_)
   have hs16 : w14.cell? ⟨gb198, 0, none⟩ = some (.int .i64 0) := (jG BK198.out 0).trans rfl
   have hfs16 := blk_frozen BK198.out 0
   have hns16_0 := NB193_198.out
   have hns16_1 := NB194_198.out
   have hms16_0 := NB198_193.out
   have hms16_1 := NB198_194.out
   have hs17 : w14.cell? ⟨gb198, 1, none⟩ = some (.slice none 0 0) := (jG BK198.out 1).trans rfl
   have hfs17 := blk_frozen BK198.out 1
   have hns17_0 := NB193_198.out
   have hns17_1 := NB194_198.out
   have hms17_0 := NB198_193.out
   have hms17_1 := NB198_194.out
   refine skip_ (w1 := ?_) (by rfl) rfl ?_ ?_
   rotate_left
   ·go_simp
    rfl
   refine hK.out _ _ ⟨((jP (p := ⟨gb198, _, none⟩) NB193_198.out _).trans (((jP (p := ⟨gb198, _, none⟩) NB193_198.out _).trans (hHeld.1)))), ((jP (p := ⟨gb198, _, none⟩) NB193_198.out _).trans (((jP (p := ⟨gb198, _, none⟩) NB193_198.out _).trans (hHeld.2))))⟩ (fun hHeld => ?_)
   clear hK K
   refine done_ (done_of HT_.out zr) ?_
   have n0_ : Aside0 (Kd.R (Kd.int .i64) 2 ((w14.setCell ⟨gb198, 0, none⟩ (.int .i64 a0_0)).setCell ⟨gb198, 1, none⟩ (.slice Ao15 t195.length co15)) w.heap.size (fun _ => True) (.slice Ao15 t195.length co15) t195) := ⟨zT HO197 BK198⟩
   have n1_ : Aside0 (((w14.setCell ⟨gb198, 0, none⟩ (.int .i64 a0_0)).setCell ⟨gb198, 1, none⟩ (.slice Ao15 t195.length co15)).heap[gb193]? = some (.cells #[.int .i64 a0_0, .slice A0_1 l0_1.length c0_1] 28 (0, 0))) := ⟨zQ1 BK193 NB193_198⟩
   have n2_ : Aside0 (((w14.setCell ⟨gb198, 0, none⟩ (.int .i64 a0_0)).setCell ⟨gb198, 1, none⟩ (.slice Ao15 t195.length co15)).heap[gb194]? = some (.cells #[.int .i64 0, .slice none 0 0] 28 (0, 0))) := ⟨zQ1 BK194 NB194_198⟩
   have n3_ : Aside0 (((w14.setCell ⟨gb198, 0, none⟩ (.int .i64 a0_0)).setCell ⟨gb198, 1, none⟩ (.slice Ao15 t195.length co15)).heap[gb198]? = some (.cells #[.int .i64 a0_0, .slice Ao15 t195.length co15] 28 (0, 0))) := ⟨zP0 BK198⟩
   have n4_ : Aside0 (Below w.heap.size w ((w14.setCell ⟨gb198, 0, none⟩ (.int .i64 a0_0)).setCell ⟨gb198, 1, none⟩ (.slice Ao15 t195.length co15))) := ⟨zb3 HB GE193 GE194 GE198⟩
   (try clear HO197)
   (try clear BK193)
   (try clear BK194)
   (try clear BK198)
   (try clear HB)
   generalize ((w14.setCell ⟨gb198, 0, none⟩ (.int .i64 a0_0)).setCell ⟨gb198, 1, none⟩ (.slice Ao15 t195.length co15)) = w18 at n0_ n1_ n2_ n3_ n4_ ⊢
   have HO197 := n0_
   have BK193 := n1_
   have BK194 := n2_
   have BK198 := n3_
   have HB := n4_
   clear n0_ n1_ n2_ n3_ n4_
   have hnb19 := NB198_193.out
   have hnc19 := NB193_198.out
   have hnb20 := NB198_194.out
   have hnc20 := NB194_198.out
   have hcz21 := zc2 BK198
   have p199 : 0 ≤ (a1 : Int) := jC za
   have q199 : a1 < (t195.length : Int) := jC za
   obtain ⟨ad199, e199, hx199_0⟩ := Kd.at_int (jM HO197.out).2.2 a1 p199 q199
   cases e199
   replace p199 := eq_true p199
   replace q199 := eq_true q199
   have p7 : 0 ≤ (a1 : Int) := jC za
   have q7 : (a1 : Int) < ((t195.length : Int) : Int) := jC za
   obtain ⟨go7, co7, eo7, gb7, gl7, cl7, HG7⟩ := Kd.R_form HO197.out (by omega)
   (first | cases eo7 | (injection eo7 with ea_ en_ ec_; (first | subst ea_ | (injection ea_ with ea_; subst ea_)); subst ec_; clear en_))
   have GB7 := jA gb7
   have GG7 := jA HG7
   clear gb7 gl7 HG7
   (first | simp only [add_plain] at hx199_0 | skip)
   obtain ⟨hx7_0, hf7_0⟩ := Kd.R_celln 0 HO197.out (a1 : Int) p7 q7
   replace p7 := eq_true p7
   replace q7 := eq_true q7
   obtain ⟨hy22_, hz22_⟩ := Kd.R_celln 0 HO197.out (a1 : Int) (jC za) (jC za)
   have HP22 := Kd.R_putg HO197.out (a1 : Int) (wrap64 ((rd t195 a1) + a2))
   try go_wp2_with (first | ((with_reducible refine gate_store (t := 2) (p := 21) rfl ?_); refine store_event (t := 2) (p := 21) (v := ?vo_w23) (w1 := (w18.setCell ⟨go7, (a1 : Int).toNat, none⟩ (.int .i64 (wrap64 ((rd t195 a1) + a2))))) ?hg ?ho ?hn ?hr ?_; (case ho => rfl); (case hg => rfl); (case hn => rfl); (case hr => first | (go_simp; done) | (go_simp; rfl)); intro w23 hw; have hg : w18.grownBy w23 (some go7) := (by rw [hw]; exact HP22.2); have hp_ : Kd.R (Kd.int .i64) 2 w23 w.heap.size (fun _ => True) (.slice (some ⟨go7, 0, none⟩) t195.length co15) y200 := (by rw [hw, Ny200.out]; exact HP22.1); clear HP22; replace BK193 := jA (blk_grown (g := gb193) (o := .cells #[.int .i64 a0_0, .slice A0_1 l0_1.length c0_1] 28 (0, 0)) (zk BK193) hg (Kd.R_ne HO197.out BK193.out (by decide))); replace BK194 := jA (blk_grown (g := gb194) (o := .cells #[.int .i64 0, .slice none 0 0] 28 (0, 0)) (zk BK194) hg (Kd.R_ne HO197.out BK194.out (by decide))); replace BK198 := jA (blk_grown (g := gb198) (o := .cells #[.int .i64 a0_0, .slice (some ⟨go7, 0, none⟩) t195.length co15] 28 (0, 0)) (zk BK198) hg (Kd.R_ne HO197.out BK198.out (by decide))); replace HO197 := jA (hp_); replace HB := jA ((by rw [hw]; exact below_set (HB.out) GB7.out : Below w.heap.size w w23)); clear hg hw hp_; have hcz24 := zc2 BK198; have hnb25 := NB194_193.out; have hnc25 := NB193_194.out; have hcz26 := zc2 BK194))
   refine jX (results_cell_row rfl _ _ gb194 28 #[.int .i64 a0_0, .slice (some ⟨go7, 0, none⟩) t195.length co15] (0, 0) _ rfl (zP0 BK194) Try.underlying28 rfl zr) rfl ?_
   exact ⟨_, ze, zT HO197 BK194, zb3 HB GE193 GE194 GE198⟩
  ·rw [if_neg c6] at H
   exact absurd H (by simp)
 ·rw [if_neg c5] at H
  exact absurd H (by simp)

end Go.Proofs.Ytdgglhfnlljmeaa.PFnMagazines
