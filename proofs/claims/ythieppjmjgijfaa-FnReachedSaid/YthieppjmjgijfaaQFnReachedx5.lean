/- Functions and contracts that FnReached reaches (6 of 22). -/
import Derived.Test.YthieppjmjgijfaaQFnReachedx4
namespace Go.Proofs.Ythieppjmjgijfaa.PFnReached
open Go.RowKit Go.Proofs.YthieppjmjgijfaaW.PrintWords Go.Proofs.YthieppjmjgijfaaW.PrintLast Go.Proofs.YthieppjmjgijfaaW.PrintMore
attribute [local go_sem] max2_int min2_int max_two min_two max_three min_three max_four min_four   -- for this text's walks alone
set_option linter.unusedVariables false
set_option linter.unusedSimpArgs false

/-! ### impl_reachedFrom: function 66 -/
def impl_reachedFrom.l0 : Nat → List Int → List Bool → Int → Int → Option (List Int)
 | 0, _, _, _, _ => none
 | k + 1, x5, x16, x17, x18 => if x18 < x17 then (if 0 ≤ x18 then (if x18 < (x16.length : Int) then (if rdOf false x16 x18 = true then (if x5.length < 17592186044416 then (impl_reachedFrom.l0 k (x5 ++ [x18]) x16 x17 (wrap64 (x18 + 1))) else (none)) else (impl_reachedFrom.l0 k x5 x16 x17 (wrap64 (x18 + 1)))) else (none)) else (none)) else (some x5)
def impl_reachedFrom.f (k : Nat) (a0_0 : Bool) (a0_1 : Bool) (a0_2 : Bool) (a0_3 : Bool) (a0_4 : Bool) (a0_5 : Int) (l1 : List Int) : Option (List Int) := (impl_shortest.f k a0_0 a0_1 a0_2 a0_3 a0_4 a0_5 l1).bind fun bt244 => (impl_reachedFrom.l0 k ([] : List Int) bt244.2 (bt244.2.length : Int) 0)
theorem impl_reachedFrom.mono_l : ∀ k, (∀ y0 y1 y2 y3, LeO (impl_reachedFrom.l0 k y0 y1 y2 y3) (impl_reachedFrom.l0 (k + 1) y0 y1 y2 y3))
 | 0 => fun _ _ _ _ r h => by simp [impl_reachedFrom.l0] at h
 | k + 1 => by
  have ih0 := impl_reachedFrom.mono_l k
  ·intro y0 y1 y2 y3
   unfold impl_reachedFrom.l0
   repeat' first
   | (with_reducible exact ih0 _ _ _ _)
   | (with_reducible exact impl_shortest.mono _ _ _ _ _ _ _ _)
   | (with_reducible exact LeO.refl _)
   | (with_reducible exact LeO.none _)
   | (with_reducible refine LeO.ite ?_ ?_)
   | (with_reducible refine LeO.bind ?_ (fun _ => ?_))
   | exact ih0 _ _ _ _
   | exact impl_shortest.mono _ _ _ _ _ _ _ _
   | exact LeO.none _
   | refine LeO.ite ?_ ?_
   | refine LeO.bind ?_ (fun _ => ?_)
theorem impl_reachedFrom.mono : ∀ a0 a1 a2 a3 a4 a5 a6 k, LeO (impl_reachedFrom.f k a0 a1 a2 a3 a4 a5 a6) (impl_reachedFrom.f (k + 1) a0 a1 a2 a3 a4 a5 a6) := by
 intro a0 a1 a2 a3 a4 a5 a6 k
 have ih0 := impl_reachedFrom.mono_l k
 unfold impl_reachedFrom.f
 repeat' first
   | (with_reducible exact ih0 _ _ _ _)
   | (with_reducible exact impl_shortest.mono _ _ _ _ _ _ _ _)
   | (with_reducible exact LeO.refl _)
   | (with_reducible exact LeO.none _)
   | (with_reducible refine LeO.ite ?_ ?_)
   | (with_reducible refine LeO.bind ?_ (fun _ => ?_))
   | exact ih0 _ _ _ _
   | exact impl_shortest.mono _ _ _ _ _ _ _ _
   | exact LeO.none _
   | refine LeO.ite ?_ ?_
   | refine LeO.bind ?_ (fun _ => ?_)
set_option maxHeartbeats 8000000 in
set_option maxRecDepth 100000 in
theorem impl_reachedFrom.calls (k : Nat) (a0_0 : Bool) (a0_1 : Bool) (a0_2 : Bool) (a0_3 : Bool) (a0_4 : Bool) (a0_5 : Int) (A1 : Option Addr) (c1 : Nat) (l1 : List Int) (r : List Int) (w : World) (hr1 : Kd.C (Kd.int .i64) w A1 l1.length l1) (hc1 : l1.length ≤ c1) (h : impl_reachedFrom.f k a0_0 a0_1 a0_2 a0_3 a0_4 a0_5 l1 = some r) :
  Calls Try.prog 66 #[.agg #[.bool a0_0, .bool a0_1, .bool a0_2, .bool a0_3, .bool a0_4, .int .i64 a0_5], .slice A1 l1.length c1] w fun e w' => ∃ v0_ : Value, e = .returned (v0_) ∧ Kd.R (Kd.int .i64) 2 w' w.heap.size (fun _ => True) v0_ r ∧ Below w.heap.size w w' := by
 have hu23 := Try.underlying23
 have HR1 := jA hr1
 have HC1 := jA hc1
 clear hr1 hc1
 have HB := jA (Below.refl w.heap.size w)
 have H := h
 unfold impl_reachedFrom.f at H
 clear h
 replace H := jD.mp H
 obtain ⟨⟨t244, t247⟩, A30, H⟩ := H
 try dsimp only at H
 have A3 := jA A30
 clear A30
 have H' := jA H
 clear H
 go_enter Try.func66, Try.ntmps66
 go_wp2_with (first | ((with_reducible refine jK (N := 2) rfl ?_); refine zE 2 #[.bool a0_0, .bool a0_1, .bool a0_2, .bool a0_3, .bool a0_4, .int .i64 a0_5] 23 ?_; intro gb243 hg w4 hbox hb; have BK243 := jA (hbox); have GW243 := zg0 hg HB; have GE243 := zg0 hg HB; replace HB := zS0 HB hb; clear hb hbox hg; have hcz5 := zc6 BK243) | ((with_reducible refine jH (f := 69) rfl ?_); refine zL (some 13) Try.func69 #[.agg #[.bool a0_0, .bool a0_1, .bool a0_2, .bool a0_3, .bool a0_4, .int .i64 a0_5], .slice A1 l1.length c1] ?_; (with_reducible refine (impl_shortest.calls k a0_0 a0_1 a0_2 a0_3 a0_4 a0_5 _ _ l1 t244 t247 _ ?side1 ?side2 A3.out).mono ?_); (case side1 => exact zs HR1 HB); (case side2 => exact HC1.out); rintro e w6 ⟨v245, v248, rfl, ho0, ho1, hb⟩; refine ⟨_, rfl, ?_⟩; have HO246 := jA (Kd.S_lower ho0 (jP (zb1 HB GE243))); have HO249 := jA (jZ ho1 (jP (zb1 HB GE243))); replace BK243 := zB BK243 hb; replace HB := zS1 HB GE243 hb; (try clear hb); (try clear hb2); (try clear hk); (try clear hi); (try clear ho0); (try clear ho1); obtain ⟨Ao7, co7, eo7⟩ := Kd.R_slice HO249.out; subst eo7))
 go_loopg [5, 18] k (fun kq v5 v18 w' => ∃ (x5_1 : List Int) (x18_1 : Int), v18 = .int .i64 x18_1 ∧ Aside0 (impl_reachedFrom.l0 kq x5_1 t247 (t247.length : Int) x18_1 = some r) ∧ Aside0 (kq ≤ k) ∧ Aside0 (Kd.R (Kd.int .i64) 2 w' w.heap.size (fun _ => True) v5 x5_1) ∧ Aside0 (Kd.R Kd.bool 4 w' w.heap.size (fun _ => True) (.slice Ao7 t247.length co7) t247) ∧ Aside0 (w'.heap[gb243]? = some (.cells #[.bool a0_0, .bool a0_1, .bool a0_2, .bool a0_3, .bool a0_4, .int .i64 a0_5] 23 (0, 0))) ∧ Aside0 (Below w.heap.size w w'))
 case atStart => exact ⟨(([] : List Int)), (0), zz, H', ⟨Nat.le_refl _⟩, ⟨by first | exact Kd.R_nil _ _ _ _ _ | exact Kd.N_nil _ _ _ _ _ | exact Kd.V_nil _ _ _ _ _ | exact Kd.Q_nil _ _ _ _ _ | exact Kd.S_nil _ _ _ _ _⟩, ⟨zo HO249⟩, ⟨zk BK243⟩, ⟨zb1 HB GE243⟩⟩
 case round =>
  clear H'
  try clear c1
  try clear p2
  try clear c6
  try clear hcz5
  obtain ⟨x5_1, x18_1, rfl, HA, HK1, HO_5, HO_16, BK243, HB⟩ := hrel
  cases gk with
  | zero => exact absurd HA.out (by simp [impl_reachedFrom.l0])
  | succ k1 =>
   have H := HA.out
   clear HA
   simp only [impl_reachedFrom.l0] at H
   by_cases c8 : x18_1 < (t247.length : Int)
   ·rw [if_pos c8] at H
    have c8b0 : decide (x18_1 < (t247.length : Int)) = true := jJ c8
    clear c8
    by_cases c9 : 0 ≤ x18_1
    ·rw [if_pos c9] at H
     have c9b0 : decide (0 ≤ x18_1) = true := jJ c9
     clear c9
     by_cases c10 : x18_1 < (t247.length : Int)
     ·rw [if_pos c10] at H
      have c10b0 : decide (x18_1 < (t247.length : Int)) = true := jJ c10
      clear c10
      obtain ⟨bq11, hbq11⟩ : ∃ b_ : Bool, b_ = (rdOf false t247 x18_1) := ⟨_, rfl⟩
      replace H : (if bq11 = true then (if x5_1.length < 17592186044416 then (impl_reachedFrom.l0 k1 (x5_1 ++ [x18_1]) t247 (t247.length : Int) (wrap64 (x18_1 + 1))) else (none)) else (impl_reachedFrom.l0 k1 x5_1 t247 (t247.length : Int) (wrap64 (x18_1 + 1)))) = some r := by rw [← hbq11] at H; exact H
      have Nbq11 := jA hbq11
      clear hbq11
      by_cases c12 : bq11 = true
      ·subst c12
       rw [if_pos rfl] at H
       by_cases c13 : x5_1.length < 17592186044416
       ·rw [if_pos c13] at H
        have LMc13 := jA c13
        clear c13
        obtain ⟨y251, hy251⟩ : ∃ y_ : List Int, y_ = (x5_1 ++ [x18_1]) := ⟨_, rfl⟩
        replace H : (impl_reachedFrom.l0 k1 y251 t247 (t247.length : Int) (wrap64 (x18_1 + 1))) = some r := by first | (rw [hy251]; with_reducible exact H) | (have H2_ := (Option.bind_some _ _).symm.trans H; rw [hy251]; with_reducible exact H2_) | (have H2_ := (Option.bind_some _ _).symm.trans H; with_reducible exact H2_) | with_reducible exact H | (rw [hy251]; exact H) | exact H
        have Ny251 := jA hy251
        clear hy251
        have H' := jA H
        clear H
        have p250 : 0 ≤ (x18_1 : Int) := jB za
        have q250 : x18_1 < (t247.length : Int) := jB za
        obtain ⟨ad250, e250, hx250_0⟩ := Kd.at_bool (jO HO_16.out).2.2 x18_1 p250 q250
        (try rw [← Nbq11.out] at hx250_0)
        cases e250
        replace p250 := eq_true p250
        replace q250 := eq_true q250
        go_wp2_with (first | ((with_reducible refine gate_builtin (b := .append) (xs := #[.tmp 24, .tmp 26]) rfl ?_); at_builtin; refine Kd.R_append (Kd.int .i64) (w0 := w) w.heap.size rfl (.tmp 24) (.tmp 26) 35 2 (.int .i64 0) 8 rfl Try.underlying35 info2 rfl (by decide) (by omega) u5 x5_1 x18_1 [.int .i64 x18_1] (fun _ => True) (fun _ => False) rfl rfl ?aP (fun _ hk => hk.elim) ?aF ?aO ?aB ?aS ?aL ?_; (case aP => exact rfl); (case aB => exact (zb1 HB GE243)); (case aF => exact (fun _ _ => trivial)); (case aO => exact (zo HO_5)); (case aS => exact (jP (zb1 HB GE243))); (case aL => have := LMc13.out; omega); intro v252 w14 ho hb hg hat; rw [← Ny251.out] at ho; replace HO_16 := jA (Kd.R_over' (zo HO_16) (Kd.R_typed (zo HO_5)) (by decide) hg); replace BK243 := jA (blk_grown (g := gb243) (o := .cells #[.bool a0_0, .bool a0_1, .bool a0_2, .bool a0_3, .bool a0_4, .int .i64 a0_5] 23 (0, 0)) (zk BK243) hg (Kd.R_ne HO_5.out BK243.out (by decide))); replace HB := jA (hb); have HO253 := jA (ho); clear HO_5; clear ho hb hg hat))
        go_roundg k1
        case measure => have := HK1.out; omega
        case rel => exact ⟨(y251), (wrap64 (x18_1 + 1)), zz, H', ⟨by have := HK1.out; omega⟩, ⟨zo HO253⟩, ⟨zo HO_16⟩, ⟨zk BK243⟩, ⟨zb1 HB GE243⟩⟩
       ·rw [if_neg c13] at H
        exact absurd H (by simp)
      ·replace c12 := Bool.eq_false_iff.mpr c12
       subst c12
       rw [if_neg zfalse] at H
       have H' := jA H
       clear H
       have p250 : 0 ≤ (x18_1 : Int) := jB za
       have q250 : x18_1 < (t247.length : Int) := jB za
       obtain ⟨ad250, e250, hx250_0⟩ := Kd.at_bool (jO HO_16.out).2.2 x18_1 p250 q250
       (try rw [← Nbq11.out] at hx250_0)
       cases e250
       replace p250 := eq_true p250
       replace q250 := eq_true q250
       go_wp2
       go_roundg k1
       case measure => have := HK1.out; omega
       case rel => exact ⟨(x5_1), (wrap64 (x18_1 + 1)), zz, H', ⟨by have := HK1.out; omega⟩, ⟨zo HO_5⟩, ⟨zo HO_16⟩, ⟨zk BK243⟩, ⟨zb1 HB GE243⟩⟩
     ·rw [if_neg c10] at H
      exact absurd H (by simp)
    ·rw [if_neg c9] at H
     exact absurd H (by simp)
   ·rw [if_neg c8] at H
    have c8b0 : decide (x18_1 < (t247.length : Int)) = false := jW c8
    clear c8
    obtain rfl := jN H
    go_wp2
    go_ret
    exact ⟨_, ze, zo HO_5, zb1 HB GE243⟩

/-! ### impl_ReachedFrom: function 30 -/
def impl_ReachedFrom.f (k : Nat) (a0_0 : Bool) (a0_1 : Bool) (a0_2 : Bool) (a0_3 : Bool) (a0_4 : Bool) (a0_5 : Int) (l1 : List Int) : Option (List Int × Int) := (impl_IsSound.f a0_0 a0_1 a0_2 a0_3 a0_4 a0_5).bind fun t255 => (if t255 = true then ((impl_isHand.f k l1).bind fun t256 => (if t256 = true then ((impl_reachedFrom.f k a0_0 a0_1 a0_2 a0_3 a0_4 a0_5 l1).bind fun t257 => (some (t257, 0))) else (some (([] : List Int), 1)))) else (some (([] : List Int), 1)))
theorem impl_ReachedFrom.mono : ∀ a0 a1 a2 a3 a4 a5 a6 k, LeO (impl_ReachedFrom.f k a0 a1 a2 a3 a4 a5 a6) (impl_ReachedFrom.f (k + 1) a0 a1 a2 a3 a4 a5 a6) := by
 intro a0 a1 a2 a3 a4 a5 a6 k
 unfold impl_ReachedFrom.f
 repeat' first
   | (with_reducible exact impl_isHand.mono _ _)
   | (with_reducible exact impl_reachedFrom.mono _ _ _ _ _ _ _ _)
   | (with_reducible exact LeO.refl _)
   | (with_reducible exact LeO.none _)
   | (with_reducible refine LeO.ite ?_ ?_)
   | (with_reducible refine LeO.bind ?_ (fun _ => ?_))
   | exact impl_isHand.mono _ _
   | exact impl_reachedFrom.mono _ _ _ _ _ _ _ _
   | exact LeO.none _
   | refine LeO.ite ?_ ?_
   | refine LeO.bind ?_ (fun _ => ?_)
set_option maxHeartbeats 8000000 in
set_option maxRecDepth 100000 in
theorem impl_ReachedFrom.calls (k : Nat) (a0_0 : Bool) (a0_1 : Bool) (a0_2 : Bool) (a0_3 : Bool) (a0_4 : Bool) (a0_5 : Int) (A1 : Option Addr) (c1 : Nat) (l1 : List Int) (r1 : List Int) (r2 : Int) (w : World) (hr1 : Kd.C (Kd.int .i64) w A1 l1.length l1) (hc1 : l1.length ≤ c1) (h : impl_ReachedFrom.f k a0_0 a0_1 a0_2 a0_3 a0_4 a0_5 l1 = some (r1, r2)) :
  Calls Try.prog 30 #[.agg #[.bool a0_0, .bool a0_1, .bool a0_2, .bool a0_3, .bool a0_4, .int .i64 a0_5], .slice A1 l1.length c1] w fun e w' => ∃ v0_ : Value, e = .returned (.tuple #[v0_, .int .i64 r2]) ∧ Kd.R (Kd.int .i64) 2 w' w.heap.size (fun _ => True) v0_ r1 ∧ Below w.heap.size w w' := by
 have hu23 := Try.underlying23
 have HR1 := jA hr1
 have HC1 := jA hc1
 clear hr1 hc1
 have HB := jA (Below.refl w.heap.size w)
 have H := h
 unfold impl_ReachedFrom.f at H
 clear h
 replace H := jD.mp H
 obtain ⟨t255, A30, H⟩ := H
 try dsimp only at H
 have A3 := jA A30
 clear A30
 by_cases c4 : t255 = true
 ·subst c4
  rw [if_pos rfl] at H
  replace H := jD.mp H
  obtain ⟨t256, A50, H⟩ := H
  try dsimp only at H
  have A5 := jA A50
  clear A50
  by_cases c6 : t256 = true
  ·subst c6
   rw [if_pos rfl] at H
   replace H := jD.mp H
   obtain ⟨t257, A70, H⟩ := H
   replace H : (some (t257, 0)) = some (r1, r2) := H
   have A7 := jA A70
   clear A70
   simp only [jI, jM] at H
   obtain ⟨rfl, rfl⟩ := H
   go_enter Try.func30, Try.ntmps30
   go_wp2_with (first | ((with_reducible refine jK (N := 2) rfl ?_); refine zE 2 #[.bool a0_0, .bool a0_1, .bool a0_2, .bool a0_3, .bool a0_4, .int .i64 a0_5] 23 ?_; intro gb254 hg w8 hbox hb; have BK254 := jA (hbox); have GW254 := zg0 hg HB; have GE254 := zg0 hg HB; replace HB := zS0 HB hb; clear hb hbox hg; have hcz9 := zc6 BK254) | ((with_reducible refine jH (f := 27) rfl ?_); refine zL (some 7) Try.func27 #[.agg #[.bool a0_0, .bool a0_1, .bool a0_2, .bool a0_3, .bool a0_4, .int .i64 a0_5]] ?_; (with_reducible refine (impl_IsSound.calls a0_0 a0_1 a0_2 a0_3 a0_4 a0_5 true _ A3.out).mono ?_); rintro e w10 ⟨rfl, hb⟩; refine ⟨_, rfl, ?_⟩; replace BK254 := zB BK254 hb; replace HB := zS1 HB GE254 hb; clear hb) | (go_at_call 56; (with_reducible refine (impl_isHand.calls k _ _ l1 true _ ?side1 ?side2 A5.out).mono ?_); (case side1 => exact zs HR1 HB); (case side2 => exact HC1.out); rintro e w' ⟨rfl, ⟨nd, rfl⟩⟩; have hcz11 := zc6 BK254) | ((with_reducible refine jH (f := 66) rfl ?_); refine zL (some 16) Try.func66 #[.agg #[.bool a0_0, .bool a0_1, .bool a0_2, .bool a0_3, .bool a0_4, .int .i64 a0_5], .slice A1 l1.length c1] ?_; (with_reducible refine (impl_reachedFrom.calls k a0_0 a0_1 a0_2 a0_3 a0_4 a0_5 _ _ l1 t257 _ ?side1 ?side2 A7.out).mono ?_); (case side1 => repeat (first | exact HR1.out | exact (Kd.C_below HR1.out (zb1 HB GE254)) | (with_reducible refine Kd.C_alloc ?_ _) | (with_reducible refine Kd.C_drewN ?_ _) | (with_reducible refine Kd.C_drew ?_))); (case side2 => exact HC1.out); rintro e w12 ⟨v258, rfl, ho0, hb⟩; refine ⟨_, rfl, ?_⟩; have HO259 := jA (jZ ho0 (jP (zb1 HB GE254))); replace BK254 := zB BK254 hb; replace HB := zS1 HB GE254 hb; (try clear hb); (try clear hb2); (try clear hk); (try clear hi); (try clear ho0)))
   go_ret2
   exact ⟨_, ze, zo HO259, zb1 HB GE254⟩
  ·replace c6 := Bool.eq_false_iff.mpr c6
   subst c6
   rw [if_neg zfalse] at H
   simp only [jI, jM] at H
   obtain ⟨rfl, rfl⟩ := H
   go_enter Try.func30, Try.ntmps30
   go_wp2_with (first | ((with_reducible refine jK (N := 2) rfl ?_); refine zE 2 #[.bool a0_0, .bool a0_1, .bool a0_2, .bool a0_3, .bool a0_4, .int .i64 a0_5] 23 ?_; intro gb254 hg w13 hbox hb; have BK254 := jA (hbox); have GW254 := zg0 hg HB; have GE254 := zg0 hg HB; replace HB := zS0 HB hb; clear hb hbox hg; have hcz14 := zc6 BK254) | ((with_reducible refine jH (f := 27) rfl ?_); refine zL (some 7) Try.func27 #[.agg #[.bool a0_0, .bool a0_1, .bool a0_2, .bool a0_3, .bool a0_4, .int .i64 a0_5]] ?_; (with_reducible refine (impl_IsSound.calls a0_0 a0_1 a0_2 a0_3 a0_4 a0_5 true _ A3.out).mono ?_); rintro e w15 ⟨rfl, hb⟩; refine ⟨_, rfl, ?_⟩; replace BK254 := zB BK254 hb; replace HB := zS1 HB GE254 hb; clear hb) | (go_at_call 56; (with_reducible refine (impl_isHand.calls k _ _ l1 false _ ?side1 ?side2 A5.out).mono ?_); (case side1 => exact zs HR1 HB); (case side2 => exact HC1.out); rintro e w' ⟨rfl, ⟨nd, rfl⟩⟩))
   go_ret2
   exact ⟨_, ze, by first | exact Kd.R_nil _ _ _ _ _ | exact Kd.N_nil _ _ _ _ _ | exact Kd.V_nil _ _ _ _ _ | exact Kd.Q_nil _ _ _ _ _ | exact Kd.S_nil _ _ _ _ _, zb1 HB GE254⟩
 ·replace c4 := Bool.eq_false_iff.mpr c4
  subst c4
  rw [if_neg zfalse] at H
  simp only [jI, jM] at H
  obtain ⟨rfl, rfl⟩ := H
  go_enter Try.func30, Try.ntmps30
  go_wp2_with (first | ((with_reducible refine jK (N := 2) rfl ?_); refine zE 2 #[.bool a0_0, .bool a0_1, .bool a0_2, .bool a0_3, .bool a0_4, .int .i64 a0_5] 23 ?_; intro gb254 hg w16 hbox hb; have BK254 := jA (hbox); have GW254 := zg0 hg HB; have GE254 := zg0 hg HB; replace HB := zS0 HB hb; clear hb hbox hg; have hcz17 := zc6 BK254) | ((with_reducible refine jH (f := 27) rfl ?_); refine zL (some 7) Try.func27 #[.agg #[.bool a0_0, .bool a0_1, .bool a0_2, .bool a0_3, .bool a0_4, .int .i64 a0_5]] ?_; (with_reducible refine (impl_IsSound.calls a0_0 a0_1 a0_2 a0_3 a0_4 a0_5 false _ A3.out).mono ?_); rintro e w18 ⟨rfl, hb⟩; refine ⟨_, rfl, ?_⟩; replace BK254 := zB BK254 hb; replace HB := zS1 HB GE254 hb; clear hb))
  go_ret2
  exact ⟨_, ze, by first | exact Kd.R_nil _ _ _ _ _ | exact Kd.N_nil _ _ _ _ _ | exact Kd.V_nil _ _ _ _ _ | exact Kd.Q_nil _ _ _ _ _ | exact Kd.S_nil _ _ _ _ _, zb1 HB GE254⟩

/-! ### laws_hasInt: function 31 -/
def laws_hasInt.l0 : Nat → List Int → Int → Int → Option (Bool)
 | 0, _, _, _ => none
 | k + 1, x0, x1, x5 => if x5 < (x0.length : Int) then (if 0 ≤ x5 then (if (rd x0 x5) = x1 then (some true) else (laws_hasInt.l0 k x0 x1 (wrap64 (x5 + 1)))) else (none)) else (some false)
def laws_hasInt.f (k : Nat) (l0 : List Int) (a1 : Int) : Option (Bool) := laws_hasInt.l0 k l0 a1 0
theorem laws_hasInt.mono_l : ∀ k, (∀ y0 y1 y2, LeO (laws_hasInt.l0 k y0 y1 y2) (laws_hasInt.l0 (k + 1) y0 y1 y2))
 | 0 => fun _ _ _ r h => by simp [laws_hasInt.l0] at h
 | k + 1 => by
  have ih0 := laws_hasInt.mono_l k
  ·intro y0 y1 y2
   unfold laws_hasInt.l0
   repeat' first
   | (with_reducible exact ih0 _ _ _)
   | (with_reducible exact LeO.refl _)
   | (with_reducible exact LeO.none _)
   | (with_reducible refine LeO.ite ?_ ?_)
   | (with_reducible refine LeO.bind ?_ (fun _ => ?_))
   | exact ih0 _ _ _
   | exact LeO.none _
   | refine LeO.ite ?_ ?_
   | refine LeO.bind ?_ (fun _ => ?_)
theorem laws_hasInt.mono : ∀ a0 a1 k, LeO (laws_hasInt.f k a0 a1) (laws_hasInt.f (k + 1) a0 a1) := by
 intro a0 a1 k
 have ih0 := laws_hasInt.mono_l k
 unfold laws_hasInt.f
 repeat' first
   | (with_reducible exact ih0 _ _ _)
   | (with_reducible exact LeO.refl _)
   | (with_reducible exact LeO.none _)
   | (with_reducible refine LeO.ite ?_ ?_)
   | (with_reducible refine LeO.bind ?_ (fun _ => ?_))
   | exact ih0 _ _ _
   | exact LeO.none _
   | refine LeO.ite ?_ ?_
   | refine LeO.bind ?_ (fun _ => ?_)
set_option maxHeartbeats 8000000 in
set_option maxRecDepth 100000 in
theorem laws_hasInt.calls (k : Nat) (A0 : Option Addr) (c0 : Nat) (l0 : List Int) (a1 : Int) (r : Bool) (w : World) (hr0 : Kd.C (Kd.int .i64) w A0 l0.length l0) (hc0 : l0.length ≤ c0) (h : laws_hasInt.f k l0 a1 = some r) :
  Calls Try.prog 31 #[.slice A0 l0.length c0, .int .i64 a1] w fun e w' => e = .returned (.bool r) ∧ Drawn0 w w' := by
 have HR0 := jA hr0
 have HC0 := jA hc0
 clear hr0 hc0
 have H : (laws_hasInt.l0 k l0 a1 0) = some r := h
 clear h
 have H' := jA H
 clear H
 go_enter Try.func31, Try.ntmps31
 go_wp2
 go_loopg [5] k (fun kq v5 w' => ∃ (x5_1 : Int), v5 = .int .i64 x5_1 ∧ Aside0 (laws_hasInt.l0 kq l0 a1 x5_1 = some r) ∧ Aside0 (kq ≤ k) ∧ Drawn0 w w')
 case atStart => exact ⟨(0), zz, H', ⟨Nat.le_refl _⟩, by repeat (first | exact Drawn0.refl _ | apply Drawn0.step)⟩
 case round =>
  clear H'
  try clear p2
  obtain ⟨x5_1, rfl, HA, HK1, ⟨m1, rfl⟩⟩ := hrel
  cases gk with
  | zero => exact absurd HA.out (by simp [laws_hasInt.l0])
  | succ k1 =>
   have H := HA.out
   clear HA
   simp only [laws_hasInt.l0] at H
   by_cases c3 : x5_1 < (l0.length : Int)
   ·rw [if_pos c3] at H
    have c3b0 : decide (x5_1 < (l0.length : Int)) = true := jJ c3
    clear c3
    by_cases c4 : 0 ≤ x5_1
    ·rw [if_pos c4] at H
     have c4b0 : decide (0 ≤ x5_1) = true := jJ c4
     clear c4
     by_cases c5 : (rd l0 x5_1) = a1
     ·rw [if_pos c5] at H
      have c5b0 : ((rd l0 x5_1) == a1) = true := beq_iff_eq.mpr c5
      have c5b1 : ((rd l0 x5_1) != a1) = false := bne_eq_false_iff_eq.mpr c5
      clear c5
      obtain rfl := jN H
      have p260 : 0 ≤ (x5_1 : Int) := jB za
      have q260 : x5_1 < (l0.length : Int) := jB za
      obtain ⟨ad260, e260, hx260_0⟩ := jR HR0.out x5_1 p260 q260
      cases e260
      replace p260 := eq_true p260
      replace q260 := eq_true q260
      go_wp2
      go_ret
      exact ⟨by first | rfl | (simp; done) | (simp [*]; done), by repeat (first | exact Drawn0.refl _ | apply Drawn0.step)⟩
     ·rw [if_neg c5] at H
      have c5b0 : ((rd l0 x5_1) == a1) = false := beq_eq_false_iff_ne.mpr c5
      have c5b1 : ((rd l0 x5_1) != a1) = true := bne_iff_ne.mpr c5
      have H' := jA H
      clear H
      have p260 : 0 ≤ (x5_1 : Int) := jB za
      have q260 : x5_1 < (l0.length : Int) := jB za
      obtain ⟨ad260, e260, hx260_0⟩ := jR HR0.out x5_1 p260 q260
      cases e260
      replace p260 := eq_true p260
      replace q260 := eq_true q260
      go_wp2
      go_roundg k1
      case measure => have := HK1.out; omega
      case rel => exact ⟨(wrap64 (x5_1 + 1)), zz, H', ⟨by have := HK1.out; omega⟩, by repeat (first | exact Drawn0.refl _ | apply Drawn0.step)⟩
    ·rw [if_neg c4] at H
     exact absurd H (by simp)
   ·rw [if_neg c3] at H
    have c3b0 : decide (x5_1 < (l0.length : Int)) = false := jW c3
    clear c3
    obtain rfl := jN H
    go_wp2
    go_ret
    exact ⟨by first | rfl | (simp; done) | (simp [*]; done), by repeat (first | exact Drawn0.refl _ | apply Drawn0.step)⟩

/-! ### impl_GiveInput: function 32 -/
def impl_GiveInput.f (a0_0 : Bool) (a0_1 : Bool) (a0_2 : Bool) (a0_3 : Bool) (a0_4 : Bool) (a0_5 : Int) (a1 : Int) : Option (Bool × Bool × Bool × Bool × Bool × Int × Int) := (impl_IsSound.f a0_0 a0_1 a0_2 a0_3 a0_4 a0_5).bind fun t263 => (if t263 = true then ((impl_giveInput.f a0_0 a0_1 a0_2 a0_3 a0_4 a0_5 a1).bind fun bt264 => (some (bt264.1, bt264.2.1, bt264.2.2.1, bt264.2.2.2.1, bt264.2.2.2.2.1, bt264.2.2.2.2.2.1, bt264.2.2.2.2.2.2))) else (some (false, false, false, false, false, 0, 1)))
set_option maxHeartbeats 8000000 in
set_option maxRecDepth 100000 in
theorem impl_GiveInput.calls (a0_0 : Bool) (a0_1 : Bool) (a0_2 : Bool) (a0_3 : Bool) (a0_4 : Bool) (a0_5 : Int) (a1 : Int) (r1 : Bool) (r2 : Bool) (r3 : Bool) (r4 : Bool) (r5 : Bool) (r6 : Int) (r7 : Int) (w : World) (h : impl_GiveInput.f a0_0 a0_1 a0_2 a0_3 a0_4 a0_5 a1 = some (r1, r2, r3, r4, r5, r6, r7)) :
  Calls Try.prog 32 #[.agg #[.bool a0_0, .bool a0_1, .bool a0_2, .bool a0_3, .bool a0_4, .int .i64 a0_5], .int .i64 a1] w fun e w' => e = .returned (.tuple #[.agg #[.bool r1, .bool r2, .bool r3, .bool r4, .bool r5, .int .i64 r6], .int .i64 r7]) ∧ Below w.heap.size w w' := by
 have hu23 := Try.underlying23
 have HB := jA (Below.refl w.heap.size w)
 have H := h
 unfold impl_GiveInput.f at H
 clear h
 replace H := jD.mp H
 obtain ⟨t263, A30, H⟩ := H
 try dsimp only at H
 have A3 := jA A30
 clear A30
 by_cases c4 : t263 = true
 ·subst c4
  rw [if_pos rfl] at H
  replace H := jD.mp H
  obtain ⟨⟨t264, t265, t266, t267, t268, t269, t270⟩, A50, H⟩ := H
  try dsimp only at H
  have A5 := jA A50
  clear A50
  simp only [jI, jM] at H
  obtain ⟨rfl, rfl, rfl, rfl, rfl, rfl, rfl⟩ := H
  go_enter Try.func32, Try.ntmps32
  go_wp2_with (first | ((with_reducible refine jK (N := 2) rfl ?_); refine zE 2 #[.bool a0_0, .bool a0_1, .bool a0_2, .bool a0_3, .bool a0_4, .int .i64 a0_5] 23 ?_; intro gb261 hg w6 hbox hb; have BK261 := jA (hbox); have GW261 := zg0 hg HB; have GE261 := zg0 hg HB; replace HB := zS0 HB hb; clear hb hbox hg) | ((with_reducible refine jK (N := 4) rfl ?_); refine zE 4 #[.bool false, .bool false, .bool false, .bool false, .bool false, .int .i64 0] 23 ?_; intro gb262 hg w7 hbox hb; have BK262 := jA (hbox); have GW262 := zg1 hg HB GE261; have GE262 := zg1 hg HB GE261; replace HB := zS1 HB GE261 hb; have NB261_262 := zn hg BK261; replace BK261 := zB BK261 hb; have NB262_261 := jA NB261_262.out.symm; clear hb hbox hg; have hnb8 := NB261_262.out; have hnc8 := NB262_261.out; have hcz9 := zc6 BK261) | ((with_reducible refine jH (f := 27) rfl ?_); refine zL (some 7) Try.func27 #[.agg #[.bool a0_0, .bool a0_1, .bool a0_2, .bool a0_3, .bool a0_4, .int .i64 a0_5]] ?_; (with_reducible refine (impl_IsSound.calls a0_0 a0_1 a0_2 a0_3 a0_4 a0_5 true _ A3.out).mono ?_); rintro e w10 ⟨rfl, hb⟩; refine ⟨_, rfl, ?_⟩; replace BK261 := zB BK261 hb; replace BK262 := zB BK262 hb; replace HB := zS2 HB GE261 GE262 hb; clear hb; have hcz11 := zc6 BK261) | ((with_reducible refine jH (f := 67) rfl ?_); refine zL (some 12) Try.func67 #[.agg #[.bool a0_0, .bool a0_1, .bool a0_2, .bool a0_3, .bool a0_4, .int .i64 a0_5], .int .i64 a1] ?_; (with_reducible refine (impl_giveInput.calls a0_0 a0_1 a0_2 a0_3 a0_4 a0_5 a1 t264 t265 t266 t267 t268 t269 t270 _ A5.out).mono ?_); rintro e w12 ⟨rfl, hb⟩; refine ⟨_, rfl, ?_⟩; replace BK261 := zB BK261 hb; replace BK262 := zB BK262 hb; replace HB := zS2 HB GE261 GE262 hb; clear hb; have hcz13 := zc6 BK262))
  refine jT (results_ct rfl _ _ gb262 23 #[.bool t264, .bool t265, .bool t266, .bool t267, .bool t268, .int .i64 t269] (0, 0) _ rfl (zP0 BK262) Try.underlying23 rfl zr) rfl ?_
  exact ⟨ze, zb2 HB GE261 GE262⟩
 ·replace c4 := Bool.eq_false_iff.mpr c4
  subst c4
  rw [if_neg zfalse] at H
  simp only [jI, jM] at H
  obtain ⟨rfl, rfl, rfl, rfl, rfl, rfl, rfl⟩ := H
  go_enter Try.func32, Try.ntmps32
  go_wp2_with (first | ((with_reducible refine jK (N := 2) rfl ?_); refine zE 2 #[.bool a0_0, .bool a0_1, .bool a0_2, .bool a0_3, .bool a0_4, .int .i64 a0_5] 23 ?_; intro gb261 hg w14 hbox hb; have BK261 := jA (hbox); have GW261 := zg0 hg HB; have GE261 := zg0 hg HB; replace HB := zS0 HB hb; clear hb hbox hg) | ((with_reducible refine jK (N := 4) rfl ?_); refine zE 4 #[.bool false, .bool false, .bool false, .bool false, .bool false, .int .i64 0] 23 ?_; intro gb262 hg w15 hbox hb; have BK262 := jA (hbox); have GW262 := zg1 hg HB GE261; have GE262 := zg1 hg HB GE261; replace HB := zS1 HB GE261 hb; have NB261_262 := zn hg BK261; replace BK261 := zB BK261 hb; have NB262_261 := jA NB261_262.out.symm; clear hb hbox hg; have hnb16 := NB261_262.out; have hnc16 := NB262_261.out; have hcz17 := zc6 BK261) | ((with_reducible refine jH (f := 27) rfl ?_); refine zL (some 7) Try.func27 #[.agg #[.bool a0_0, .bool a0_1, .bool a0_2, .bool a0_3, .bool a0_4, .int .i64 a0_5]] ?_; (with_reducible refine (impl_IsSound.calls a0_0 a0_1 a0_2 a0_3 a0_4 a0_5 false _ A3.out).mono ?_); rintro e w18 ⟨rfl, hb⟩; refine ⟨_, rfl, ?_⟩; replace BK261 := zB BK261 hb; replace BK262 := zB BK262 hb; replace HB := zS2 HB GE261 GE262 hb; clear hb; have hcz19 := zc6 BK262))
  refine jT (results_ct rfl _ _ gb262 23 #[.bool false, .bool false, .bool false, .bool false, .bool false, .int .i64 0] (0, 0) _ rfl (zP0 BK262) Try.underlying23 rfl zr) rfl ?_
  exact ⟨ze, zb2 HB GE261 GE262⟩

/-! ### spec_l25Number: function 52 -/
def spec_l25Number.l0 : Nat → Int → List Bool → Int → Int → Option (Int)
 | 0, _, _, _, _ => none
 | k + 1, x3, x4, x5, x6 => if x6 < (x4.length : Int) then (if 0 ≤ x6 then (if rdOf false x4 x6 = true then (spec_l25Number.l0 k (wrap64 (x3 + x5)) x4 (wrap64 (2 * x5)) (wrap64 (x6 + 1))) else (spec_l25Number.l0 k x3 x4 (wrap64 (2 * x5)) (wrap64 (x6 + 1)))) else (none)) else (some x3)
def spec_l25Number.f (k : Nat) (a0_0 : Bool) (a0_1 : Bool) (a0_2 : Bool) (a0_3 : Bool) (a0_4 : Bool) (a0_5 : Int) : Option (Int) := spec_l25Number.l0 k (wrap64 (32 * a0_5)) (([a0_0, a0_1, a0_2, a0_3, a0_4] : List Bool)) 1 0
theorem spec_l25Number.mono_l : ∀ k, (∀ y0 y1 y2 y3, LeO (spec_l25Number.l0 k y0 y1 y2 y3) (spec_l25Number.l0 (k + 1) y0 y1 y2 y3))
 | 0 => fun _ _ _ _ r h => by simp [spec_l25Number.l0] at h
 | k + 1 => by
  have ih0 := spec_l25Number.mono_l k
  ·intro y0 y1 y2 y3
   unfold spec_l25Number.l0
   repeat' first
   | (with_reducible exact ih0 _ _ _ _)
   | (with_reducible exact LeO.refl _)
   | (with_reducible exact LeO.none _)
   | (with_reducible refine LeO.ite ?_ ?_)
   | (with_reducible refine LeO.bind ?_ (fun _ => ?_))
   | exact ih0 _ _ _ _
   | exact LeO.none _
   | refine LeO.ite ?_ ?_
   | refine LeO.bind ?_ (fun _ => ?_)
theorem spec_l25Number.mono : ∀ a0 a1 a2 a3 a4 a5 k, LeO (spec_l25Number.f k a0 a1 a2 a3 a4 a5) (spec_l25Number.f (k + 1) a0 a1 a2 a3 a4 a5) := by
 intro a0 a1 a2 a3 a4 a5 k
 have ih0 := spec_l25Number.mono_l k
 unfold spec_l25Number.f
 repeat' first
   | (with_reducible exact ih0 _ _ _ _)
   | (with_reducible exact LeO.refl _)
   | (with_reducible exact LeO.none _)
   | (with_reducible refine LeO.ite ?_ ?_)
   | (with_reducible refine LeO.bind ?_ (fun _ => ?_))
   | exact ih0 _ _ _ _
   | exact LeO.none _
   | refine LeO.ite ?_ ?_
   | refine LeO.bind ?_ (fun _ => ?_)
set_option maxHeartbeats 8000000 in
set_option maxRecDepth 100000 in
theorem spec_l25Number.calls (k : Nat) (a0_0 : Bool) (a0_1 : Bool) (a0_2 : Bool) (a0_3 : Bool) (a0_4 : Bool) (a0_5 : Int) (r : Int) (w : World) (h : spec_l25Number.f k a0_0 a0_1 a0_2 a0_3 a0_4 a0_5 = some r) :
  Calls Try.prog 52 #[.agg #[.bool a0_0, .bool a0_1, .bool a0_2, .bool a0_3, .bool a0_4, .int .i64 a0_5]] w fun e w' => e = .returned (.int .i64 r) ∧ Below w.heap.size w w' := by
 have hu23 := Try.underlying23
 have HB := jA (Below.refl w.heap.size w)
 have H := h
 unfold spec_l25Number.f at H
 clear h
 obtain ⟨y272, hy272⟩ : ∃ y_ : List Bool, y_ = (([a0_0, a0_1, a0_2, a0_3, a0_4] : List Bool)) := ⟨_, rfl⟩
 replace H : (spec_l25Number.l0 k (wrap64 (32 * a0_5)) y272 1 0) = some r := by first | (rw [hy272]; with_reducible exact H) | (have H2_ := (Option.bind_some _ _).symm.trans H; rw [hy272]; with_reducible exact H2_) | (have H2_ := (Option.bind_some _ _).symm.trans H; with_reducible exact H2_) | with_reducible exact H | (rw [hy272]; exact H) | exact H
 have Ny272 := jA hy272
 clear hy272
 have H' := jA H
 clear H
 go_enter Try.func52, Try.ntmps52
 go_wp2_with (first | ((with_reducible refine jK (N := 1) rfl ?_); refine zE 1 #[.bool a0_0, .bool a0_1, .bool a0_2, .bool a0_3, .bool a0_4, .int .i64 a0_5] 23 ?_; intro gb271 hg w2 hbox hb; have BK271 := jA (hbox); have GW271 := zg0 hg HB; have GE271 := zg0 hg HB; replace HB := zS0 HB hb; clear hb hbox hg; have hcz3 := zc6 BK271) | ((with_reducible refine jK (N := 20) rfl ?_); refine Kd.R_lit Kd.bool _ 4 ?hg (N := 20) ?hd (xs := ([a0_0, a0_1, a0_2, a0_3, a0_4] : List Bool)) (inner := [.bool a0_0, .bool a0_1, .bool a0_2, .bool a0_3, .bool a0_4]) (ok := fun _ => True) (okp := fun _ => True) ?hr ?hp (fun _ hk => hk) trivial (Below.refl _ _) (Nat.le_refl _) (by simp) ?_; (case hd => rfl); (case hg => rfl); (case hr => first | (go_simp; done) | (go_simp; rfl)); (case hp => exact (Reps.one (show Kd.M Kd.bool _ _ _ a0_0 [.bool a0_0] from rfl) (Reps.one (show Kd.M Kd.bool _ _ _ a0_1 [.bool a0_1] from rfl) (Reps.one (show Kd.M Kd.bool _ _ _ a0_2 [.bool a0_2] from rfl) (Reps.one (show Kd.M Kd.bool _ _ _ a0_3 [.bool a0_3] from rfl) (Reps.one (show Kd.M Kd.bool _ _ _ a0_4 [.bool a0_4] from rfl) (Reps.none _ _))))))); intro v273 w4 ho5 hb hg_ hnew_; clear hg_ hnew_; (first | rw [← Ny272.out] at ho5 | (simp only [Int.reduceToNat] at ho5; rw [← Ny272.out] at ho5)); have HO274 := jA (jZ ho5 (jP (zb1 HB GE271))); replace BK271 := zB BK271 hb; replace HB := zS1 HB GE271 hb; clear hb ho5))
 go_loopg [3, 5, 6] k (fun kq v3 v5 v6 w' => ∃ (x3_1 : Int) (x5_1 : Int) (x6_1 : Int), v3 = .int .i64 x3_1 ∧ v5 = .int .i64 x5_1 ∧ v6 = .int .i64 x6_1 ∧ Aside0 (spec_l25Number.l0 kq x3_1 y272 x5_1 x6_1 = some r) ∧ Aside0 (kq ≤ k) ∧ Aside0 (Kd.R Kd.bool 4 w' w.heap.size (fun _ => True) v273 y272) ∧ Aside0 (w'.heap[gb271]? = some (.cells #[.bool a0_0, .bool a0_1, .bool a0_2, .bool a0_3, .bool a0_4, .int .i64 a0_5] 23 (0, 0))) ∧ Aside0 (Below w.heap.size w w'))
 case atStart => exact ⟨(wrap64 (32 * a0_5)), (1), (0), zz, zz, zz, H', ⟨Nat.le_refl _⟩, ⟨zo HO274⟩, ⟨zk BK271⟩, ⟨zb1 HB GE271⟩⟩
 case round =>
  clear H'
  try clear p2
  try clear c5
  try clear hcz3
  obtain ⟨x3_1, x5_1, x6_1, rfl, rfl, rfl, HA, HK1, HO_4, BK271, HB⟩ := hrel
  cases gk with
  | zero => exact absurd HA.out (by simp [spec_l25Number.l0])
  | succ k1 =>
   have H := HA.out
   clear HA
   simp only [spec_l25Number.l0] at H
   by_cases c6 : x6_1 < (y272.length : Int)
   ·rw [if_pos c6] at H
    have c6b0 : decide (x6_1 < (y272.length : Int)) = true := jJ c6
    clear c6
    by_cases c7 : 0 ≤ x6_1
    ·rw [if_pos c7] at H
     have c7b0 : decide (0 ≤ x6_1) = true := jJ c7
     clear c7
     obtain ⟨bq8, hbq8⟩ : ∃ b_ : Bool, b_ = (rdOf false y272 x6_1) := ⟨_, rfl⟩
     replace H : (if bq8 = true then (spec_l25Number.l0 k1 (wrap64 (x3_1 + x5_1)) y272 (wrap64 (2 * x5_1)) (wrap64 (x6_1 + 1))) else (spec_l25Number.l0 k1 x3_1 y272 (wrap64 (2 * x5_1)) (wrap64 (x6_1 + 1)))) = some r := by rw [← hbq8] at H; exact H
     have Nbq8 := jA hbq8
     clear hbq8
     by_cases c9 : bq8 = true
     ·subst c9
      rw [if_pos rfl] at H
      have H' := jA H
      clear H
      obtain ⟨Ao10, co10, eo10⟩ := Kd.R_slice HO_4.out
      subst eo10
      have p275 : 0 ≤ (x6_1 : Int) := jB za
      have q275 : x6_1 < (y272.length : Int) := jB za
      obtain ⟨ad275, e275, hx275_0⟩ := Kd.at_bool (jO HO_4.out).2.2 x6_1 p275 q275
      (try rw [← Nbq8.out] at hx275_0)
      cases e275
      replace p275 := eq_true p275
      replace q275 := eq_true q275
      go_wp2
      go_roundg k1
      case measure => have := HK1.out; omega
      case rel => exact ⟨(wrap64 (x3_1 + x5_1)), (wrap64 (2 * x5_1)), (wrap64 (x6_1 + 1)), zz, zz, zz, H', ⟨by have := HK1.out; omega⟩, ⟨zo HO_4⟩, ⟨zk BK271⟩, ⟨zb1 HB GE271⟩⟩
     ·replace c9 := Bool.eq_false_iff.mpr c9
      subst c9
      rw [if_neg zfalse] at H
      have H' := jA H
      clear H
      obtain ⟨Ao11, co11, eo11⟩ := Kd.R_slice HO_4.out
      subst eo11
      have p275 : 0 ≤ (x6_1 : Int) := jB za
      have q275 : x6_1 < (y272.length : Int) := jB za
      obtain ⟨ad275, e275, hx275_0⟩ := Kd.at_bool (jO HO_4.out).2.2 x6_1 p275 q275
      (try rw [← Nbq8.out] at hx275_0)
      cases e275
      replace p275 := eq_true p275
      replace q275 := eq_true q275
      go_wp2
      go_roundg k1
      case measure => have := HK1.out; omega
      case rel => exact ⟨(x3_1), (wrap64 (2 * x5_1)), (wrap64 (x6_1 + 1)), zz, zz, zz, H', ⟨by have := HK1.out; omega⟩, ⟨zo HO_4⟩, ⟨zk BK271⟩, ⟨zb1 HB GE271⟩⟩
    ·rw [if_neg c7] at H
     exact absurd H (by simp)
   ·rw [if_neg c6] at H
    have c6b0 : decide (x6_1 < (y272.length : Int)) = false := jW c6
    clear c6
    obtain rfl := jN H
    obtain ⟨Ao12, co12, eo12⟩ := Kd.R_slice HO_4.out
    subst eo12
    go_wp2
    go_ret
    exact ⟨ze, zb1 HB GE271⟩

/-! ### spec_l01In: function 78 -/
def spec_l01In.f (a0 : Int) (a1 : Int) (a2 : Int) : Option (Bool) := if a0 ≥ a1 then (some (decide (a0 ≤ a2))) else (some false)
set_option maxHeartbeats 8000000 in
set_option maxRecDepth 100000 in
theorem spec_l01In.calls (a0 : Int) (a1 : Int) (a2 : Int) (r : Bool) (w : World) (h : spec_l01In.f a0 a1 a2 = some r) :
  Calls Try.prog 78 #[.int .i64 a0, .int .i64 a1, .int .i64 a2] w fun e w' => e = .returned (.bool r) ∧ Drawn0 w w' := by
 have H : (if a0 ≥ a1 then (some (decide (a0 ≤ a2))) else (some false)) = some r := h
 clear h
 by_cases c4 : a0 ≥ a1
 ·rw [if_pos c4] at H
  have c4b0 : decide (a1 ≤ a0) = true := jJ c4
  clear c4
  obtain rfl := jN H
  go_enter Try.func78, Try.ntmps78
  go_wp2
  go_ret
  exact ⟨by first | rfl | (simp; done) | (simp [*]; done), by repeat (first | exact Drawn0.refl _ | apply Drawn0.step)⟩
 ·rw [if_neg c4] at H
  have c4b0 : decide (a1 ≤ a0) = false := jW c4
  clear c4
  obtain rfl := jN H
  go_enter Try.func78, Try.ntmps78
  go_wp2
  go_ret
  exact ⟨by first | rfl | (simp; done) | (simp [*]; done), by repeat (first | exact Drawn0.refl _ | apply Drawn0.step)⟩

end Go.Proofs.Ythieppjmjgijfaa.PFnReached
