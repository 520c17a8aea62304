/- Functions and contracts that FnProofs reaches (20 of 22). -/
import Derived.Test.YthieppjmjgijfaaQFnProofsx18
namespace Go.Proofs.Ythieppjmjgijfaa.PFnProofs
open Go.RowKit Go.Proofs.YthieppjmjgijfaaW.PrintWords Go.Proofs.YthieppjmjgijfaaW.PrintLast Go.Proofs.YthieppjmjgijfaaW.PrintMore
attribute [local go_sem] max2_int min2_int max_two min_two max_three min_three max_four min_four   -- for this text's walks alone
set_option linter.unusedVariables false
set_option linter.unusedSimpArgs false

/-! ### impl_shortest: function 69 -/
mutual
def impl_shortest.l0 : Nat → List Int → List (List Int) → List Bool → List Int → Option ((List (List Int)) × List Bool)
 | 0, _, _, _, _ => none
 | k + 1, x1, x6, x7, x8 => if (x8.length : Int) > 0 then (if 0 < (x8.length : Int) then (if 1 ≤ (x8.length : Int) then (impl_shortest.l1 k x1 x6 x7 (x8.drop (1 : Int).toNat) (rd x8 0) x1 (x1.length : Int) 0) else (none)) else (none)) else (some (x6, x7))
def impl_shortest.l1 : Nat → List Int → List (List Int) → List Bool → List Int → Int → List Int → Int → Int → Option ((List (List Int)) × List Bool)
 | 0, _, _, _, _, _, _, _, _ => none
 | k + 1, x1, x6, x7, x8, x9, x33, x34, x35 => if x35 < x34 then (if 0 ≤ x35 then (if x35 < (x33.length : Int) then ((impl_controllerWith.f x9).bind fun bt637 => ((impl_giveInput.f bt637.1 bt637.2.1 bt637.2.2.1 bt637.2.2.2.1 bt637.2.2.2.2.1 bt637.2.2.2.2.2 (rd x33 x35)).bind fun bt643 => ((impl_numberOf.f bt643.1 bt643.2.1 bt643.2.2.1 bt643.2.2.2.1 bt643.2.2.2.2.1 bt643.2.2.2.2.2.1).bind fun t651 => (if bt643.2.2.2.2.2.2 = 0 then (if 0 ≤ t651 then (if t651 < (x7.length : Int) then (if rdOf false x7 t651 = true then (impl_shortest.l1 k x1 x6 x7 x8 x9 x33 x34 (wrap64 (x35 + 1))) else (if 0 ≤ x9 then (if x9 < (x6.length : Int) then ((impl_copyList.f (rd_L3 x6 x9)).bind fun t655 => (if t655.length < 17592186044416 then (if t651 < (x6.length : Int) then (if x8.length < 17592186044416 then (impl_shortest.l1 k x1 (x6.set (t651 : Int).toNat (t655 ++ [rd x33 x35])) (x7.set (t651 : Int).toNat true) (x8 ++ [t651]) x9 x33 x34 (wrap64 (x35 + 1))) else (none)) else (none)) else (none))) else (none)) else (none))) else (none)) else (none)) else (impl_shortest.l1 k x1 x6 x7 x8 x9 x33 x34 (wrap64 (x35 + 1))))))) else (none)) else (none)) else (impl_shortest.l0 k x1 x6 x7 x8)
end
def impl_shortest.f (k : Nat) (a0_0 : Bool) (a0_1 : Bool) (a0_2 : Bool) (a0_3 : Bool) (a0_4 : Bool) (a0_5 : Int) (l1 : List Int) : Option ((List (List Int)) × List Bool) := if 160 ≤ 11728124029610 then (if 160 ≤ 281474976710656 then ((some (List.replicate 160 false : List Bool)).bind fun y623 => ((impl_numberOf.f a0_0 a0_1 a0_2 a0_3 a0_4 a0_5).bind fun t626 => ((some (([t626] : List Int) : List Int)).bind fun y627 => (if 0 < (y627.length : Int) then (if 0 ≤ (rd y627 0) then (if (rd y627 0) < (y623.length : Int) then (impl_shortest.l0 k l1 (List.replicate 160 []) (y623.set ((rd y627 0) : Int).toNat true) y627) else (none)) else (none)) else (none))))) else (none)) else (none)
theorem impl_shortest.mono_l : ∀ k, (∀ y0 y1 y2 y3, LeO (impl_shortest.l0 k y0 y1 y2 y3) (impl_shortest.l0 (k + 1) y0 y1 y2 y3)) ∧ (∀ y0 y1 y2 y3 y4 y5 y6 y7, LeO (impl_shortest.l1 k y0 y1 y2 y3 y4 y5 y6 y7) (impl_shortest.l1 (k + 1) y0 y1 y2 y3 y4 y5 y6 y7))
 | 0 => ⟨fun _ _ _ _ r h => by simp [impl_shortest.l0] at h, fun _ _ _ _ _ _ _ _ r h => by simp [impl_shortest.l1] at h⟩
 | k + 1 => by
  obtain ⟨ih0, ih1⟩ := impl_shortest.mono_l k
  refine ⟨?_, ?_⟩
  ·intro y0 y1 y2 y3
   unfold impl_shortest.l0
   repeat' first
   | (with_reducible exact ih0 _ _ _ _)
   | (with_reducible exact ih1 _ _ _ _ _ _ _ _)
   | (with_reducible exact LeO.refl _)
   | (with_reducible exact LeO.none _)
   | (with_reducible refine LeO.ite ?_ ?_)
   | (with_reducible refine LeO.bind ?_ (fun _ => ?_))
   | exact ih0 _ _ _ _
   | exact ih1 _ _ _ _ _ _ _ _
   | exact LeO.none _
   | refine LeO.ite ?_ ?_
   | refine LeO.bind ?_ (fun _ => ?_)
  ·intro y0 y1 y2 y3 y4 y5 y6 y7
   unfold impl_shortest.l1
   repeat' first
   | (with_reducible exact ih0 _ _ _ _)
   | (with_reducible exact ih1 _ _ _ _ _ _ _ _)
   | (with_reducible exact LeO.refl _)
   | (with_reducible exact LeO.none _)
   | (with_reducible refine LeO.ite ?_ ?_)
   | (with_reducible refine LeO.bind ?_ (fun _ => ?_))
   | exact ih0 _ _ _ _
   | exact ih1 _ _ _ _ _ _ _ _
   | exact LeO.none _
   | refine LeO.ite ?_ ?_
   | refine LeO.bind ?_ (fun _ => ?_)
theorem impl_shortest.mono : ∀ a0 a1 a2 a3 a4 a5 a6 k, LeO (impl_shortest.f k a0 a1 a2 a3 a4 a5 a6) (impl_shortest.f (k + 1) a0 a1 a2 a3 a4 a5 a6) := by
 intro a0 a1 a2 a3 a4 a5 a6 k
 obtain ⟨ih0, ih1⟩ := impl_shortest.mono_l k
 unfold impl_shortest.f
 repeat' first
   | (with_reducible exact ih0 _ _ _ _)
   | (with_reducible exact ih1 _ _ _ _ _ _ _ _)
   | (with_reducible exact LeO.refl _)
   | (with_reducible exact LeO.none _)
   | (with_reducible refine LeO.ite ?_ ?_)
   | (with_reducible refine LeO.bind ?_ (fun _ => ?_))
   | exact ih0 _ _ _ _
   | exact ih1 _ _ _ _ _ _ _ _
   | exact LeO.none _
   | refine LeO.ite ?_ ?_
   | refine LeO.bind ?_ (fun _ => ?_)
set_option maxHeartbeats 8000000 in
set_option maxRecDepth 100000 in
theorem impl_shortest.calls (k : Nat) (a0_0 : Bool) (a0_1 : Bool) (a0_2 : Bool) (a0_3 : Bool) (a0_4 : Bool) (a0_5 : Int) (A1 : Option Addr) (c1 : Nat) (l1 : List Int) (r1 : List (List Int)) (r2 : List Bool) (w : World) (hr1 : Kd.C (Kd.int .i64) w A1 l1.length l1) (hc1 : l1.length ≤ c1) (h : impl_shortest.f k a0_0 a0_1 a0_2 a0_3 a0_4 a0_5 l1 = some (r1, r2)) :
  Calls Try.prog 69 #[.agg #[.bool a0_0, .bool a0_1, .bool a0_2, .bool a0_3, .bool a0_4, .int .i64 a0_5], .slice A1 l1.length c1] w fun e w' => ∃ v0_ v1_ : Value, e = .returned (.tuple #[v0_, v1_]) ∧ Kd.S (Kd.slice 2 (Kd.int .i64)) 35 w' w.heap.size (fun _ => True) v0_ r1 ∧ Kd.R Kd.bool 4 w' w.heap.size (fun _ => True) v1_ r2 ∧ Below w.heap.size w w' := by
 have hu23 := Try.underlying23
 have HR1 := jA hr1
 have HC1 := jA hc1
 clear hr1 hc1
 have HB := jA (Below.refl w.heap.size w)
 have H := h
 unfold impl_shortest.f at H
 clear h
 by_cases c3 : 160 ≤ 11728124029610
 ·rw [if_pos c3] at H
  have c3b0 := eq_true c3
  have c3b1 : decide (160 ≤ 11728124029610) = true := jI c3
  clear c3
  obtain ⟨y620, hy620⟩ : ∃ y_ : List (List Int), y_ = (List.replicate 160 []) := ⟨_, rfl⟩
  replace H : (if 160 ≤ 281474976710656 then ((some (List.replicate 160 false : List Bool)).bind fun y623 => ((impl_numberOf.f a0_0 a0_1 a0_2 a0_3 a0_4 a0_5).bind fun t626 => ((some (([t626] : List Int) : List Int)).bind fun y627 => (if 0 < (y627.length : Int) then (if 0 ≤ (rd y627 0) then (if (rd y627 0) < (y623.length : Int) then (impl_shortest.l0 k l1 y620 (y623.set ((rd y627 0) : Int).toNat true) y627) else (none)) else (none)) else (none))))) else (none)) = some (r1, r2) := by first | (rw [hy620]; with_reducible exact H) | (have H2_ := (Option.bind_some _ _).symm.trans H; rw [hy620]; with_reducible exact H2_) | (have H2_ := (Option.bind_some _ _).symm.trans H; with_reducible exact H2_) | with_reducible exact H | (rw [hy620]; exact H) | exact H
  have Ny620 := jA hy620
  clear hy620
  by_cases c4 : 160 ≤ 281474976710656
  ·rw [if_pos c4] at H
   have c4b0 := eq_true c4
   have c4b1 : decide (160 ≤ 281474976710656) = true := jI c4
   clear c4
   obtain ⟨y623, hy623⟩ : ∃ y_ : List Bool, y_ = (List.replicate 160 false) := ⟨_, rfl⟩
   replace H : ((impl_numberOf.f a0_0 a0_1 a0_2 a0_3 a0_4 a0_5).bind fun t626 => ((some (([t626] : List Int) : List Int)).bind fun y627 => (if 0 < (y627.length : Int) then (if 0 ≤ (rd y627 0) then (if (rd y627 0) < (y623.length : Int) then (impl_shortest.l0 k l1 y620 (y623.set ((rd y627 0) : Int).toNat true) y627) else (none)) else (none)) else (none)))) = some (r1, r2) := by first | (rw [hy623]; with_reducible exact H) | (have H2_ := (Option.bind_some _ _).symm.trans H; rw [hy623]; with_reducible exact H2_) | (have H2_ := (Option.bind_some _ _).symm.trans H; with_reducible exact H2_) | with_reducible exact H | (rw [hy623]; exact H) | exact H
   have Ny623 := jA hy623
   clear hy623
   replace H := jC.mp H
   obtain ⟨t626, A50, H⟩ := H
   try dsimp only at H
   have A5 := jA A50
   clear A50
   obtain ⟨y627, hy627⟩ : ∃ y_ : List Int, y_ = (([t626] : List Int)) := ⟨_, rfl⟩
   replace H : (if 0 < (y627.length : Int) then (if 0 ≤ (rd y627 0) then (if (rd y627 0) < (y623.length : Int) then (impl_shortest.l0 k l1 y620 (y623.set ((rd y627 0) : Int).toNat true) y627) else (none)) else (none)) else (none)) = some (r1, r2) := by first | (rw [hy627]; with_reducible exact H) | (have H2_ := (Option.bind_some _ _).symm.trans H; rw [hy627]; with_reducible exact H2_) | (have H2_ := (Option.bind_some _ _).symm.trans H; with_reducible exact H2_) | with_reducible exact H | (rw [hy627]; exact H) | exact H
   have Ny627 := jA hy627
   clear hy627
   by_cases c6 : 0 < (y627.length : Int)
   ·rw [if_pos c6] at H
    have c6b0 : decide (0 < (y627.length : Int)) = true := jI c6
    have c6b1 : decide (0 < y627.length) = true := jI (by omega)
    clear c6
    by_cases c7 : 0 ≤ (rd y627 0)
    ·rw [if_pos c7] at H
     have c7b0 : decide (0 ≤ (rd y627 0)) = true := jI c7
     clear c7
     by_cases c8 : (rd y627 0) < (y623.length : Int)
     ·rw [if_pos c8] at H
      have c8b0 : decide ((rd y627 0) < (y623.length : Int)) = true := jI c8
      clear c8
      obtain ⟨y631, hy631⟩ : ∃ y_ : List Bool, y_ = (y623.set ((rd y627 0) : Int).toNat true) := ⟨_, rfl⟩
      replace H : (impl_shortest.l0 k l1 y620 y631 y627) = some (r1, r2) := by first | (rw [hy631]; with_reducible exact H) | (have H2_ := (Option.bind_some _ _).symm.trans H; rw [hy631]; with_reducible exact H2_) | (have H2_ := (Option.bind_some _ _).symm.trans H; with_reducible exact H2_) | with_reducible exact H | (rw [hy631]; exact H) | exact H
      have Ny631 := jA hy631
      clear hy631
      have H' := jA H
      clear H
      go_enter Try.func69, Try.ntmps69
      try go_wp2_with (first | ((with_reducible refine jJ (N := 2) rfl ?_); refine zE 2 #[.bool a0_0, .bool a0_1, .bool a0_2, .bool a0_3, .bool a0_4, .int .i64 a0_5] 23 ?_; intro gb619 hg w10 hbox hb; have BK619 := jA (hbox); have GW619 := zg0 hg HB; have GE619 := zg0 hg HB; replace HB := zS0 HB hb; clear hb hbox hg))
      replace BK619 := jA (blk_drew BK619.out)
      replace HB := jA (below_drew1 HB.out)
      refine start_ (n := 4) (S := fun w' => True) (ds := []) #[false, false, false, false] zr rfl rfl trivial (fun hHeld => ?_)
      generalize w10.drew = w11 at BK619 HB hHeld ⊢
      refine join_ (σ := Value × Value) 1 m4_e (fun s_ => [(15, s_.1), (16, s_.2), (6, s_.1)]) (fun s_ w' => (Kd.S (Kd.slice 2 (Kd.int .i64)) 35 w' w.heap.size (fun _ => True) s_.1 y620) ∧ (Kd.R Kd.bool 4 w' w.heap.size (fun _ => True) s_.2 y623) ∧ (w'.heap[gb619]? = some (.cells #[.bool a0_0, .bool a0_1, .bool a0_2, .bool a0_3, .bool a0_4, .int .i64 a0_5] 23 (0, 0))) ∧ (Below w.heap.size w w')) ?_ ?_
      rotate_left
      ·intro hCont
       refine two_ (i := 0) (j := 1) (Ni := some 15) (Nj := some 16) #[true, false, false, false] #[false, true, false, false] rfl rfl rfl rfl zr (by decide) (by decide) (fun K hK => ?_) (fun K hK => ?_)
       ·skip
        refine Kd.S_make_step (Kd.slice 2 (Kd.int .i64)) _ 35 (by rfl) (N := 15) rfl 81 _ _ rfl 160 rfl rfl Try.underlying81 (.slice none 0 0) 24 info35 rfl (by decide) (by omega) [] (ok := fun _ => True) (okp := fun _ => True) ⟨_, rfl, Kd.R_nil _ _ _ _ _⟩ (fun _ hk => hk) trivial (by omega) (by omega) (Below.refl _ _) (Nat.le_refl _) ?_
        intro v621 w12 ho13 hb hg_ hnew_
        clear hg_ hnew_
        (first | rw [← Ny620.out] at ho13 | (simp only [Int.reduceToNat] at ho13; rw [← Ny620.out] at ho13))
        have HO622 := jA (Kd.S_lower ho13 (jT (zb1 HB GE619)))
        replace BK619 := zB BK619 hb
        replace HB := zS1 HB GE619 hb
        clear hb ho13
        refine hK.out _ _ trivial (fun hHeld => ?_)
        clear hK K
        refine norm_ (a' := ?_) ?_ ?_
        rotate_left
        ·show Act.put _ (some 15) _ = _
         simp only [Act.put, jD, jE, jF, i64_w, i32_w]
         rfl
        refine pure_ (i := 2) (N := some 6) (v := ?_) (a' := ?_) #[true, false, true, false] rfl rfl zr (fun _ _ _ h => h) (Or.inl ⟨by rfl, ?_⟩) ?_ ?_
        rotate_left
        ·intro w'
         go_simp
         with_reducible rfl
        rotate_left
        ·simp only [Act.put, jD, jE, jF, i64_w, i32_w]
         rfl
        refine one_ (i := 1) (N := some 16) m4_e rfl rfl zr (by decide) (fun K hK => ?_)
        refine Kd.R_make_step Kd.bool _ 4 (by rfl) (N := 16) rfl 82 _ _ rfl 160 rfl rfl Try.underlying82 (.bool false) 1 info4 rfl (by decide) (by omega) false (ok := fun _ => True) (okp := fun _ => True) rfl (fun _ hk => hk) trivial (by omega) (by omega) (Below.refl _ _) (Nat.le_refl _) ?_
        intro v624 w14 ho15 hb hg_ hnew_
        clear hg_ hnew_
        (first | rw [← Ny623.out] at ho15 | (simp only [Int.reduceToNat] at ho15; rw [← Ny623.out] at ho15))
        replace HO622 := jA (Kd.S_below (by (with_reducible repeat (first | apply Kd.S_alloc | apply Kd.S_drewN | apply Kd.S_drew)); exact HO622.out) hb)
        have HO625 := jA (jX ho15 (jT (zb1 HB GE619)))
        replace BK619 := zB BK619 hb
        replace HB := zS1 HB GE619 hb
        clear hb ho15
        refine hK.out _ _ trivial (fun hHeld => ?_)
        clear hK K
        refine norm_ (a' := ?_) ?_ ?_
        rotate_left
        ·show Act.put _ (some 16) _ = _
         simp only [Act.put, jD, jE, jF, i64_w, i32_w]
         rfl
        exact norm_ (by simp only [putAll, Act.put, jD, jE, jF]) (hCont (v621, v624) _ ⟨(by (with_reducible repeat (first | apply Kd.S_alloc | apply Kd.S_drewN | apply Kd.S_drew)); exact HO622.out), (zo HO625), (zk BK619), (zb1 HB GE619)⟩)
       ·skip
        refine Kd.R_make_step Kd.bool _ 4 (by rfl) (N := 16) rfl 82 _ _ rfl 160 rfl rfl Try.underlying82 (.bool false) 1 info4 rfl (by decide) (by omega) false (ok := fun _ => True) (okp := fun _ => True) rfl (fun _ hk => hk) trivial (by omega) (by omega) (Below.refl _ _) (Nat.le_refl _) ?_
        intro v624 w12 ho13 hb hg_ hnew_
        clear hg_ hnew_
        (first | rw [← Ny623.out] at ho13 | (simp only [Int.reduceToNat] at ho13; rw [← Ny623.out] at ho13))
        have HO625 := jA (jX ho13 (jT (zb1 HB GE619)))
        replace BK619 := zB BK619 hb
        replace HB := zS1 HB GE619 hb
        clear hb ho13
        refine hK.out _ _ trivial (fun hHeld => ?_)
        clear hK K
        refine norm_ (a' := ?_) ?_ ?_
        rotate_left
        ·show Act.put _ (some 16) _ = _
         simp only [Act.put, jD, jE, jF, i64_w, i32_w]
         rfl
        refine one_ (i := 0) (N := some 15) #[true, true, false, false] rfl rfl zr (by decide) (fun K hK => ?_)
        refine Kd.S_make_step (Kd.slice 2 (Kd.int .i64)) _ 35 (by rfl) (N := 15) rfl 81 _ _ rfl 160 rfl rfl Try.underlying81 (.slice none 0 0) 24 info35 rfl (by decide) (by omega) [] (ok := fun _ => True) (okp := fun _ => True) ⟨_, rfl, Kd.R_nil _ _ _ _ _⟩ (fun _ hk => hk) trivial (by omega) (by omega) (Below.refl _ _) (Nat.le_refl _) ?_
        intro v621 w14 ho15 hb hg_ hnew_
        clear hg_ hnew_
        (first | rw [← Ny620.out] at ho15 | (simp only [Int.reduceToNat] at ho15; rw [← Ny620.out] at ho15))
        replace HO625 := jA (jP (zo HO625) hb)
        have HO622 := jA (Kd.S_lower ho15 (jT (zb1 HB GE619)))
        replace BK619 := zB BK619 hb
        replace HB := zS1 HB GE619 hb
        clear hb ho15
        refine hK.out _ _ trivial (fun hHeld => ?_)
        clear hK K
        refine norm_ (a' := ?_) ?_ ?_
        rotate_left
        ·show Act.put _ (some 15) _ = _
         simp only [Act.put, jD, jE, jF, i64_w, i32_w]
         rfl
        refine pure_ (i := 2) (N := some 6) (v := ?_) (a' := ?_) m4_e rfl rfl zr (fun _ _ _ h => h) (Or.inl ⟨by rfl, ?_⟩) ?_ ?_
        rotate_left
        ·intro w'
         go_simp
         with_reducible rfl
        rotate_left
        ·simp only [Act.put, jD, jE, jF, i64_w, i32_w]
         rfl
        exact norm_ (by simp only [putAll, Act.put, jD, jE, jF]) (hCont (v621, v624) _ ⟨(by (with_reducible repeat (first | apply Kd.S_alloc | apply Kd.S_drewN | apply Kd.S_drew)); exact HO622.out), (zo HO625), (zk BK619), (zb1 HB GE619)⟩)
      rintro ⟨v621, v624⟩ w16 ⟨h0_, h1_, h2_, h3_⟩
      have HO622 : Aside0 (Kd.S (Kd.slice 2 (Kd.int .i64)) 35 w16 w.heap.size (fun _ => True) v621 y620) := ⟨h0_⟩
      have HO625 : Aside0 (Kd.R Kd.bool 4 w16 w.heap.size (fun _ => True) v624 y623) := ⟨h1_⟩
      replace BK619 : Aside0 (w16.heap[gb619]? = some (.cells #[.bool a0_0, .bool a0_1, .bool a0_2, .bool a0_3, .bool a0_4, .int .i64 a0_5] 23 (0, 0))) := ⟨h2_⟩
      replace HB : Aside0 (Below w.heap.size w w16) := ⟨h3_⟩
      clear h0_ h1_ h2_ h3_
      have hHeld := trivial
      refine norm_ (a' := ?_) ?_ ?_
      rotate_left
      ·simp only [putAll, Act.put, jD, jE, jF]
       rfl
      refine pure_ (i := 3) (N := some 7) (v := ?_) (a' := ?_) #[true, true, true, true] rfl rfl zr (fun _ _ _ h => h) (Or.inl ⟨by rfl, ?_⟩) ?_ ?_
      rotate_left
      ·intro w'
       go_simp
       with_reducible rfl
      rotate_left
      ·simp only [Act.put, jD, jE, jF, i64_w, i32_w]
       rfl
      refine done_ zr ?_
      have hcz17 := zc6 BK619
      try go_wp2_with (first | ((with_reducible refine jG (f := 53) rfl ?_); refine zL (some 18) Try.func53 #[.agg #[.bool a0_0, .bool a0_1, .bool a0_2, .bool a0_3, .bool a0_4, .int .i64 a0_5]] ?_; (with_reducible refine (impl_numberOf.calls a0_0 a0_1 a0_2 a0_3 a0_4 a0_5 t626 _ A5.out).mono ?_); rintro e w18 ⟨rfl, hb⟩; refine ⟨_, rfl, ?_⟩; replace HO622 := jA (Kd.S_below (by (with_reducible repeat (first | apply Kd.S_alloc | apply Kd.S_drewN | apply Kd.S_drew)); exact HO622.out) hb); replace HO625 := jA (jP (zo HO625) hb); replace BK619 := zB BK619 hb; replace HB := zS1 HB GE619 hb; clear hb) | ((with_reducible refine jJ (N := 19) rfl ?_); refine Kd.R_lit (Kd.int .i64) _ 2 ?hg (N := 19) ?hd (xs := ([t626] : List Int)) (inner := [.int .i64 t626]) (ok := fun _ => True) (okp := fun _ => True) ?hr ?hp (fun _ hk => hk) trivial (Below.refl _ _) (Nat.le_refl _) (by simp) ?_; (case hd => rfl); (case hg => rfl); (case hr => first | (go_simp; done) | (go_simp; rfl)); (case hp => exact (Reps.one (show Kd.M (Kd.int .i64) _ _ _ t626 [.int .i64 t626] from rfl) (Reps.none _ _))); intro v628 w19 ho20 hb hg_ hnew_; clear hg_ hnew_; (first | rw [← Ny627.out] at ho20 | (simp only [Int.reduceToNat] at ho20; rw [← Ny627.out] at ho20)); replace HO622 := jA (Kd.S_elder' (by (with_reducible repeat (first | apply Kd.S_alloc | apply Kd.S_drewN | apply Kd.S_drew)); exact HO622.out) (Kd.R_base ho20) hb); replace HO625 := jA (jP (zo HO625) hb); have HO629 := jA (jX ho20 (jT (zb1 HB GE619))); replace BK619 := zB BK619 hb; replace HB := zS1 HB GE619 hb; clear hb ho20; obtain ⟨Ao21, co21, eo21⟩ := Kd.R_slice HO629.out; subst eo21; have p630 : 0 ≤ (0 : Int) := (by omega); have q630 : 0 < (y627.length : Int) := jB za; obtain ⟨ad630, e630, hx630_0⟩ := jR (jO HO629.out).2.2 0 p630 q630; cases e630; have qi630 : (0 < y627.length) = True := eq_true (by omega); (try rw [show ((0 : Int)).toNat = 0 from rfl] at hx630_0); (try rw [Addr.add_zero'] at hx630_0); replace p630 := eq_true p630; replace q630 := eq_true q630; have p9 : 0 ≤ ((rd y627 0) : Int) := jB za; have q9 : ((rd y627 0) : Int) < ((y623.length : Int) : Int) := jB za; obtain ⟨go9, co9, eo9, gb9, gl9, cl9, HG9⟩ := Kd.R_form HO625.out (by omega); (first | cases eo9 | (injection eo9 with ea_ en_ ec_; (first | subst ea_ | (injection ea_ with ea_; subst ea_)); subst ec_; clear en_)); have GB9 := jA gb9; have GG9 := jA HG9; clear gb9 gl9 HG9; obtain ⟨hx9_0, hf9_0⟩ := Kd.R_celln false HO625.out ((rd y627 0) : Int) p9 q9; replace p9 := eq_true p9; replace q9 := eq_true q9; obtain ⟨hy22_, hz22_⟩ := Kd.R_celln false HO625.out ((rd y627 0) : Int) (jB za) (jB za); have HP22 := Kd.R_putg HO625.out ((rd y627 0) : Int) true) | ((with_reducible refine gate_store (t := 4) (p := 24) rfl ?_); refine store_event (t := 4) (p := 24) (v := ?vo_w23) (w1 := (w19.setCell ⟨go9, ((rd y627 0) : Int).toNat, none⟩ (.bool true))) ?hg ?ho ?hn ?hr ?_; (case ho => rfl); (case hg => rfl); (case hn => rfl); (case hr => first | (go_simp; done) | (go_simp; rfl)); intro w23 hw; have hg : w19.grownBy w23 (some go9) := (by rw [hw]; exact HP22.2); have hp_ : Kd.R Kd.bool 4 w23 w.heap.size (fun _ => True) (.slice (some ⟨go9, 0, none⟩) y623.length co9) y631 := (by rw [hw, Ny631.out]; exact HP22.1); clear HP22; replace BK619 := jA (blk_grown (g := gb619) (o := .cells #[.bool a0_0, .bool a0_1, .bool a0_2, .bool a0_3, .bool a0_4, .int .i64 a0_5] 23 (0, 0)) (zk BK619) hg (Kd.R_ne HO625.out BK619.out (by decide))); replace HO622 := jA (Kd.S_over' (v := (.slice (some ⟨go9, 0, none⟩) y623.length co9)) (by (with_reducible repeat (first | apply Kd.S_alloc | apply Kd.S_drewN | apply Kd.S_drew)); exact HO622.out) (Kd.R_typed HO625.out) (by decide) hg); replace HO629 := jA (Kd.R_over' (v := (.slice (some ⟨go9, 0, none⟩) y623.length co9)) (zo HO629) (Kd.R_typed HO625.out) (by decide) hg); replace HO625 := jA (hp_); replace HB := jA ((by rw [hw]; exact below_set (HB.out) GB9.out : Below w.heap.size w w23)); clear hg hw hp_))
      go_loopg [8] k (fun kq v8 w' => ∃ (x6_1 : List (List Int)) (x7_1 : List Bool) (x8_1 : List Int), Aside0 (impl_shortest.l0 kq l1 x6_1 x7_1 x8_1 = some (r1, r2)) ∧ Aside0 (kq ≤ k) ∧ Aside0 (Kd.S (Kd.slice 2 (Kd.int .i64)) 35 w' w.heap.size (fun k_ => some k_ ≠ (v8 : Value).ownBlock) v621 x6_1) ∧ Aside0 (Kd.R Kd.bool 4 w' w.heap.size (fun _ => True) (.slice (some ⟨go9, 0, none⟩) y623.length co9) x7_1) ∧ Aside0 (Kd.Q (Kd.int .i64) 2 w' w.heap.size (fun _ => True) v8 x8_1) ∧ Aside0 (w'.heap[gb619]? = some (.cells #[.bool a0_0, .bool a0_1, .bool a0_2, .bool a0_3, .bool a0_4, .int .i64 a0_5] 23 (0, 0))) ∧ Aside0 (Below w.heap.size w w'))
      case atStart => exact ⟨(y620), (y631), (y627), H', ⟨Nat.le_refl _⟩, ⟨by (with_reducible repeat (first | apply Kd.S_alloc | apply Kd.S_drewN | apply Kd.S_drew)); exact Kd.S_mono HO622.out (fun _ hk => hk.2)⟩, ⟨zo HO625⟩, ⟨Kd.Q_of_R (zo HO629)⟩, ⟨zk BK619⟩, ⟨zb1 HB GE619⟩⟩
      case round =>
       clear H'
       try clear c1
       try clear p2
       try clear c3
       try clear c3b0
       try clear c3b1
       try clear c4
       try clear c4b0
       try clear c4b1
       try clear c5
       try clear c6
       try clear c6b0
       try clear c6b1
       try clear p6
       try clear q6
       try clear hx6
       try clear qi6
       try clear c7
       try clear c7b0
       try clear c8
       try clear c8b0
       try clear p9
       try clear q9
       try clear hx9
       try clear hf9
       try clear hcz17
       try clear hx630_0
       try clear hx9_0
       try clear p630
       try clear p9
       try clear q630
       try clear q9
       obtain ⟨x6_1, x7_1, x8_1, HA, HK1, HO_6, HO_7, HO_8, BK619, HB⟩ := hrel
       have hl7_1 := (jO HO_7.out).1
       rw [hl7_1] at HO_7
       (try simp only [hl7_1])
       (try simp only [hl7_1] at BK619)
       (try simp only [hl7_1] at HO_6)
       (try simp only [hl7_1] at HO_8)
       cases gk with
       | zero => exact absurd HA.out (by simp [impl_shortest.l0])
       | succ k1 =>
        have H := HA.out
        clear HA
        simp only [impl_shortest.l0] at H
        by_cases c24 : (x8_1.length : Int) > 0
        ·rw [if_pos c24] at H
         have c24b0 : decide (0 < (x8_1.length : Int)) = true := jI c24
         have c24b1 : decide (0 < x8_1.length) = true := jI (by omega)
         clear c24
         by_cases c25 : 0 < (x8_1.length : Int)
         ·rw [if_pos c25] at H
          have c25b0 : decide (0 < (x8_1.length : Int)) = true := jI c25
          have c25b1 : decide (0 < x8_1.length) = true := jI (by omega)
          clear c25
          by_cases c26 : 1 ≤ (x8_1.length : Int)
          ·rw [if_pos c26] at H
           have c26b0 := eq_true c26
           have c26b1 : decide (1 ≤ (x8_1.length : Int)) = true := jI c26
           clear c26
           obtain ⟨y633, hy633⟩ : ∃ y_ : List Int, y_ = (x8_1.drop (1 : Int).toNat) := ⟨_, rfl⟩
           replace H : (impl_shortest.l1 k1 l1 x6_1 x7_1 y633 (rd x8_1 0) l1 (l1.length : Int) 0) = some (r1, r2) := by first | (rw [hy633]; with_reducible exact H) | (have H2_ := (Option.bind_some _ _).symm.trans H; rw [hy633]; with_reducible exact H2_) | (have H2_ := (Option.bind_some _ _).symm.trans H; with_reducible exact H2_) | with_reducible exact H | (rw [hy633]; exact H) | exact H
           have Ny633 := jA hy633
           clear hy633
           have H' := jA H
           clear H
           obtain ⟨Ao27, co27, eo27, _⟩ := Kd.Q_slice HO_8.out
           subst eo27
           have p632 : 0 ≤ (0 : Int) := (by omega)
           have q632 : 0 < (x8_1.length : Int) := jB za
           obtain ⟨ad632, e632, hx632_0⟩ := jR (Kd.Q_reads' HO_8.out).2.2 0 p632 q632
           cases e632
           have qi632 : (0 < x8_1.length) = True := eq_true (by omega)
           (try rw [show ((0 : Int)).toNat = 0 from rfl] at hx632_0)
           (try rw [Addr.add_zero'] at hx632_0)
           replace p632 := eq_true p632
           replace q632 := eq_true q632
           have q28 : (1 : Int) ≤ ((x8_1.length : Int) : Int) := jB za
           obtain ⟨i028, hi028, _, hsz28, _⟩ := info_parts info2
           have hcut28 := cut_from (P := Try.prog) 35 2 .i64 Try.underlying35 hi028 1 hsz28 (some ad632) x8_1.length co27 1 (by omega) q28
           have hr28 := Kd.Q_drop (k := (1 : Int).toNat) HO_8.out (by omega)
           obtain ⟨A28, hA28⟩ : ∃ A1, A1 = (if co27 = (1 : Int).toNat then (some ad632) else ((some ad632) : Option Addr).map (·.add ((1 : Int).toNat * 1))) := ⟨_, rfl⟩
           obtain ⟨c28, hc28⟩ : ∃ c1, c1 = co27 - (1 : Int).toNat := ⟨_, rfl⟩
           have hy28 : y633.length = x8_1.length - (1 : Int).toNat := (by rw [Ny633.out, List.length_drop])
           rw [← Ny633.out] at hr28
           rw [← hy28, ← hA28, ← hc28] at hcut28
           replace hr28 : Kd.Q (Kd.int .i64) 2 wr w.heap.size (fun _ => True) (.slice A28 y633.length c28) y633 := (by rw [hA28, hc28, hy28]; exact hr28)
           have HE28 : Aside0 ((Value.slice A28 y633.length c28).ownBlock = (.slice (some ad632) x8_1.length co27 : Value).ownBlock) := ⟨by rw [hA28]; split <;> (cases ((some ad632) : Option Addr) <;> rfl)⟩
           clear hy28 hi028 hsz28 HO_8 hA28 hc28
           have HO635 := jA hr28
           clear hr28
           replace q28 := eq_true q28
           have n_ := jA (Kd.S_mono (ok' := fun k_ => some k_ ≠ (.slice A28 y633.length c28 : Value).ownBlock) HO_6.out (fun k_ hk => (by rw [HE28.out]; exact hk)))
           clear HO_6
           have HO_6 := n_
           clear n_
           go_wp2
           go_loopg [8, 35] k1 (fun kq v8 v35 w' => ∃ (x6_2 : List (List Int)) (x7_2 : List Bool) (x8_2 : List Int) (x35_2 : Int), v35 = .int .i64 x35_2 ∧ Aside0 (impl_shortest.l1 kq l1 x6_2 x7_2 x8_2 (rd x8_1 0) l1 (l1.length : Int) x35_2 = some (r1, r2)) ∧ Aside0 (kq ≤ k1) ∧ Aside0 (Kd.S (Kd.slice 2 (Kd.int .i64)) 35 w' w.heap.size (fun k_ => some k_ ≠ (v8 : Value).ownBlock) v621 x6_2) ∧ Aside0 (Kd.R Kd.bool 4 w' w.heap.size (fun _ => True) (.slice (some ⟨go9, 0, none⟩) x7_1.length co9) x7_2) ∧ Aside0 (Kd.Q (Kd.int .i64) 2 w' w.heap.size (fun _ => True) v8 x8_2) ∧ Aside0 (w'.heap[gb619]? = some (.cells #[.bool a0_0, .bool a0_1, .bool a0_2, .bool a0_3, .bool a0_4, .int .i64 a0_5] 23 (0, 0))) ∧ Aside0 (Below w.heap.size w w'))
           case atStart => exact ⟨(x6_1), (x7_1), (y633), (0), zz, H', ⟨Nat.le_refl _⟩, ⟨by (try simp only [hl7_1]); (with_reducible repeat (first | apply Kd.S_alloc | apply Kd.S_drewN | apply Kd.S_drew)); exact HO_6.out⟩, ⟨by (try simp only [hl7_1]); (with_reducible repeat (first | apply ja | apply jZ | apply Kd.R_drew)); exact HO_7.out⟩, ⟨by (try simp only [hl7_1]); (with_reducible repeat (first | apply Kd.Q_alloc | apply Kd.Q_drewN | apply Kd.Q_drew)); exact HO635.out⟩, ⟨by (try simp only [hl7_1]); (with_reducible repeat (first | refine blk_drewN ?_ _ | refine blk_drew ?_ | refine blk_alloc ?_ _)); exact BK619.out⟩, ⟨zb1 HB GE619⟩⟩
           case round =>
            clear H'
            try clear c1
            try clear c2
            try clear p2
            try clear q2
            try clear c3
            try clear c3b0
            try clear c3b1
            try clear c4
            try clear c4b0
            try clear c4b1
            try clear c5
            try clear c6
            try clear c6b0
            try clear c6b1
            try clear p6
            try clear q6
            try clear hx6
            try clear qi6
            try clear c7
            try clear c7b0
            try clear c8
            try clear c8b0
            try clear p9
            try clear q9
            try clear hx9
            try clear hf9
            try clear c24
            try clear c24b0
            try clear c24b1
            try clear c25
            try clear c25b0
            try clear c25b1
            try clear c26
            try clear c26b0
            try clear c26b1
            try clear c28
            try clear q28
            try clear hcz17
            try clear hx630_0
            try clear hx632_0
            try clear hx9_0
            try clear p2
            try clear p6
            try clear p630
            try clear p632
            try clear p9
            try clear q28
            try clear q6
            try clear q630
            try clear q632
            try clear q9
            obtain ⟨x6_2, x7_2, x8_2, x35_2, rfl, HA, HK2, HO_6, HO_7, HO_8, BK619, HB⟩ := hrel
            have hl7_2 := (jO HO_7.out).1
            rw [hl7_2] at HO_7
            (try simp only [hl7_2])
            (try simp only [hl7_2] at BK619)
            (try simp only [hl7_2] at HO_6)
            (try simp only [hl7_2] at HO_8)
            cases gk with
            | zero => exact absurd HA.out (by simp [impl_shortest.l1])
            | succ k2 =>
             have H := HA.out
             clear HA
             simp only [impl_shortest.l1] at H
             by_cases c29 : x35_2 < (l1.length : Int)
             ·rw [if_pos c29] at H
              have c29b0 : decide (x35_2 < (l1.length : Int)) = true := jI c29
              clear c29
              by_cases c30 : 0 ≤ x35_2
              ·rw [if_pos c30] at H
               have c30b0 : decide (0 ≤ x35_2) = true := jI c30
               clear c30
               by_cases c31 : x35_2 < (l1.length : Int)
               ·rw [if_pos c31] at H
                have c31b0 : decide (x35_2 < (l1.length : Int)) = true := jI c31
                clear c31
                replace H := jC.mp H
                obtain ⟨⟨t637, t638, t639, t640, t641, t642⟩, A320, H⟩ := H
                replace H : ((impl_giveInput.f t637 t638 t639 t640 t641 t642 (rd l1 x35_2)).bind fun bt643 => ((impl_numberOf.f bt643.1 bt643.2.1 bt643.2.2.1 bt643.2.2.2.1 bt643.2.2.2.2.1 bt643.2.2.2.2.2.1).bind fun t651 => (if bt643.2.2.2.2.2.2 = 0 then (if 0 ≤ t651 then (if t651 < (x7_2.length : Int) then (if rdOf false x7_2 t651 = true then (impl_shortest.l1 k2 l1 x6_2 x7_2 x8_2 (rd x8_1 0) l1 (l1.length : Int) (wrap64 (x35_2 + 1))) else (if 0 ≤ (rd x8_1 0) then (if (rd x8_1 0) < (x6_2.length : Int) then ((impl_copyList.f (rd_L3 x6_2 (rd x8_1 0))).bind fun t655 => (if t655.length < 17592186044416 then (if t651 < (x6_2.length : Int) then (if x8_2.length < 17592186044416 then (impl_shortest.l1 k2 l1 (x6_2.set (t651 : Int).toNat (t655 ++ [rd l1 x35_2])) (x7_2.set (t651 : Int).toNat true) (x8_2 ++ [t651]) (rd x8_1 0) l1 (l1.length : Int) (wrap64 (x35_2 + 1))) else (none)) else (none)) else (none))) else (none)) else (none))) else (none)) else (none)) else (impl_shortest.l1 k2 l1 x6_2 x7_2 x8_2 (rd x8_1 0) l1 (l1.length : Int) (wrap64 (x35_2 + 1)))))) = some (r1, r2) := H
                have A32 := jA A320
                clear A320
                replace H := jC.mp H
                obtain ⟨⟨t643, t644, t645, t646, t647, t648, t649⟩, A330, H⟩ := H
                replace H : ((impl_numberOf.f t643 t644 t645 t646 t647 t648).bind fun t651 => (if t649 = 0 then (if 0 ≤ t651 then (if t651 < (x7_2.length : Int) then (if rdOf false x7_2 t651 = true then (impl_shortest.l1 k2 l1 x6_2 x7_2 x8_2 (rd x8_1 0) l1 (l1.length : Int) (wrap64 (x35_2 + 1))) else (if 0 ≤ (rd x8_1 0) then (if (rd x8_1 0) < (x6_2.length : Int) then ((impl_copyList.f (rd_L3 x6_2 (rd x8_1 0))).bind fun t655 => (if t655.length < 17592186044416 then (if t651 < (x6_2.length : Int) then (if x8_2.length < 17592186044416 then (impl_shortest.l1 k2 l1 (x6_2.set (t651 : Int).toNat (t655 ++ [rd l1 x35_2])) (x7_2.set (t651 : Int).toNat true) (x8_2 ++ [t651]) (rd x8_1 0) l1 (l1.length : Int) (wrap64 (x35_2 + 1))) else (none)) else (none)) else (none))) else (none)) else (none))) else (none)) else (none)) else (impl_shortest.l1 k2 l1 x6_2 x7_2 x8_2 (rd x8_1 0) l1 (l1.length : Int) (wrap64 (x35_2 + 1))))) = some (r1, r2) := H
                have A33 := jA A330
                clear A330
                replace H := jC.mp H
                obtain ⟨t651, A340, H⟩ := H
                replace H : (if t649 = 0 then (if 0 ≤ t651 then (if t651 < (x7_2.length : Int) then (if rdOf false x7_2 t651 = true then (impl_shortest.l1 k2 l1 x6_2 x7_2 x8_2 (rd x8_1 0) l1 (l1.length : Int) (wrap64 (x35_2 + 1))) else (if 0 ≤ (rd x8_1 0) then (if (rd x8_1 0) < (x6_2.length : Int) then ((impl_copyList.f (rd_L3 x6_2 (rd x8_1 0))).bind fun t655 => (if t655.length < 17592186044416 then (if t651 < (x6_2.length : Int) then (if x8_2.length < 17592186044416 then (impl_shortest.l1 k2 l1 (x6_2.set (t651 : Int).toNat (t655 ++ [rd l1 x35_2])) (x7_2.set (t651 : Int).toNat true) (x8_2 ++ [t651]) (rd x8_1 0) l1 (l1.length : Int) (wrap64 (x35_2 + 1))) else (none)) else (none)) else (none))) else (none)) else (none))) else (none)) else (none)) else (impl_shortest.l1 k2 l1 x6_2 x7_2 x8_2 (rd x8_1 0) l1 (l1.length : Int) (wrap64 (x35_2 + 1)))) = some (r1, r2) := H
                have A34 := jA A340
                clear A340
                by_cases c35 : t649 = 0
                ·rw [if_pos c35] at H
                 have c35b0 : (t649 == 0) = true := beq_iff_eq.mpr c35
                 have c35b1 : (t649 != 0) = false := bne_eq_false_iff_eq.mpr c35
                 clear c35
                 by_cases c36 : 0 ≤ t651
                 ·rw [if_pos c36] at H
                  have c36b0 : decide (0 ≤ t651) = true := jI c36
                  clear c36
                  by_cases c37 : t651 < (x7_2.length : Int)
                  ·rw [if_pos c37] at H
                   have c37b0 : decide (t651 < (x7_2.length : Int)) = true := jI c37
                   clear c37
                   obtain ⟨bq38, hbq38⟩ : ∃ b_ : Bool, b_ = (rdOf false x7_2 t651) := ⟨_, rfl⟩
                   replace H : (if bq38 = true then (impl_shortest.l1 k2 l1 x6_2 x7_2 x8_2 (rd x8_1 0) l1 (l1.length : Int) (wrap64 (x35_2 + 1))) else (if 0 ≤ (rd x8_1 0) then (if (rd x8_1 0) < (x6_2.length : Int) then ((impl_copyList.f (rd_L3 x6_2 (rd x8_1 0))).bind fun t655 => (if t655.length < 17592186044416 then (if t651 < (x6_2.length : Int) then (if x8_2.length < 17592186044416 then (impl_shortest.l1 k2 l1 (x6_2.set (t651 : Int).toNat (t655 ++ [rd l1 x35_2])) (x7_2.set (t651 : Int).toNat true) (x8_2 ++ [t651]) (rd x8_1 0) l1 (l1.length : Int) (wrap64 (x35_2 + 1))) else (none)) else (none)) else (none))) else (none)) else (none))) = some (r1, r2) := by rw [← hbq38] at H; exact H
                   have Nbq38 := jA hbq38
                   clear hbq38
                   by_cases c39 : bq38 = true
                   ·subst c39
                    rw [if_pos rfl] at H
                    have H' := jA H
                    clear H
                    have p636 : 0 ≤ (x35_2 : Int) := jB za
                    have q636 : x35_2 < (l1.length : Int) := jB za
                    obtain ⟨ad636, e636, hx636_0⟩ := jR HR1.out x35_2 p636 q636
                    cases e636
                    replace hx636_0 := zx HB hx636_0
                    replace p636 := eq_true p636
                    replace q636 := eq_true q636
                    go_wp2_with (first | ((with_reducible refine jG (f := 50) rfl ?_); refine zL (some 41) Try.func50 #[.int .i64 (rd x8_1 0)] ?_; (with_reducible refine (impl_controllerWith.calls (rd x8_1 0) t637 t638 t639 t640 t641 t642 _ A32.out).mono ?_); rintro e w40 ⟨rfl, hb⟩; refine ⟨_, rfl, ?_⟩; replace HO_6 := jA (Kd.S_below (by (with_reducible repeat (first | apply Kd.S_alloc | apply Kd.S_drewN | apply Kd.S_drew)); exact HO_6.out) hb); replace HO_7 := jA (jP (zo HO_7) hb); replace HO_8 := jA (Kd.Q_below (by (with_reducible repeat (first | apply Kd.Q_alloc | apply Kd.Q_drewN | apply Kd.Q_drew)); exact HO_8.out) hb); replace BK619 := zB BK619 hb; replace HB := zS1 HB GE619 hb; clear hb) | ((with_reducible refine jG (f := 67) rfl ?_); refine zL (some 43) Try.func67 #[.agg #[.bool t637, .bool t638, .bool t639, .bool t640, .bool t641, .int .i64 t642], .int .i64 (rd l1 x35_2)] ?_; (with_reducible refine (impl_giveInput.calls t637 t638 t639 t640 t641 t642 (rd l1 x35_2) t643 t644 t645 t646 t647 t648 t649 _ A33.out).mono ?_); rintro e w41 ⟨rfl, hb⟩; refine ⟨_, rfl, ?_⟩; replace HO_6 := jA (Kd.S_below (by (with_reducible repeat (first | apply Kd.S_alloc | apply Kd.S_drewN | apply Kd.S_drew)); exact HO_6.out) hb); replace HO_7 := jA (jP (zo HO_7) hb); replace HO_8 := jA (Kd.Q_below (by (with_reducible repeat (first | apply Kd.Q_alloc | apply Kd.Q_drewN | apply Kd.Q_drew)); exact HO_8.out) hb); replace BK619 := zB BK619 hb; replace HB := zS1 HB GE619 hb; clear hb) | ((with_reducible refine jJ (N := 12) rfl ?_); refine zE 12 #[.bool false, .bool false, .bool false, .bool false, .bool false, .int .i64 0] 23 ?_; intro gb650 hg w42 hbox hb; replace HO_6 := jA (Kd.S_below (by (with_reducible repeat (first | apply Kd.S_alloc | apply Kd.S_drewN | apply Kd.S_drew)); exact HO_6.out) hb); replace HO_7 := jA (jP (zo HO_7) hb); replace HO_8 := jA (Kd.Q_below (by (with_reducible repeat (first | apply Kd.Q_alloc | apply Kd.Q_drewN | apply Kd.Q_drew)); exact HO_8.out) hb); have BK650 := jA (hbox); have GW650 := zg1 hg HB GE619; have GE650 := zg1 hg HB GE619; replace HB := zS1 HB GE619 hb; have NB619_650 := zn hg BK619; replace BK619 := zB BK619 hb; have NB650_619 := jA NB619_650.out.symm; clear hb hbox hg; have hnb43 := NB650_619.out; have hnc43 := NB619_650.out; have hcz44 := zc6 BK650) | ((with_reducible refine jG (f := 53) rfl ?_); refine zL (some 47) Try.func53 #[.agg #[.bool t643, .bool t644, .bool t645, .bool t646, .bool t647, .int .i64 t648]] ?_; (with_reducible refine (impl_numberOf.calls t643 t644 t645 t646 t647 t648 t651 _ A34.out).mono ?_); rintro e w45 ⟨rfl, hb⟩; refine ⟨_, rfl, ?_⟩; replace HO_6 := jA (Kd.S_below (by (with_reducible repeat (first | apply Kd.S_alloc | apply Kd.S_drewN | apply Kd.S_drew)); exact (Kd.S_mono (Kd.S_far (p := ⟨gb650, 5, none⟩) (Kd.S_far (p := ⟨gb650, 4, none⟩) (Kd.S_far (p := ⟨gb650, 3, none⟩) (Kd.S_far (p := ⟨gb650, 2, none⟩) (Kd.S_far (p := ⟨gb650, 1, none⟩) (Kd.S_far (p := ⟨gb650, 0, none⟩) (Kd.S_types HO_6.out BK650.out (by decide)) (fun _ hk => hk.2) (.bool t643)) (fun _ hk => hk.2) (.bool t644)) (fun _ hk => hk.2) (.bool t645)) (fun _ hk => hk.2) (.bool t646)) (fun _ hk => hk.2) (.bool t647)) (fun _ hk => hk.2) (.int .i64 t648)) (fun _ h_ => h_.1))) hb); replace HO_7 := jA (jP (zU HO_7 BK650) hb); replace HO_8 := jA (Kd.Q_below (by (with_reducible repeat (first | apply Kd.Q_alloc | apply Kd.Q_drewN | apply Kd.Q_drew)); exact (Kd.Q_mono (Kd.Q_far (p := ⟨gb650, 5, none⟩) (Kd.Q_far (p := ⟨gb650, 4, none⟩) (Kd.Q_far (p := ⟨gb650, 3, none⟩) (Kd.Q_far (p := ⟨gb650, 2, none⟩) (Kd.Q_far (p := ⟨gb650, 1, none⟩) (Kd.Q_far (p := ⟨gb650, 0, none⟩) (Kd.Q_types HO_8.out BK650.out (by decide)) (fun _ hk => hk.2) (.bool t643)) (fun _ hk => hk.2) (.bool t644)) (fun _ hk => hk.2) (.bool t645)) (fun _ hk => hk.2) (.bool t646)) (fun _ hk => hk.2) (.bool t647)) (fun _ hk => hk.2) (.int .i64 t648)) (fun _ h_ => h_.1))) hb); replace BK619 := jA (jU (g := gb619) (o := .cells #[.bool a0_0, .bool a0_1, .bool a0_2, .bool a0_3, .bool a0_4, .int .i64 a0_5] 23 (0, 0)) (zQ1 BK619 NB619_650) hb); replace BK650 := jA (jU (g := gb650) (o := .cells #[.bool t643, .bool t644, .bool t645, .bool t646, .bool t647, .int .i64 t648] 23 (0, 0)) (zP0 BK650) hb); replace HB := zS2 HB GE619 GE650 hb; clear hb; have p652 : 0 ≤ (t651 : Int) := jB za; have q652 : t651 < (x7_2.length : Int) := jB za; obtain ⟨ad652, e652, hx652_0⟩ := Kd.at_bool (jO HO_7.out).2.2 t651 p652 q652; (try rw [← Nbq38.out] at hx652_0); obtain rfl : (⟨go9, 0, none⟩ : Addr) = ad652 := (by injection e652); (first | simp only [add_plain] at hx652_0 | simp only [add_at] at hx652_0 | simp only [Addr.add, Nat.zero_add] at hx652_0 | skip); replace p652 := eq_true p652; replace q652 := eq_true q652))
                    (try simp only [← hl7_2])
                    go_roundg k2
                    case measure => have := HK1.out; have := HK2.out; omega
                    case rel => exact ⟨(x6_2), (x7_2), (x8_2), (wrap64 (x35_2 + 1)), zz, H', ⟨by have := HK1.out; have := HK2.out; omega⟩, ⟨by (try simp only [hl7_1]); (try simp only [hl7_2]); (with_reducible repeat (first | apply Kd.S_alloc | apply Kd.S_drewN | apply Kd.S_drew)); exact HO_6.out⟩, ⟨by (try simp only [hl7_1]); (try simp only [hl7_2]); (with_reducible repeat (first | apply ja | apply jZ | apply Kd.R_drew)); exact HO_7.out⟩, ⟨by (try simp only [hl7_1]); (try simp only [hl7_2]); (with_reducible repeat (first | apply Kd.Q_alloc | apply Kd.Q_drewN | apply Kd.Q_drew)); exact HO_8.out⟩, ⟨by (try simp only [hl7_1]); (try simp only [hl7_2]); (with_reducible repeat (first | refine blk_drewN ?_ _ | refine blk_drew ?_ | refine blk_alloc ?_ _)); exact BK619.out⟩, ⟨zb2 HB GE619 GE650⟩⟩
                   ·replace c39 := Bool.eq_false_iff.mpr c39
                    subst c39
                    rw [if_neg zfalse] at H
                    obtain ⟨y653, hy653⟩ : ∃ y_ : List Bool, y_ = (x7_2.set (t651 : Int).toNat true) := ⟨_, rfl⟩
                    replace H : (if 0 ≤ (rd x8_1 0) then (if (rd x8_1 0) < (x6_2.length : Int) then ((impl_copyList.f (rd_L3 x6_2 (rd x8_1 0))).bind fun t655 => (if t655.length < 17592186044416 then (if t651 < (x6_2.length : Int) then (if x8_2.length < 17592186044416 then (impl_shortest.l1 k2 l1 (x6_2.set (t651 : Int).toNat (t655 ++ [rd l1 x35_2])) y653 (x8_2 ++ [t651]) (rd x8_1 0) l1 (l1.length : Int) (wrap64 (x35_2 + 1))) else (none)) else (none)) else (none))) else (none)) else (none)) = some (r1, r2) := by first | (rw [hy653]; with_reducible exact H) | (have H2_ := (Option.bind_some _ _).symm.trans H; rw [hy653]; with_reducible exact H2_) | (have H2_ := (Option.bind_some _ _).symm.trans H; with_reducible exact H2_) | with_reducible exact H | (rw [hy653]; exact H) | exact H
                    have Ny653 := jA hy653
                    clear hy653
                    by_cases c47 : 0 ≤ (rd x8_1 0)
                    ·rw [if_pos c47] at H
                     have c47b0 : decide (0 ≤ (rd x8_1 0)) = true := jI c47
                     clear c47
                     by_cases c48 : (rd x8_1 0) < (x6_2.length : Int)
                     ·rw [if_pos c48] at H
                      have c48b0 : decide ((rd x8_1 0) < (x6_2.length : Int)) = true := jI c48
                      clear c48
                      replace H := jC.mp H
                      obtain ⟨t655, A490, H⟩ := H
                      replace H : (if t655.length < 17592186044416 then (if t651 < (x6_2.length : Int) then (if x8_2.length < 17592186044416 then (impl_shortest.l1 k2 l1 (x6_2.set (t651 : Int).toNat (t655 ++ [rd l1 x35_2])) y653 (x8_2 ++ [t651]) (rd x8_1 0) l1 (l1.length : Int) (wrap64 (x35_2 + 1))) else (none)) else (none)) else (none)) = some (r1, r2) := H
                      have A49 := jA A490
                      clear A490
                      by_cases c50 : t655.length < 17592186044416
                      ·rw [if_pos c50] at H
                       have LMc50 := jA c50
                       clear c50
                       obtain ⟨y658, hy658⟩ : ∃ y_ : List Int, y_ = (t655 ++ [rd l1 x35_2]) := ⟨_, rfl⟩
                       replace H : (if t651 < (x6_2.length : Int) then (if x8_2.length < 17592186044416 then (impl_shortest.l1 k2 l1 (x6_2.set (t651 : Int).toNat y658) y653 (x8_2 ++ [t651]) (rd x8_1 0) l1 (l1.length : Int) (wrap64 (x35_2 + 1))) else (none)) else (none)) = some (r1, r2) := by first | (rw [hy658]; with_reducible exact H) | (have H2_ := (Option.bind_some _ _).symm.trans H; rw [hy658]; with_reducible exact H2_) | (have H2_ := (Option.bind_some _ _).symm.trans H; with_reducible exact H2_) | with_reducible exact H | (rw [hy658]; exact H) | exact H
                       have Ny658 := jA hy658
                       clear hy658
                       by_cases c51 : t651 < (x6_2.length : Int)
                       ·rw [if_pos c51] at H
                        have c51b0 : decide (t651 < (x6_2.length : Int)) = true := jI c51
                        clear c51
                        obtain ⟨y661, hy661⟩ : ∃ y_ : List (List Int), y_ = (x6_2.set (t651 : Int).toNat y658) := ⟨_, rfl⟩
                        replace H : (if x8_2.length < 17592186044416 then (impl_shortest.l1 k2 l1 y661 y653 (x8_2 ++ [t651]) (rd x8_1 0) l1 (l1.length : Int) (wrap64 (x35_2 + 1))) else (none)) = some (r1, r2) := by first | (rw [hy661]; with_reducible exact H) | (have H2_ := (Option.bind_some _ _).symm.trans H; rw [hy661]; with_reducible exact H2_) | (have H2_ := (Option.bind_some _ _).symm.trans H; with_reducible exact H2_) | with_reducible exact H | (rw [hy661]; exact H) | exact H
                        have Ny661 := jA hy661
                        clear hy661
                        by_cases c53 : x8_2.length < 17592186044416
                        ·rw [if_pos c53] at H
                         have LMc53 := jA c53
                         clear c53
                         obtain ⟨y662, hy662⟩ : ∃ y_ : List Int, y_ = (x8_2 ++ [t651]) := ⟨_, rfl⟩
                         replace H : (impl_shortest.l1 k2 l1 y661 y653 y662 (rd x8_1 0) l1 (l1.length : Int) (wrap64 (x35_2 + 1))) = some (r1, r2) := by first | (rw [hy662]; with_reducible exact H) | (have H2_ := (Option.bind_some _ _).symm.trans H; rw [hy662]; with_reducible exact H2_) | (have H2_ := (Option.bind_some _ _).symm.trans H; with_reducible exact H2_) | with_reducible exact H | (rw [hy662]; exact H) | exact H
                         have Ny662 := jA hy662
                         clear hy662
                         have H' := jA H
                         clear H
                         have p636 : 0 ≤ (x35_2 : Int) := jB za
                         have q636 : x35_2 < (l1.length : Int) := jB za
                         obtain ⟨ad636, e636, hx636_0⟩ := jR HR1.out x35_2 p636 q636
                         cases e636
                         replace hx636_0 := zx HB hx636_0
                         replace p636 := eq_true p636
                         replace q636 := eq_true q636
                         go_wp2_with (first | ((with_reducible refine jG (f := 50) rfl ?_); refine zL (some 41) Try.func50 #[.int .i64 (rd x8_1 0)] ?_; (with_reducible refine (impl_controllerWith.calls (rd x8_1 0) t637 t638 t639 t640 t641 t642 _ A32.out).mono ?_); rintro e w54 ⟨rfl, hb⟩; refine ⟨_, rfl, ?_⟩; replace HO_6 := jA (Kd.S_below (by (with_reducible repeat (first | apply Kd.S_alloc | apply Kd.S_drewN | apply Kd.S_drew)); exact HO_6.out) hb); replace HO_7 := jA (jP (zo HO_7) hb); replace HO_8 := jA (Kd.Q_below (by (with_reducible repeat (first | apply Kd.Q_alloc | apply Kd.Q_drewN | apply Kd.Q_drew)); exact HO_8.out) hb); replace BK619 := zB BK619 hb; replace HB := zS1 HB GE619 hb; clear hb) | ((with_reducible refine jG (f := 67) rfl ?_); refine zL (some 43) Try.func67 #[.agg #[.bool t637, .bool t638, .bool t639, .bool t640, .bool t641, .int .i64 t642], .int .i64 (rd l1 x35_2)] ?_; (with_reducible refine (impl_giveInput.calls t637 t638 t639 t640 t641 t642 (rd l1 x35_2) t643 t644 t645 t646 t647 t648 t649 _ A33.out).mono ?_); rintro e w55 ⟨rfl, hb⟩; refine ⟨_, rfl, ?_⟩; replace HO_6 := jA (Kd.S_below (by (with_reducible repeat (first | apply Kd.S_alloc | apply Kd.S_drewN | apply Kd.S_drew)); exact HO_6.out) hb); replace HO_7 := jA (jP (zo HO_7) hb); replace HO_8 := jA (Kd.Q_below (by (with_reducible repeat (first | apply Kd.Q_alloc | apply Kd.Q_drewN | apply Kd.Q_drew)); exact HO_8.out) hb); replace BK619 := zB BK619 hb; replace HB := zS1 HB GE619 hb; clear hb) | ((with_reducible refine jJ (N := 12) rfl ?_); refine zE 12 #[.bool false, .bool false, .bool false, .bool false, .bool false, .int .i64 0] 23 ?_; intro gb650 hg w56 hbox hb; replace HO_6 := jA (Kd.S_below (by (with_reducible repeat (first | apply Kd.S_alloc | apply Kd.S_drewN | apply Kd.S_drew)); exact HO_6.out) hb); replace HO_7 := jA (jP (zo HO_7) hb); replace HO_8 := jA (Kd.Q_below (by (with_reducible repeat (first | apply Kd.Q_alloc | apply Kd.Q_drewN | apply Kd.Q_drew)); exact HO_8.out) hb); have BK650 := jA (hbox); have GW650 := zg1 hg HB GE619; have GE650 := zg1 hg HB GE619; replace HB := zS1 HB GE619 hb; have NB619_650 := zn hg BK619; replace BK619 := zB BK619 hb; have NB650_619 := jA NB619_650.out.symm; clear hb hbox hg; have hnb57 := NB650_619.out; have hnc57 := NB619_650.out; have hcz58 := zc6 BK650) | ((with_reducible refine jG (f := 53) rfl ?_); refine zL (some 47) Try.func53 #[.agg #[.bool t643, .bool t644, .bool t645, .bool t646, .bool t647, .int .i64 t648]] ?_; (with_reducible refine (impl_numberOf.calls t643 t644 t645 t646 t647 t648 t651 _ A34.out).mono ?_); rintro e w59 ⟨rfl, hb⟩; refine ⟨_, rfl, ?_⟩; replace HO_6 := jA (Kd.S_below (by (with_reducible repeat (first | apply Kd.S_alloc | apply Kd.S_drewN | apply Kd.S_drew)); exact (Kd.S_mono (Kd.S_far (p := ⟨gb650, 5, none⟩) (Kd.S_far (p := ⟨gb650, 4, none⟩) (Kd.S_far (p := ⟨gb650, 3, none⟩) (Kd.S_far (p := ⟨gb650, 2, none⟩) (Kd.S_far (p := ⟨gb650, 1, none⟩) (Kd.S_far (p := ⟨gb650, 0, none⟩) (Kd.S_types HO_6.out BK650.out (by decide)) (fun _ hk => hk.2) (.bool t643)) (fun _ hk => hk.2) (.bool t644)) (fun _ hk => hk.2) (.bool t645)) (fun _ hk => hk.2) (.bool t646)) (fun _ hk => hk.2) (.bool t647)) (fun _ hk => hk.2) (.int .i64 t648)) (fun _ h_ => h_.1))) hb); replace HO_7 := jA (jP (zU HO_7 BK650) hb); replace HO_8 := jA (Kd.Q_below (by (with_reducible repeat (first | apply Kd.Q_alloc | apply Kd.Q_drewN | apply Kd.Q_drew)); exact (Kd.Q_mono (Kd.Q_far (p := ⟨gb650, 5, none⟩) (Kd.Q_far (p := ⟨gb650, 4, none⟩) (Kd.Q_far (p := ⟨gb650, 3, none⟩) (Kd.Q_far (p := ⟨gb650, 2, none⟩) (Kd.Q_far (p := ⟨gb650, 1, none⟩) (Kd.Q_far (p := ⟨gb650, 0, none⟩) (Kd.Q_types HO_8.out BK650.out (by decide)) (fun _ hk => hk.2) (.bool t643)) (fun _ hk => hk.2) (.bool t644)) (fun _ hk => hk.2) (.bool t645)) (fun _ hk => hk.2) (.bool t646)) (fun _ hk => hk.2) (.bool t647)) (fun _ hk => hk.2) (.int .i64 t648)) (fun _ h_ => h_.1))) hb); replace BK619 := jA (jU (g := gb619) (o := .cells #[.bool a0_0, .bool a0_1, .bool a0_2, .bool a0_3, .bool a0_4, .int .i64 a0_5] 23 (0, 0)) (zQ1 BK619 NB619_650) hb); replace BK650 := jA (jU (g := gb650) (o := .cells #[.bool t643, .bool t644, .bool t645, .bool t646, .bool t647, .int .i64 t648] 23 (0, 0)) (zP0 BK650) hb); replace HB := zS2 HB GE619 GE650 hb; clear hb; have p652 : 0 ≤ (t651 : Int) := jB za; have q652 : t651 < (x7_2.length : Int) := jB za; obtain ⟨ad652, e652, hx652_0⟩ := Kd.at_bool (jO HO_7.out).2.2 t651 p652 q652; (try rw [← Nbq38.out] at hx652_0); obtain rfl : (⟨go9, 0, none⟩ : Addr) = ad652 := (by injection e652); (first | simp only [add_plain] at hx652_0 | simp only [add_at] at hx652_0 | simp only [Addr.add, Nat.zero_add] at hx652_0 | skip); replace p652 := eq_true p652; replace q652 := eq_true q652; have p46 : 0 ≤ (t651 : Int) := jB za; have q46 : (t651 : Int) < ((x7_2.length : Int) : Int) := jB za; obtain ⟨hx46_0, hf46_0⟩ := Kd.R_celln false HO_7.out (t651 : Int) p46 q46; replace p46 := eq_true p46; replace q46 := eq_true q46; obtain ⟨hy60_, hz60_⟩ := Kd.R_celln false HO_7.out (t651 : Int) (jB za) (jB za); have HP60 := Kd.R_putg HO_7.out (t651 : Int) true) | ((with_reducible refine gate_store (t := 4) (p := 59) rfl ?_); refine store_event (t := 4) (p := 59) (v := ?vo_w61) (w1 := (w59.setCell ⟨go9, (t651 : Int).toNat, none⟩ (.bool true))) ?hg ?ho ?hn ?hr ?_; (case ho => rfl); (case hg => rfl); (case hn => rfl); (case hr => first | (go_simp; done) | (go_simp; rfl)); intro w61 hw; have hg : w59.grownBy w61 (some go9) := (by rw [hw]; exact HP60.2); have hp_ : Kd.R Kd.bool 4 w61 w.heap.size (fun _ => True) (.slice (some ⟨go9, 0, none⟩) x7_2.length co9) y653 := (by rw [hw, Ny653.out]; exact HP60.1); clear HP60; replace HO_6 := jA (Kd.S_over' (v := (.slice (some ⟨go9, 0, none⟩) x7_2.length co9)) (by (with_reducible repeat (first | apply Kd.S_alloc | apply Kd.S_drewN | apply Kd.S_drew)); exact HO_6.out) (Kd.R_typed HO_7.out) (by decide) hg); replace HO_8 := jA (Kd.Q_over' (v := (.slice (some ⟨go9, 0, none⟩) x7_2.length co9)) (by (with_reducible repeat (first | apply Kd.Q_alloc | apply Kd.Q_drewN | apply Kd.Q_drew)); exact HO_8.out) (Kd.R_typed HO_7.out) (by decide) hg); replace BK619 := jA (blk_grown (g := gb619) (o := .cells #[.bool a0_0, .bool a0_1, .bool a0_2, .bool a0_3, .bool a0_4, .int .i64 a0_5] 23 (0, 0)) (zk BK619) hg (Kd.R_ne HO_7.out BK619.out (by decide))); replace BK650 := jA (blk_grown (g := gb650) (o := .cells #[.bool t643, .bool t644, .bool t645, .bool t646, .bool t647, .int .i64 t648] 23 (0, 0)) (zk BK650) hg (Kd.R_ne HO_7.out BK650.out (by decide))); replace HO_7 := jA (hp_); replace HB := jA ((by rw [hw]; exact below_set (HB.out) GB9.out : Below w.heap.size w w61)); clear hg hw hp_; obtain ⟨Ao62, co62, eo62⟩ := Kd.S_slice HO_6.out; subst eo62; have p654 : 0 ≤ ((rd x8_1 0) : Int) := jB za; have q654 : (rd x8_1 0) < (x6_2.length : Int) := jB za; obtain ⟨ad654, A654_0, c654_0, e654, hx654_0, hl654_0, hi654_0⟩ := at_L3 (Kd.S_reads' HO_6.out).2.2 (rd x8_1 0) p654 q654; cases e654; obtain ⟨ce654, hce654, hMe654, hcc654⟩ := Kd.S_get HO_6.out [] (rd x8_1 0) p654 (by first | exact q654 | exact jB za | (have e_ := (Kd.S_reads' HO_6.out).1; omega)); obtain ⟨ve654_0, rfl, ge654_0⟩ := hMe654; have hv654_0 := hcc654 0 _ rfl; rw [Nat.add_zero, show ((Kd.slice 2 (Kd.int .i64))).sz = 1 from rfl, Nat.mul_one] at hv654_0; replace hv654_0 := jN (hv654_0.symm.trans hx654_0); rw [hv654_0] at ge654_0; have HL654_0 := jA (show Kd.R (Kd.int .i64) 2 _ _ _ _ (rd_L3 x6_2 (rd x8_1 0)) from ge654_0); clear hv654_0 ge654_0; clear hcc654 hce654; have HR654_0 := jA hi654_0; have HC654_0 := jA hl654_0; clear hi654_0 hl654_0; replace p654 := eq_true p654; replace q654 := eq_true q654) | ((with_reducible refine jG (f := 85) rfl ?_); refine zL (some 66) Try.func85 #[.slice A654_0 (rd_L3 x6_2 (rd x8_1 0)).length c654_0] ?_; (with_reducible refine (impl_copyList.calls _ _ (rd_L3 x6_2 (rd x8_1 0)) t655 _ ?side1 ?side2 A49.out).mono ?_); (case side1 => repeat (first | exact (by repeat (first | (with_reducible exact HR654_0.out) | (with_reducible refine Kd.C_alloc ?_ _) | (with_reducible refine Kd.C_drewN ?_ _) | (with_reducible refine Kd.C_drew ?_) | exact HR654_0.out)) | (with_reducible refine Kd.C_alloc ?_ _) | (with_reducible refine Kd.C_drewN ?_ _) | (with_reducible refine Kd.C_drew ?_))); (case side2 => exact HC654_0.out); rintro e w63 ⟨v656, rfl, ho0, hb⟩; refine ⟨_, rfl, ?_⟩; replace HO_6 := jA (Kd.S_elder' (by (with_reducible repeat (first | apply Kd.S_alloc | apply Kd.S_drewN | apply Kd.S_drew)); exact HO_6.out) (Kd.R_base ho0) hb); replace HO_7 := jA (jP (zo HO_7) hb); have HO657 := jA (jX (Kd.R_new' (Kd.R_new' ho0 (Kd.Q_lt (by (with_reducible repeat (first | apply Kd.Q_alloc | apply Kd.Q_drewN | apply Kd.Q_drew)); exact HO_8.out))) (Kd.R_lt (by (with_reducible repeat (first | apply ja | apply jZ | apply Kd.R_drew)); exact HL654_0.out))) (jT (zb2 HB GE619 GE650))); replace HO_8 := jA (Kd.Q_elder' (by (with_reducible repeat (first | apply Kd.Q_alloc | apply Kd.Q_drewN | apply Kd.Q_drew)); exact HO_8.out) (Kd.R_base ho0) hb); replace HL654_0 := jA (Kd.R_elder' (by (with_reducible repeat (first | apply ja | apply jZ | apply Kd.R_drew)); exact HL654_0.out) (Kd.R_base ho0) hb); replace BK619 := zB BK619 hb; replace BK650 := zB BK650 hb; replace HR654_0 := jA (Kd.C_below (by repeat (first | (with_reducible exact HR654_0.out) | (with_reducible refine Kd.C_alloc ?_ _) | (with_reducible refine Kd.C_drewN ?_ _) | (with_reducible refine Kd.C_drew ?_) | exact HR654_0.out)) hb); replace HB := zS2 HB GE619 GE650 hb; (try clear hb); (try clear hb2); (try clear hk); (try clear hi); (try clear ho0)) | ((with_reducible refine gate_builtin (b := .append) (xs := #[.tmp 66, .tmp 68]) rfl ?_); at_builtin; refine Kd.R_append (Kd.int .i64) (w0 := w) w.heap.size rfl (.tmp 66) (.tmp 68) 35 2 (.int .i64 0) 8 rfl Try.underlying35 info2 rfl (by decide) (by omega) v656 t655 (rd l1 x35_2) [.int .i64 (rd l1 x35_2)] (fun k_ => some k_ ≠ (u8 : Value).ownBlock ∧ some k_ ≠ (.slice A654_0 (rd_L3 x6_2 (rd x8_1 0)).length c654_0 : Value).ownBlock) (fun _ => False) rfl rfl ?aP (fun _ hk => hk.elim) ?aF ?aO ?aB ?aS ?aL ?_; (case aP => exact rfl); (case aB => exact (zb2 HB GE619 GE650)); (case aF => exact (fun k_ hk => ⟨Kd.fresh' (Kd.Q_lt (by (with_reducible repeat (first | apply Kd.Q_alloc | apply Kd.Q_drewN | apply Kd.Q_drew)); exact HO_8.out)) k_ hk, Kd.fresh' (Kd.R_lt (by (with_reducible repeat (first | apply ja | apply jZ | apply Kd.R_drew)); exact HL654_0.out)) k_ hk⟩)); (case aO => exact (by (with_reducible repeat (first | apply ja | apply jZ | apply Kd.R_drew)); exact Kd.R_mono HO657.out (fun _ hk => ⟨hk.1.2, hk.2⟩))); (case aS => exact (jT (zb2 HB GE619 GE650))); (case aL => have := LMc50.out; omega); intro v659 w64 ho hb hg hat; rw [← Ny658.out] at ho; replace HO_6 := jA (Kd.S_after (ok := (fun k_ => some k_ ≠ (u8 : Value).ownBlock)) (by (with_reducible repeat (first | apply Kd.S_alloc | apply Kd.S_drewN | apply Kd.S_drew)); exact HO_6.out) hg hat); replace HO_7 := jA (Kd.R_over' (zo HO_7) (Kd.R_typed (zo HO657)) (by decide) hg); replace HO_8 := jA (Kd.Q_after (ok := (fun _ => True)) (by (with_reducible repeat (first | apply Kd.Q_alloc | apply Kd.Q_drewN | apply Kd.Q_drew)); exact HO_8.out) hg hat); replace BK619 := jA (blk_grown (g := gb619) (o := .cells #[.bool a0_0, .bool a0_1, .bool a0_2, .bool a0_3, .bool a0_4, .int .i64 a0_5] 23 (0, 0)) (zk BK619) hg (Kd.R_ne HO657.out BK619.out (by decide))); replace BK650 := jA (blk_grown (g := gb650) (o := .cells #[.bool t643, .bool t644, .bool t645, .bool t646, .bool t647, .int .i64 t648] 23 (0, 0)) (zk BK650) hg (Kd.R_ne HO657.out BK650.out (by decide))); replace HL654_0 := jA (Kd.R_after (ok := (fun k_ => some k_ ≠ (.slice (some ad654) x6_2.length co62 : Value).ownBlock ∧ some k_ ≠ (u8 : Value).ownBlock)) (by (with_reducible repeat (first | apply ja | apply jZ | apply Kd.R_drew)); exact Kd.R_mono HL654_0.out (fun _ hk => ⟨⟨hk.1.2, hk.1.1⟩, hk.2⟩)) hg hat); replace HB := jA (hb); have HO660 := jA (ho); clear HO657; clear ho hb hg hat; have p52 : 0 ≤ (t651 : Int) := jB za; have q52 : (t651 : Int) < ((x6_2.length : Int) : Int) := jB za; obtain ⟨go52, co52, eo52, gb52, gl52, cl52, HG52⟩ := Kd.S_form HO_6.out (by omega); (first | cases eo52 | (injection eo52 with ea_ en_ ec_; (first | subst ea_ | (injection ea_ with ea_; subst ea_)); subst ec_; clear en_)); have GB52 := jA gb52; have GG52 := jA HG52; clear gb52 gl52 HG52; (first | simp only [add_plain] at hx654_0 | skip); obtain ⟨_, ce52, hcl52, hM52, hcc52, hfr52, _, _⟩ := Kd.S_elem HO_6.out [] (t651 : Int) p52 q52; obtain ⟨ve52_0, rfl, ge52_0⟩ := hM52; have hx52_0 := hcc52 0 _ rfl; have hf52_0 := hfr52 0; (try simp only [show ((Kd.slice 2 (Kd.int .i64))).sz = 1 from rfl, Nat.mul_one, Nat.add_zero] at hx52_0); (try simp only [show ((Kd.slice 2 (Kd.int .i64))).sz = 1 from rfl, Nat.mul_one, Nat.add_zero] at hf52_0); (try clear hcl52); (try clear hcc52); (try clear hfr52); (try clear hM52); replace p52 := eq_true p52; replace q52 := eq_true q52; have HX65 := jA (show Kd.S (Kd.slice 2 (Kd.int .i64)) 35 w64 w.heap.size (fun k_ => ((fun k_ => some k_ ≠ (u8 : Value).ownBlock)) k_ ∧ ¬ ((fun k_ => some k_ = (v659 : Value).ownBlock)) k_) (.slice (some ⟨go52, 0, none⟩) x6_2.length co62) x6_2 from (by (with_reducible repeat (first | apply Kd.S_alloc | apply Kd.S_drewN | apply Kd.S_drew)); exact Kd.S_mono HO_6.out (fun k_ hk => ⟨hk.1, fun e_ => hk.2 e_⟩))); obtain ⟨oki65, ce65, hcl65, hM65, hcc65, hfr65, hoki65, hH65⟩ := Kd.S_elem HX65.out [] (t651 : Int) (jB za) (by have h_ : (t651 : Int) < ((x6_2.length : Int) : Int) := jB za; first | exact h_ | (have e_ := (Kd.S_reads' HO_6.out).1; omega) | simpa using h_); obtain ⟨ve65_0, rfl, ge65_0⟩ := hM65; have HP65 := Kd.S_seg hH65 (jB za) (by have h_ : (t651 : Int) < ((x6_2.length : Int) : Int) := jB za; first | exact h_ | (have e_ := (Kd.S_reads' HO_6.out).1; omega) | simpa using h_) (seg := [v659]) (j := 0) (show 1 ≤ 1 from by decide) (x' := y658) (Kd.M_row (Kd.R_mono (Kd.R_tight rfl (Kd.R_mono (ok' := fun k_ => ((fun k_ => some k_ ≠ (u8 : Value).ownBlock)) k_ ∧ k_ ≠ go52) (Kd.R_apart' (HO660.out) (Kd.S_typed HO_6.out) (by decide)) (fun k_ hk => ⟨hk.1.1, fun e_ => (hk.2) (by rw [e_]; rfl)⟩))) (fun _ h_ => Or.inr (h_)))) (fun _ hk => hk) (fun k_ hk_ => ((Kd.R_mono (ok' := fun k_ => ((fun k_ => some k_ ≠ (u8 : Value).ownBlock)) k_ ∧ k_ ≠ go52) (Kd.R_apart' (HO660.out) (Kd.S_typed HO_6.out) (by decide)) (fun k_ hk => ⟨hk.1.1, fun e_ => (hk.2) (by rw [e_]; rfl)⟩))).1 k_ hk_.symm); have hx65_0 := hcc65 0 _ rfl; (try simp only [show ((Kd.slice 2 (Kd.int .i64))).sz = 1 from rfl, Nat.mul_one, Nat.add_zero] at hx65_0); have hf65_0 := hfr65 0; (try simp only [show ((Kd.slice 2 (Kd.int .i64))).sz = 1 from rfl, Nat.mul_one, Nat.add_zero] at hf65_0); (try clear hcl65); (try clear hcc65); (try clear hfr65); (try clear hM65); (try clear hoki65); (try clear hH65); (try simp only [show ((Kd.slice 2 (Kd.int .i64))).sz = 1 from rfl, Nat.mul_one, Nat.add_zero] at HP65)) | ((with_reducible refine gate_store (t := 35) (p := 70) rfl ?_); refine store_event (t := 35) (p := 70) (v := ?vo_w66) (w1 := (w64.setCell ⟨go52, (t651 : Int).toNat, none⟩ (v659))) ?hg ?ho ?hn ?hr ?_; (case ho => rfl); (case hg => rfl); (case hn => rfl); (case hr => obtain ⟨A_, c_, e_⟩ := Kd.R_slice HO660.out; first | (go_simp; done) | (go_simp; rfl)); intro w66 hw; have hg : w64.grownBy w66 (some go52) := (by rw [hw]; exact HP65.2); have hp_ : Kd.S (Kd.slice 2 (Kd.int .i64)) 35 w66 w.heap.size (fun k_ => some k_ ≠ (u8 : Value).ownBlock) (.slice (some ⟨go52, 0, none⟩) x6_2.length co62) y661 := (by rw [hw, Ny661.out]; exact HP65.1); clear HP65; replace HO_7 := jA (Kd.R_over' (v := (.slice (some ⟨go52, 0, none⟩) x6_2.length co62)) (zo HO_7) (Kd.S_typed HO_6.out) (by decide) hg); replace HO_8 := jA (Kd.Q_over' (v := (.slice (some ⟨go52, 0, none⟩) x6_2.length co62)) (by (with_reducible repeat (first | apply Kd.Q_alloc | apply Kd.Q_drewN | apply Kd.Q_drew)); exact HO_8.out) (Kd.S_typed HO_6.out) (by decide) hg); replace BK619 := jA (blk_grown (g := gb619) (o := .cells #[.bool a0_0, .bool a0_1, .bool a0_2, .bool a0_3, .bool a0_4, .int .i64 a0_5] 23 (0, 0)) (zk BK619) hg (Kd.S_ne HO_6.out BK619.out (by decide))); replace BK650 := jA (blk_grown (g := gb650) (o := .cells #[.bool t643, .bool t644, .bool t645, .bool t646, .bool t647, .int .i64 t648] 23 (0, 0)) (zk BK650) hg (Kd.S_ne HO_6.out BK650.out (by decide))); replace HO_6 := jA (hp_); replace HL654_0 := jA (Kd.R_after (v := (.slice (some ⟨go52, 0, none⟩) x6_2.length co62)) (v1 := (.slice (some ⟨go52, 0, none⟩) x6_2.length co62)) (ok := (fun k_ => some k_ ≠ (u8 : Value).ownBlock ∧ some k_ ≠ (v659 : Value).ownBlock)) (by (with_reducible repeat (first | apply ja | apply jZ | apply Kd.R_drew)); exact Kd.R_mono HL654_0.out (fun _ hk => ⟨⟨hk.1.2, hk.2⟩, hk.1.1⟩)) hg (.inl rfl)); replace HB := jA ((by rw [hw]; exact below_set (HB.out) GB52.out : Below w.heap.size w w66)); clear HO660; clear hg hw hp_) | ((with_reducible refine gate_builtin (b := .append) (xs := #[.tmp 71, .tmp 73]) rfl ?_); at_builtin; refine Kd.Q_append (Kd.int .i64) (w0 := w) w.heap.size rfl (.tmp 71) (.tmp 73) 35 2 (.int .i64 0) 8 rfl Try.underlying35 info2 rfl (by decide) (by omega) u8 x8_2 t651 [.int .i64 t651] (fun _ => True) (fun _ => False) rfl rfl ?aP (fun _ hk => hk.elim) ?aF ?aO ?aB ?aS ?aL ?_; (case aP => exact rfl); (case aB => exact (zb2 HB GE619 GE650)); (case aF => exact (fun _ _ => trivial)); (case aO => exact (by (with_reducible repeat (first | apply Kd.Q_alloc | apply Kd.Q_drewN | apply Kd.Q_drew)); exact Kd.Q_mono HO_8.out (fun _ hk => trivial))); (case aS => exact (jT (zb2 HB GE619 GE650))); (case aL => have := LMc53.out; omega); intro v663 w67 ho hb hg hat; rw [← Ny662.out] at ho; replace HO_6 := jA (Kd.S_after (ok := (fun _ => True)) (by (with_reducible repeat (first | apply Kd.S_alloc | apply Kd.S_drewN | apply Kd.S_drew)); exact Kd.S_mono HO_6.out (fun _ hk => ⟨trivial, hk⟩)) hg hat); replace HO_7 := jA (Kd.R_over' (zo HO_7) (Kd.Q_typed (by (with_reducible repeat (first | apply Kd.Q_alloc | apply Kd.Q_drewN | apply Kd.Q_drew)); exact HO_8.out)) (by decide) hg); replace BK619 := jA (blk_grown (g := gb619) (o := .cells #[.bool a0_0, .bool a0_1, .bool a0_2, .bool a0_3, .bool a0_4, .int .i64 a0_5] 23 (0, 0)) (zk BK619) hg (Kd.Q_ne HO_8.out BK619.out (by decide))); replace BK650 := jA (blk_grown (g := gb650) (o := .cells #[.bool t643, .bool t644, .bool t645, .bool t646, .bool t647, .int .i64 t648] 23 (0, 0)) (zk BK650) hg (Kd.Q_ne HO_8.out BK650.out (by decide))); replace HL654_0 := jA (Kd.R_after (ok := (fun k_ => some k_ ≠ (.slice (some ⟨go52, 0, none⟩) x6_2.length co62 : Value).ownBlock)) (by (with_reducible repeat (first | apply ja | apply jZ | apply Kd.R_drew)); exact Kd.R_mono HL654_0.out (fun _ hk => ⟨hk.2, hk.1.1⟩)) hg hat); replace HB := jA (hb); have HO664 := jA (ho); clear HO_8; clear ho hb hg hat))
                         (try simp only [← hl7_2])
                         go_roundg k2
                         case measure => have := HK1.out; have := HK2.out; omega
                         case rel => exact ⟨(y661), (y653), (y662), (wrap64 (x35_2 + 1)), zz, H', ⟨by have := HK1.out; have := HK2.out; omega⟩, ⟨by (try simp only [hl7_1]); (try simp only [hl7_2]); (with_reducible repeat (first | apply Kd.S_alloc | apply Kd.S_drewN | apply Kd.S_drew)); exact Kd.S_mono HO_6.out (fun _ hk => hk.2)⟩, ⟨by (try simp only [hl7_1]); (try simp only [hl7_2]); (with_reducible repeat (first | apply ja | apply jZ | apply Kd.R_drew)); exact HO_7.out⟩, ⟨by (try simp only [hl7_1]); (try simp only [hl7_2]); (with_reducible repeat (first | apply Kd.Q_alloc | apply Kd.Q_drewN | apply Kd.Q_drew)); exact HO664.out⟩, ⟨by (try simp only [hl7_1]); (try simp only [hl7_2]); (with_reducible repeat (first | refine blk_drewN ?_ _ | refine blk_drew ?_ | refine blk_alloc ?_ _)); exact BK619.out⟩, ⟨zb2 HB GE619 GE650⟩⟩
                        ·rw [if_neg c53] at H
                         exact absurd H (by simp)
                       ·rw [if_neg c51] at H
                        exact absurd H (by simp)
                      ·rw [if_neg c50] at H
                       exact absurd H (by simp)
                     ·rw [if_neg c48] at H
                      exact absurd H (by simp)
                    ·rw [if_neg c47] at H
                     exact absurd H (by simp)
                  ·rw [if_neg c37] at H
                   exact absurd H (by simp)
                 ·rw [if_neg c36] at H
                  exact absurd H (by simp)
                ·rw [if_neg c35] at H
                 have c35b0 : (t649 == 0) = false := beq_eq_false_iff_ne.mpr c35
                 have c35b1 : (t649 != 0) = true := bne_iff_ne.mpr c35
                 have H' := jA H
                 clear H
                 have p636 : 0 ≤ (x35_2 : Int) := jB za
                 have q636 : x35_2 < (l1.length : Int) := jB za
                 obtain ⟨ad636, e636, hx636_0⟩ := jR HR1.out x35_2 p636 q636
                 cases e636
                 replace hx636_0 := zx HB hx636_0
                 replace p636 := eq_true p636
                 replace q636 := eq_true q636
                 go_wp2_with (first | ((with_reducible refine jG (f := 50) rfl ?_); refine zL (some 41) Try.func50 #[.int .i64 (rd x8_1 0)] ?_; (with_reducible refine (impl_controllerWith.calls (rd x8_1 0) t637 t638 t639 t640 t641 t642 _ A32.out).mono ?_); rintro e w68 ⟨rfl, hb⟩; refine ⟨_, rfl, ?_⟩; replace HO_6 := jA (Kd.S_below (by (with_reducible repeat (first | apply Kd.S_alloc | apply Kd.S_drewN | apply Kd.S_drew)); exact HO_6.out) hb); replace HO_7 := jA (jP (zo HO_7) hb); replace HO_8 := jA (Kd.Q_below (by (with_reducible repeat (first | apply Kd.Q_alloc | apply Kd.Q_drewN | apply Kd.Q_drew)); exact HO_8.out) hb); replace BK619 := zB BK619 hb; replace HB := zS1 HB GE619 hb; clear hb) | ((with_reducible refine jG (f := 67) rfl ?_); refine zL (some 43) Try.func67 #[.agg #[.bool t637, .bool t638, .bool t639, .bool t640, .bool t641, .int .i64 t642], .int .i64 (rd l1 x35_2)] ?_; (with_reducible refine (impl_giveInput.calls t637 t638 t639 t640 t641 t642 (rd l1 x35_2) t643 t644 t645 t646 t647 t648 t649 _ A33.out).mono ?_); rintro e w69 ⟨rfl, hb⟩; refine ⟨_, rfl, ?_⟩; replace HO_6 := jA (Kd.S_below (by (with_reducible repeat (first | apply Kd.S_alloc | apply Kd.S_drewN | apply Kd.S_drew)); exact HO_6.out) hb); replace HO_7 := jA (jP (zo HO_7) hb); replace HO_8 := jA (Kd.Q_below (by (with_reducible repeat (first | apply Kd.Q_alloc | apply Kd.Q_drewN | apply Kd.Q_drew)); exact HO_8.out) hb); replace BK619 := zB BK619 hb; replace HB := zS1 HB GE619 hb; clear hb) | ((with_reducible refine jJ (N := 12) rfl ?_); refine zE 12 #[.bool false, .bool false, .bool false, .bool false, .bool false, .int .i64 0] 23 ?_; intro gb650 hg w70 hbox hb; replace HO_6 := jA (Kd.S_below (by (with_reducible repeat (first | apply Kd.S_alloc | apply Kd.S_drewN | apply Kd.S_drew)); exact HO_6.out) hb); replace HO_7 := jA (jP (zo HO_7) hb); replace HO_8 := jA (Kd.Q_below (by (with_reducible repeat (first | apply Kd.Q_alloc | apply Kd.Q_drewN | apply Kd.Q_drew)); exact HO_8.out) hb); have BK650 := jA (hbox); have GW650 := zg1 hg HB GE619; have GE650 := zg1 hg HB GE619; replace HB := zS1 HB GE619 hb; have NB619_650 := zn hg BK619; replace BK619 := zB BK619 hb; have NB650_619 := jA NB619_650.out.symm; clear hb hbox hg; have hnb71 := NB650_619.out; have hnc71 := NB619_650.out; have hcz72 := zc6 BK650) | ((with_reducible refine jG (f := 53) rfl ?_); refine zL (some 47) Try.func53 #[.agg #[.bool t643, .bool t644, .bool t645, .bool t646, .bool t647, .int .i64 t648]] ?_; (with_reducible refine (impl_numberOf.calls t643 t644 t645 t646 t647 t648 t651 _ A34.out).mono ?_); rintro e w73 ⟨rfl, hb⟩; refine ⟨_, rfl, ?_⟩; replace HO_6 := jA (Kd.S_below (by (with_reducible repeat (first | apply Kd.S_alloc | apply Kd.S_drewN | apply Kd.S_drew)); exact (Kd.S_mono (Kd.S_far (p := ⟨gb650, 5, none⟩) (Kd.S_far (p := ⟨gb650, 4, none⟩) (Kd.S_far (p := ⟨gb650, 3, none⟩) (Kd.S_far (p := ⟨gb650, 2, none⟩) (Kd.S_far (p := ⟨gb650, 1, none⟩) (Kd.S_far (p := ⟨gb650, 0, none⟩) (Kd.S_types HO_6.out BK650.out (by decide)) (fun _ hk => hk.2) (.bool t643)) (fun _ hk => hk.2) (.bool t644)) (fun _ hk => hk.2) (.bool t645)) (fun _ hk => hk.2) (.bool t646)) (fun _ hk => hk.2) (.bool t647)) (fun _ hk => hk.2) (.int .i64 t648)) (fun _ h_ => h_.1))) hb); replace HO_7 := jA (jP (zU HO_7 BK650) hb); replace HO_8 := jA (Kd.Q_below (by (with_reducible repeat (first | apply Kd.Q_alloc | apply Kd.Q_drewN | apply Kd.Q_drew)); exact (Kd.Q_mono (Kd.Q_far (p := ⟨gb650, 5, none⟩) (Kd.Q_far (p := ⟨gb650, 4, none⟩) (Kd.Q_far (p := ⟨gb650, 3, none⟩) (Kd.Q_far (p := ⟨gb650, 2, none⟩) (Kd.Q_far (p := ⟨gb650, 1, none⟩) (Kd.Q_far (p := ⟨gb650, 0, none⟩) (Kd.Q_types HO_8.out BK650.out (by decide)) (fun _ hk => hk.2) (.bool t643)) (fun _ hk => hk.2) (.bool t644)) (fun _ hk => hk.2) (.bool t645)) (fun _ hk => hk.2) (.bool t646)) (fun _ hk => hk.2) (.bool t647)) (fun _ hk => hk.2) (.int .i64 t648)) (fun _ h_ => h_.1))) hb); replace BK619 := jA (jU (g := gb619) (o := .cells #[.bool a0_0, .bool a0_1, .bool a0_2, .bool a0_3, .bool a0_4, .int .i64 a0_5] 23 (0, 0)) (zQ1 BK619 NB619_650) hb); replace BK650 := jA (jU (g := gb650) (o := .cells #[.bool t643, .bool t644, .bool t645, .bool t646, .bool t647, .int .i64 t648] 23 (0, 0)) (zP0 BK650) hb); replace HB := zS2 HB GE619 GE650 hb; clear hb))
                 (try simp only [← hl7_2])
                 go_roundg k2
                 case measure => have := HK1.out; have := HK2.out; omega
                 case rel => exact ⟨(x6_2), (x7_2), (x8_2), (wrap64 (x35_2 + 1)), zz, H', ⟨by have := HK1.out; have := HK2.out; omega⟩, ⟨by (try simp only [hl7_1]); (try simp only [hl7_2]); (with_reducible repeat (first | apply Kd.S_alloc | apply Kd.S_drewN | apply Kd.S_drew)); exact HO_6.out⟩, ⟨by (try simp only [hl7_1]); (try simp only [hl7_2]); (with_reducible repeat (first | apply ja | apply jZ | apply Kd.R_drew)); exact HO_7.out⟩, ⟨by (try simp only [hl7_1]); (try simp only [hl7_2]); (with_reducible repeat (first | apply Kd.Q_alloc | apply Kd.Q_drewN | apply Kd.Q_drew)); exact HO_8.out⟩, ⟨by (try simp only [hl7_1]); (try simp only [hl7_2]); (with_reducible repeat (first | refine blk_drewN ?_ _ | refine blk_drew ?_ | refine blk_alloc ?_ _)); exact BK619.out⟩, ⟨zb2 HB GE619 GE650⟩⟩
               ·rw [if_neg c31] at H
                exact absurd H (by simp)
              ·rw [if_neg c30] at H
               exact absurd H (by simp)
             ·rw [if_neg c29] at H
              have c29b0 : decide (x35_2 < (l1.length : Int)) = false := jS c29
              clear c29
              have H' := jA H
              clear H
              go_wp2
              (try simp only [← hl7_1, ← hl7_2])
              go_roundg k2
              case measure => have := HK1.out; have := HK2.out; omega
              case rel => exact ⟨(x6_2), (x7_2), (x8_2), H', ⟨by have := HK1.out; have := HK2.out; omega⟩, ⟨by (try simp only [hl7_1]); (try simp only [hl7_2]); (with_reducible repeat (first | apply Kd.S_alloc | apply Kd.S_drewN | apply Kd.S_drew)); exact HO_6.out⟩, ⟨by (try simp only [hl7_1]); (try simp only [hl7_2]); (with_reducible repeat (first | apply ja | apply jZ | apply Kd.R_drew)); exact HO_7.out⟩, ⟨by (try simp only [hl7_1]); (try simp only [hl7_2]); (with_reducible repeat (first | apply Kd.Q_alloc | apply Kd.Q_drewN | apply Kd.Q_drew)); exact HO_8.out⟩, ⟨by (try simp only [hl7_1]); (try simp only [hl7_2]); (with_reducible repeat (first | refine blk_drewN ?_ _ | refine blk_drew ?_ | refine blk_alloc ?_ _)); exact BK619.out⟩, ⟨zb1 HB GE619⟩⟩
          ·rw [if_neg c26] at H
           exact absurd H (by simp)
         ·rw [if_neg c25] at H
          exact absurd H (by simp)
        ·rw [if_neg c24] at H
         have c24b0 : decide (0 < (x8_1.length : Int)) = false := jS c24
         have c24b1 : decide (0 < x8_1.length) = false := jS (by omega)
         clear c24
         simp only [jH, jK] at H
         obtain ⟨rfl, rfl⟩ := H
         obtain ⟨Ao74, co74, eo74, _⟩ := Kd.Q_slice HO_8.out
         subst eo74
         go_wp2
         go_ret2
         exact ⟨_, _, by first | rfl | (simp [errW_none, errW_some] <;> rfl) | (simp [*, errW_none, errW_some] <;> rfl), by (with_reducible repeat (first | apply Kd.S_alloc | apply Kd.S_drewN | apply Kd.S_drew)); exact Kd.S_mono HO_6.out (fun _ hk => trivial), zo HO_7, zb1 HB GE619⟩
     ·rw [if_neg c8] at H
      exact absurd H (by simp)
    ·rw [if_neg c7] at H
     exact absurd H (by simp)
   ·rw [if_neg c6] at H
    exact absurd H (by simp)
  ·rw [if_neg c4] at H
   exact absurd H (by simp)
 ·rw [if_neg c3] at H
  exact absurd H (by simp)

end Go.Proofs.Ythieppjmjgijfaa.PFnProofs
