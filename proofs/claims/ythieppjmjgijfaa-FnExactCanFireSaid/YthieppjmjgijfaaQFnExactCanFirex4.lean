/- Functions and contracts that FnExactCanFire reaches (5 of 12). -/
import Derived.Test.YthieppjmjgijfaaQFnExactCanFirex3
namespace Go.Proofs.Ythieppjmjgijfaa.PFnExactCanFire
open Go.RowKit Go.Proofs.YthieppjmjgijfaaW.PrintWords Go.Proofs.YthieppjmjgijfaaW.PrintLast Go.Proofs.YthieppjmjgijfaaW.PrintMore
attribute [local go_sem] max2_int min2_int max_two min_two max_three min_three max_four min_four   -- for this text's walks alone
set_option linter.unusedVariables false
set_option linter.unusedSimpArgs false
open Go.Proofs.YthieppjmjgijfaaX

/-! ### impl_shortest: function 69 -/
mutual
def impl_shortest.l0 : Nat → List Int → List (List Int) → List Bool → List Int → Option ((List (List Int)) × List Bool)
 | 0, _, _, _, _ => none
 | k + 1, x1, x6, x7, x8 => if (x8.length : Int) > 0 then (if 0 < (x8.length : Int) then (if 1 ≤ (x8.length : Int) then (impl_shortest.l1 k x1 x6 x7 (x8.drop (1 : Int).toNat) (rd x8 0) x1 (x1.length : Int) 0) else (none)) else (none)) else (some (x6, x7))
def impl_shortest.l1 : Nat → List Int → List (List Int) → List Bool → List Int → Int → List Int → Int → Int → Option ((List (List Int)) × List Bool)
 | 0, _, _, _, _, _, _, _, _ => none
 | k + 1, x1, x6, x7, x8, x9, x33, x34, x35 => if x35 < x34 then (if 0 ≤ x35 then (if x35 < (x33.length : Int) then ((impl_controllerWith.f x9).bind fun bt176 => ((impl_giveInput.f bt176.1 bt176.2.1 bt176.2.2.1 bt176.2.2.2.1 bt176.2.2.2.2.1 bt176.2.2.2.2.2 (rd x33 x35)).bind fun bt182 => ((impl_numberOf.f bt182.1 bt182.2.1 bt182.2.2.1 bt182.2.2.2.1 bt182.2.2.2.2.1 bt182.2.2.2.2.2.1).bind fun t190 => (if bt182.2.2.2.2.2.2 = 0 then (if 0 ≤ t190 then (if t190 < (x7.length : Int) then (if rdOf false x7 t190 = true then (impl_shortest.l1 k x1 x6 x7 x8 x9 x33 x34 (wrap64 (x35 + 1))) else (if 0 ≤ x9 then (if x9 < (x6.length : Int) then ((impl_copyList.f (rd_L1 x6 x9)).bind fun t194 => (if t194.length < 17592186044416 then (if t190 < (x6.length : Int) then (if x8.length < 17592186044416 then (impl_shortest.l1 k x1 (x6.set (t190 : Int).toNat (t194 ++ [rd x33 x35])) (x7.set (t190 : Int).toNat true) (x8 ++ [t190]) x9 x33 x34 (wrap64 (x35 + 1))) else (none)) else (none)) else (none))) else (none)) else (none))) else (none)) else (none)) else (impl_shortest.l1 k x1 x6 x7 x8 x9 x33 x34 (wrap64 (x35 + 1))))))) else (none)) else (none)) else (impl_shortest.l0 k x1 x6 x7 x8)
end
def impl_shortest.f (k : Nat) (a0_0 : Bool) (a0_1 : Bool) (a0_2 : Bool) (a0_3 : Bool) (a0_4 : Bool) (a0_5 : Int) (l1 : List Int) : Option ((List (List Int)) × List Bool) := if 160 ≤ 11728124029610 then (if 160 ≤ 281474976710656 then ((some (List.replicate 160 false : List Bool)).bind fun y162 => ((impl_numberOf.f a0_0 a0_1 a0_2 a0_3 a0_4 a0_5).bind fun t165 => ((some (([t165] : List Int) : List Int)).bind fun y166 => (if 0 < (y166.length : Int) then (if 0 ≤ (rd y166 0) then (if (rd y166 0) < (y162.length : Int) then (impl_shortest.l0 k l1 (List.replicate 160 []) (y162.set ((rd y166 0) : Int).toNat true) y166) else (none)) else (none)) else (none))))) else (none)) else (none)
theorem impl_shortest.mono_l : ∀ k, (∀ y0 y1 y2 y3, LeO (impl_shortest.l0 k y0 y1 y2 y3) (impl_shortest.l0 (k + 1) y0 y1 y2 y3)) ∧ (∀ y0 y1 y2 y3 y4 y5 y6 y7, LeO (impl_shortest.l1 k y0 y1 y2 y3 y4 y5 y6 y7) (impl_shortest.l1 (k + 1) y0 y1 y2 y3 y4 y5 y6 y7))
 | 0 => ⟨fun _ _ _ _ r h => by simp [impl_shortest.l0] at h, fun _ _ _ _ _ _ _ _ r h => by simp [impl_shortest.l1] at h⟩
 | k + 1 => by
  obtain ⟨ih0, ih1⟩ := impl_shortest.mono_l k
  refine ⟨?_, ?_⟩
  ·intro y0 y1 y2 y3
   unfold impl_shortest.l0
   repeat' first
   | (with_reducible exact ih0 _ _ _ _)
   | (with_reducible exact ih1 _ _ _ _ _ _ _ _)
   | (with_reducible exact LeO.refl _)
   | (with_reducible exact LeO.none _)
   | (with_reducible refine LeO.ite ?_ ?_)
   | (with_reducible refine LeO.bind ?_ (fun _ => ?_))
   | exact ih0 _ _ _ _
   | exact ih1 _ _ _ _ _ _ _ _
   | exact LeO.none _
   | refine LeO.ite ?_ ?_
   | refine LeO.bind ?_ (fun _ => ?_)
  ·intro y0 y1 y2 y3 y4 y5 y6 y7
   unfold impl_shortest.l1
   repeat' first
   | (with_reducible exact ih0 _ _ _ _)
   | (with_reducible exact ih1 _ _ _ _ _ _ _ _)
   | (with_reducible exact LeO.refl _)
   | (with_reducible exact LeO.none _)
   | (with_reducible refine LeO.ite ?_ ?_)
   | (with_reducible refine LeO.bind ?_ (fun _ => ?_))
   | exact ih0 _ _ _ _
   | exact ih1 _ _ _ _ _ _ _ _
   | exact LeO.none _
   | refine LeO.ite ?_ ?_
   | refine LeO.bind ?_ (fun _ => ?_)
theorem impl_shortest.mono : ∀ a0 a1 a2 a3 a4 a5 a6 k, LeO (impl_shortest.f k a0 a1 a2 a3 a4 a5 a6) (impl_shortest.f (k + 1) a0 a1 a2 a3 a4 a5 a6) := by
 intro a0 a1 a2 a3 a4 a5 a6 k
 obtain ⟨ih0, ih1⟩ := impl_shortest.mono_l k
 unfold impl_shortest.f
 repeat' first
   | (with_reducible exact ih0 _ _ _ _)
   | (with_reducible exact ih1 _ _ _ _ _ _ _ _)
   | (with_reducible exact LeO.refl _)
   | (with_reducible exact LeO.none _)
   | (with_reducible refine LeO.ite ?_ ?_)
   | (with_reducible refine LeO.bind ?_ (fun _ => ?_))
   | exact ih0 _ _ _ _
   | exact ih1 _ _ _ _ _ _ _ _
   | exact LeO.none _
   | refine LeO.ite ?_ ?_
   | refine LeO.bind ?_ (fun _ => ?_)
set_option maxHeartbeats 8000000 in
set_option maxRecDepth 100000 in
theorem impl_shortest.calls (k : Nat) (a0_0 : Bool) (a0_1 : Bool) (a0_2 : Bool) (a0_3 : Bool) (a0_4 : Bool) (a0_5 : Int) (A1 : Option Addr) (c1 : Nat) (l1 : List Int) (r1 : List (List Int)) (r2 : List Bool) (w : World) (hr1 : Kd.C (Kd.int .i64) w A1 l1.length l1) (hc1 : l1.length ≤ c1) (h : impl_shortest.f k a0_0 a0_1 a0_2 a0_3 a0_4 a0_5 l1 = some (r1, r2)) :
  Calls Try.prog 69 #[.agg #[.bool a0_0, .bool a0_1, .bool a0_2, .bool a0_3, .bool a0_4, .int .i64 a0_5], .slice A1 l1.length c1] w fun e w' => ∃ v0_ v1_ : Value, e = .returned (.tuple #[v0_, v1_]) ∧ Kd.S (Kd.slice 2 (Kd.int .i64)) 35 w' w.heap.size (fun _ => True) v0_ r1 ∧ Kd.R Kd.bool 4 w' w.heap.size (fun _ => True) v1_ r2 ∧ Below w.heap.size w w' := by
 have hu23 := Try.underlying23
 have HR1 := jA hr1
 have HC1 := jA hc1
 clear hr1 hc1
 have HB := jA (Below.refl w.heap.size w)
 have H : (if 160 ≤ 11728124029610 then (if 160 ≤ 281474976710656 then ((some (List.replicate 160 false : List Bool)).bind fun y162 => ((impl_numberOf.f a0_0 a0_1 a0_2 a0_3 a0_4 a0_5).bind fun t165 => ((some (([t165] : List Int) : List Int)).bind fun y166 => (if 0 < (y166.length : Int) then (if 0 ≤ (rd y166 0) then (if (rd y166 0) < (y162.length : Int) then (impl_shortest.l0 k l1 (List.replicate 160 []) (y162.set ((rd y166 0) : Int).toNat true) y166) else (none)) else (none)) else (none))))) else (none)) else (none)) = some (r1, r2) := h
 clear h
 by_cases c3 : 160 ≤ 11728124029610
 ·rw [if_pos c3] at H
  have c3b0 := eq_true c3
  have c3b1 : decide (160 ≤ 11728124029610) = true := jT c3
  clear c3
  obtain ⟨y159, hy159⟩ : ∃ y_ : List (List Int), y_ = (List.replicate 160 []) := ⟨_, rfl⟩
  replace H : (if 160 ≤ 281474976710656 then ((some (List.replicate 160 false : List Bool)).bind fun y162 => ((impl_numberOf.f a0_0 a0_1 a0_2 a0_3 a0_4 a0_5).bind fun t165 => ((some (([t165] : List Int) : List Int)).bind fun y166 => (if 0 < (y166.length : Int) then (if 0 ≤ (rd y166 0) then (if (rd y166 0) < (y162.length : Int) then (impl_shortest.l0 k l1 y159 (y162.set ((rd y166 0) : Int).toNat true) y166) else (none)) else (none)) else (none))))) else (none)) = some (r1, r2) := by first | (rw [hy159]; with_reducible exact H) | (have H2_ := (Option.bind_some _ _).symm.trans H; rw [hy159]; with_reducible exact H2_) | (have H2_ := (Option.bind_some _ _).symm.trans H; with_reducible exact H2_) | with_reducible exact H | (rw [hy159]; exact H) | exact H
  have Ny159 := jA hy159
  clear hy159
  by_cases c4 : 160 ≤ 281474976710656
  ·rw [if_pos c4] at H
   have c4b0 := eq_true c4
   have c4b1 : decide (160 ≤ 281474976710656) = true := jT c4
   clear c4
   obtain ⟨y162, hy162⟩ : ∃ y_ : List Bool, y_ = (List.replicate 160 false) := ⟨_, rfl⟩
   replace H : ((impl_numberOf.f a0_0 a0_1 a0_2 a0_3 a0_4 a0_5).bind fun t165 => ((some (([t165] : List Int) : List Int)).bind fun y166 => (if 0 < (y166.length : Int) then (if 0 ≤ (rd y166 0) then (if (rd y166 0) < (y162.length : Int) then (impl_shortest.l0 k l1 y159 (y162.set ((rd y166 0) : Int).toNat true) y166) else (none)) else (none)) else (none)))) = some (r1, r2) := by first | (rw [hy162]; with_reducible exact H) | (have H2_ := (Option.bind_some _ _).symm.trans H; rw [hy162]; with_reducible exact H2_) | (have H2_ := (Option.bind_some _ _).symm.trans H; with_reducible exact H2_) | with_reducible exact H | (rw [hy162]; exact H) | exact H
   have Ny162 := jA hy162
   clear hy162
   replace H := jR.mp H
   obtain ⟨t165, A50, H⟩ := H
   replace H : ((some (([t165] : List Int) : List Int)).bind fun y166 => (if 0 < (y166.length : Int) then (if 0 ≤ (rd y166 0) then (if (rd y166 0) < (y162.length : Int) then (impl_shortest.l0 k l1 y159 (y162.set ((rd y166 0) : Int).toNat true) y166) else (none)) else (none)) else (none))) = some (r1, r2) := H
   have A5 := jA A50
   clear A50
   obtain ⟨y166, hy166⟩ : ∃ y_ : List Int, y_ = (([t165] : List Int)) := ⟨_, rfl⟩
   replace H : (if 0 < (y166.length : Int) then (if 0 ≤ (rd y166 0) then (if (rd y166 0) < (y162.length : Int) then (impl_shortest.l0 k l1 y159 (y162.set ((rd y166 0) : Int).toNat true) y166) else (none)) else (none)) else (none)) = some (r1, r2) := by first | (rw [hy166]; with_reducible exact H) | (have H2_ := (Option.bind_some _ _).symm.trans H; rw [hy166]; with_reducible exact H2_) | (have H2_ := (Option.bind_some _ _).symm.trans H; with_reducible exact H2_) | with_reducible exact H | (rw [hy166]; exact H) | exact H
   have Ny166 := jA hy166
   clear hy166
   by_cases c6 : 0 < (y166.length : Int)
   ·rw [if_pos c6] at H
    have c6b0 : decide (0 < (y166.length : Int)) = true := jT c6
    have c6b1 : decide (0 < y166.length) = true := jT (by omega)
    clear c6
    by_cases c7 : 0 ≤ (rd y166 0)
    ·rw [if_pos c7] at H
     have c7b0 : decide (0 ≤ (rd y166 0)) = true := jT c7
     clear c7
     by_cases c8 : (rd y166 0) < (y162.length : Int)
     ·rw [if_pos c8] at H
      have c8b0 : decide ((rd y166 0) < (y162.length : Int)) = true := jT c8
      clear c8
      obtain ⟨y170, hy170⟩ : ∃ y_ : List Bool, y_ = (y162.set ((rd y166 0) : Int).toNat true) := ⟨_, rfl⟩
      replace H : (impl_shortest.l0 k l1 y159 y170 y166) = some (r1, r2) := by first | (rw [hy170]; with_reducible exact H) | (have H2_ := (Option.bind_some _ _).symm.trans H; rw [hy170]; with_reducible exact H2_) | (have H2_ := (Option.bind_some _ _).symm.trans H; with_reducible exact H2_) | with_reducible exact H | (rw [hy170]; exact H) | exact H
      have Ny170 := jA hy170
      clear hy170
      have H' := jA H
      clear H
      go_enter Try.func69, Try.ntmps69
      try go_wp2_with (first | ((with_reducible refine jQ (N := 2) rfl ?_); refine jO ?hg (N := 2) ?hd (cs := #[.bool a0_0, .bool a0_1, .bool a0_2, .bool a0_3, .bool a0_4, .int .i64 a0_5]) (t := 23) ?hr ?_; (case hd => rfl); (case hg => rfl); (case hr => first | (go_simp; done) | (go_simp; rfl)); intro gb158 hg w10 hbox hb; have n0_ := jA (jJ (zb0 HB) hb); have n1_ := jA (hbox); have n2_ := jA ((by rw [hg]; exact (jG (zb0 HB)) : w.heap.size ≤ gb158)); have n3_ := jA ((by rw [hg]; exact (jG (zb0 HB)) : w.heap.size ≤ gb158)); clear HB; have HB := n0_; have BK158 := n1_; have GW158 := n2_; have GE158 := n3_; clear n0_ n1_ n2_ n3_; clear hb hbox hg))
      have n0_ := jA (jF BK158.out)
      have n1_ := jA (below_drew1 HB.out)
      clear BK158
      clear HB
      have BK158 := n0_
      have HB := n1_
      clear n0_ n1_
      refine start_ (n := 4) (S := fun w' => True) (ds := []) #[false, false, false, false] zr rfl rfl trivial (fun hHeld => ?_)
      generalize w10.drew = w11 at BK158 HB hHeld ⊢
      refine join_ (σ := Value × Value) 1 m4_e (fun s_ => [(15, s_.1), (16, s_.2), (6, s_.1)]) (fun s_ w' => (Kd.S (Kd.slice 2 (Kd.int .i64)) 35 w' w.heap.size (fun _ => True) s_.1 y159) ∧ (Kd.R Kd.bool 4 w' w.heap.size (fun _ => True) s_.2 y162) ∧ (w'.heap[gb158]? = some (.cells #[.bool a0_0, .bool a0_1, .bool a0_2, .bool a0_3, .bool a0_4, .int .i64 a0_5] 23 (0, 0))) ∧ (Below w.heap.size w w')) ?_ ?_
      rotate_left
      ·intro hCont
       refine two_ (i := 0) (j := 1) (Ni := some 15) (Nj := some 16) #[true, false, false, false] #[false, true, false, false] rfl rfl rfl rfl zr (by decide) (by decide) (fun K hK => ?_) (fun K hK => ?_)
       ·skip
        refine Kd.S_make_step (Kd.slice 2 (Kd.int .i64)) _ 35 (by rfl) (N := 15) rfl 81 _ _ rfl 160 rfl rfl Try.underlying81 (.slice none 0 0) 24 info35 rfl (by decide) (by omega) [] (ok := fun _ => True) (okp := fun _ => True) ⟨_, rfl, Kd.R_nil _ _ _ _ _⟩ (fun _ hk => hk) trivial (by omega) (by omega) (Below.refl _ _) (Nat.le_refl _) ?_
        intro v160 w12 ho13 hb hg_ hnew_
        clear hg_ hnew_
        (first | rw [← Ny159.out] at ho13 | (simp only [Int.reduceToNat] at ho13; rw [← Ny159.out] at ho13))
        have n0_ := jA (Kd.S_lower ho13 (jG (zb1 HB GE158)))
        have n1_ := jA (jS (g := gb158) (o := .cells #[.bool a0_0, .bool a0_1, .bool a0_2, .bool a0_3, .bool a0_4, .int .i64 a0_5] 23 (0, 0)) (zk BK158) hb)
        have n2_ := jA (jJ (zb1 HB GE158) hb)
        clear BK158
        clear HB
        have HO161 := n0_
        have BK158 := n1_
        have HB := n2_
        clear n0_ n1_ n2_
        clear hb ho13
        refine hK.out _ _ trivial (fun hHeld => ?_)
        clear hK K
        refine norm_ (a' := ?_) ?_ ?_
        rotate_left
        ·show Act.put _ (some 15) _ = _
         simp only [Act.put, jK, jM, jN, i64_w, i32_w]
         rfl
        refine pure_ (i := 2) (N := some 6) (v := ?_) (a' := ?_) #[true, false, true, false] rfl rfl zr (fun _ _ _ h => h) (Or.inl ⟨by rfl, ?_⟩) ?_ ?_
        rotate_left
        ·intro w'
         go_simp
         with_reducible rfl
        rotate_left
        ·simp only [Act.put, jK, jM, jN, i64_w, i32_w]
         rfl
        refine one_ (i := 1) (N := some 16) m4_e rfl rfl zr (by decide) (fun K hK => ?_)
        refine Kd.R_make_step Kd.bool _ 4 (by rfl) (N := 16) rfl 82 _ _ rfl 160 rfl rfl Try.underlying82 (.bool false) 1 info4 rfl (by decide) (by omega) false (ok := fun _ => True) (okp := fun _ => True) rfl (fun _ hk => hk) trivial (by omega) (by omega) (Below.refl _ _) (Nat.le_refl _) ?_
        intro v163 w14 ho15 hb hg_ hnew_
        clear hg_ hnew_
        (first | rw [← Ny162.out] at ho15 | (simp only [Int.reduceToNat] at ho15; rw [← Ny162.out] at ho15))
        have n0_ := jA (Kd.S_below (by (with_reducible repeat (first | apply Kd.S_alloc | apply Kd.S_drewN | apply Kd.S_drew)); exact HO161.out) hb)
        have n1_ := jA (Kd.R_lower ho15 (jG (zb1 HB GE158)))
        have n2_ := jA (jS (g := gb158) (o := .cells #[.bool a0_0, .bool a0_1, .bool a0_2, .bool a0_3, .bool a0_4, .int .i64 a0_5] 23 (0, 0)) (zk BK158) hb)
        have n3_ := jA (jJ (zb1 HB GE158) hb)
        clear HO161
        clear BK158
        clear HB
        have HO161 := n0_
        have HO164 := n1_
        have BK158 := n2_
        have HB := n3_
        clear n0_ n1_ n2_ n3_
        clear hb ho15
        refine hK.out _ _ trivial (fun hHeld => ?_)
        clear hK K
        refine norm_ (a' := ?_) ?_ ?_
        rotate_left
        ·show Act.put _ (some 16) _ = _
         simp only [Act.put, jK, jM, jN, i64_w, i32_w]
         rfl
        exact norm_ (by simp only [putAll, Act.put, jK, jM, jN]) (hCont (v160, v163) _ ⟨(by (with_reducible repeat (first | apply Kd.S_alloc | apply Kd.S_drewN | apply Kd.S_drew)); exact HO161.out), (zo HO164), (zk BK158), (zb1 HB GE158)⟩)
       ·skip
        refine Kd.R_make_step Kd.bool _ 4 (by rfl) (N := 16) rfl 82 _ _ rfl 160 rfl rfl Try.underlying82 (.bool false) 1 info4 rfl (by decide) (by omega) false (ok := fun _ => True) (okp := fun _ => True) rfl (fun _ hk => hk) trivial (by omega) (by omega) (Below.refl _ _) (Nat.le_refl _) ?_
        intro v163 w12 ho13 hb hg_ hnew_
        clear hg_ hnew_
        (first | rw [← Ny162.out] at ho13 | (simp only [Int.reduceToNat] at ho13; rw [← Ny162.out] at ho13))
        have n0_ := jA (Kd.R_lower ho13 (jG (zb1 HB GE158)))
        have n1_ := jA (jS (g := gb158) (o := .cells #[.bool a0_0, .bool a0_1, .bool a0_2, .bool a0_3, .bool a0_4, .int .i64 a0_5] 23 (0, 0)) (zk BK158) hb)
        have n2_ := jA (jJ (zb1 HB GE158) hb)
        clear BK158
        clear HB
        have HO164 := n0_
        have BK158 := n1_
        have HB := n2_
        clear n0_ n1_ n2_
        clear hb ho13
        refine hK.out _ _ trivial (fun hHeld => ?_)
        clear hK K
        refine norm_ (a' := ?_) ?_ ?_
        rotate_left
        ·show Act.put _ (some 16) _ = _
         simp only [Act.put, jK, jM, jN, i64_w, i32_w]
         rfl
        refine one_ (i := 0) (N := some 15) #[true, true, false, false] rfl rfl zr (by decide) (fun K hK => ?_)
        refine Kd.S_make_step (Kd.slice 2 (Kd.int .i64)) _ 35 (by rfl) (N := 15) rfl 81 _ _ rfl 160 rfl rfl Try.underlying81 (.slice none 0 0) 24 info35 rfl (by decide) (by omega) [] (ok := fun _ => True) (okp := fun _ => True) ⟨_, rfl, Kd.R_nil _ _ _ _ _⟩ (fun _ hk => hk) trivial (by omega) (by omega) (Below.refl _ _) (Nat.le_refl _) ?_
        intro v160 w14 ho15 hb hg_ hnew_
        clear hg_ hnew_
        (first | rw [← Ny159.out] at ho15 | (simp only [Int.reduceToNat] at ho15; rw [← Ny159.out] at ho15))
        have n0_ := jA (ji (zo HO164) hb)
        have n1_ := jA (Kd.S_lower ho15 (jG (zb1 HB GE158)))
        have n2_ := jA (jS (g := gb158) (o := .cells #[.bool a0_0, .bool a0_1, .bool a0_2, .bool a0_3, .bool a0_4, .int .i64 a0_5] 23 (0, 0)) (zk BK158) hb)
        have n3_ := jA (jJ (zb1 HB GE158) hb)
        clear HO164
        clear BK158
        clear HB
        have HO164 := n0_
        have HO161 := n1_
        have BK158 := n2_
        have HB := n3_
        clear n0_ n1_ n2_ n3_
        clear hb ho15
        refine hK.out _ _ trivial (fun hHeld => ?_)
        clear hK K
        refine norm_ (a' := ?_) ?_ ?_
        rotate_left
        ·show Act.put _ (some 15) _ = _
         simp only [Act.put, jK, jM, jN, i64_w, i32_w]
         rfl
        refine pure_ (i := 2) (N := some 6) (v := ?_) (a' := ?_) m4_e rfl rfl zr (fun _ _ _ h => h) (Or.inl ⟨by rfl, ?_⟩) ?_ ?_
        rotate_left
        ·intro w'
         go_simp
         with_reducible rfl
        rotate_left
        ·simp only [Act.put, jK, jM, jN, i64_w, i32_w]
         rfl
        exact norm_ (by simp only [putAll, Act.put, jK, jM, jN]) (hCont (v160, v163) _ ⟨(by (with_reducible repeat (first | apply Kd.S_alloc | apply Kd.S_drewN | apply Kd.S_drew)); exact HO161.out), (zo HO164), (zk BK158), (zb1 HB GE158)⟩)
      rintro ⟨v160, v163⟩ w16 ⟨h0_, h1_, h2_, h3_⟩
      have n0_ : Aside0 (Kd.S (Kd.slice 2 (Kd.int .i64)) 35 w16 w.heap.size (fun _ => True) v160 y159) := ⟨h0_⟩
      have n1_ : Aside0 (Kd.R Kd.bool 4 w16 w.heap.size (fun _ => True) v163 y162) := ⟨h1_⟩
      have n2_ : Aside0 (w16.heap[gb158]? = some (.cells #[.bool a0_0, .bool a0_1, .bool a0_2, .bool a0_3, .bool a0_4, .int .i64 a0_5] 23 (0, 0))) := ⟨h2_⟩
      have n3_ : Aside0 (Below w.heap.size w w16) := ⟨h3_⟩
      clear BK158
      clear HB
      clear h0_ h1_ h2_ h3_
      have HO161 := n0_
      have HO164 := n1_
      have BK158 := n2_
      have HB := n3_
      clear n0_ n1_ n2_ n3_
      have hHeld := trivial
      refine norm_ (a' := ?_) ?_ ?_
      rotate_left
      ·simp only [putAll, Act.put, jK, jM, jN]
       rfl
      refine pure_ (i := 3) (N := some 7) (v := ?_) (a' := ?_) #[true, true, true, true] rfl rfl zr (fun _ _ _ h => h) (Or.inl ⟨by rfl, ?_⟩) ?_ ?_
      rotate_left
      ·intro w'
       go_simp
       with_reducible rfl
      rotate_left
      ·simp only [Act.put, jK, jM, jN, i64_w, i32_w]
       rfl
      refine done_ zr ?_
      have hcz17_0 : w16.cell? ⟨gb158, 0, none⟩ = some (.bool a0_0) := (jC BK158.out 0).trans rfl
      have hcz17_1 : w16.cell? ⟨gb158, 1, none⟩ = some (.bool a0_1) := (jC BK158.out 1).trans rfl
      have hcz17_2 : w16.cell? ⟨gb158, 2, none⟩ = some (.bool a0_2) := (jC BK158.out 2).trans rfl
      have hcz17_3 : w16.cell? ⟨gb158, 3, none⟩ = some (.bool a0_3) := (jC BK158.out 3).trans rfl
      have hcz17_4 : w16.cell? ⟨gb158, 4, none⟩ = some (.bool a0_4) := (jC BK158.out 4).trans rfl
      have hcz17_5 : w16.cell? ⟨gb158, 5, none⟩ = some (.int .i64 a0_5) := (jC BK158.out 5).trans rfl
      have hfz17_0 := jB BK158.out 0
      have hfz17_1 := jB BK158.out 1
      have hfz17_2 := jB BK158.out 2
      have hfz17_3 := jB BK158.out 3
      have hfz17_4 := jB BK158.out 4
      have hfz17_5 := jB BK158.out 5
      try go_wp2_with (first | ((with_reducible refine jZ (f := 53) rfl ?_); refine goesL_ (some 18) rfl rfl Try.func53 zr rfl #[.agg #[.bool a0_0, .bool a0_1, .bool a0_2, .bool a0_3, .bool a0_4, .int .i64 a0_5]] rfl zm ?_; (with_reducible refine (impl_numberOf.calls a0_0 a0_1 a0_2 a0_3 a0_4 a0_5 t165 _ A5.out).mono ?_); rintro e w18 ⟨rfl, hb⟩; refine ⟨_, rfl, ?_⟩; have n0_ := jA (Kd.S_below (by (with_reducible repeat (first | apply Kd.S_alloc | apply Kd.S_drewN | apply Kd.S_drew)); exact HO161.out) hb); have n1_ := jA (ji (zo HO164) hb); have n2_ := jA (jS (g := gb158) (o := .cells #[.bool a0_0, .bool a0_1, .bool a0_2, .bool a0_3, .bool a0_4, .int .i64 a0_5] 23 (0, 0)) (zk BK158) hb); have n3_ := jA (jJ (zb1 HB GE158) hb); clear HO161; clear HO164; clear BK158; clear HB; have HO161 := n0_; have HO164 := n1_; have BK158 := n2_; have HB := n3_; clear n0_ n1_ n2_ n3_; (try clear hb); (try clear hb2); (try clear hk); (try clear hi)) | ((with_reducible refine jQ (N := 19) rfl ?_); refine Kd.R_lit (Kd.int .i64) _ 2 ?hg (N := 19) ?hd (xs := ([t165] : List Int)) (inner := [.int .i64 t165]) (ok := fun _ => True) (okp := fun _ => True) ?hr ?hp (fun _ hk => hk) trivial (Below.refl _ _) (Nat.le_refl _) (by simp) ?_; (case hd => rfl); (case hg => rfl); (case hr => first | (go_simp; done) | (go_simp; rfl)); (case hp => exact (Reps.one (show Kd.M (Kd.int .i64) _ _ _ t165 [.int .i64 t165] from rfl) (Reps.none _ _))); intro v167 w19 ho20 hb hg_ hnew_; clear hg_ hnew_; (first | rw [← Ny166.out] at ho20 | (simp only [Int.reduceToNat] at ho20; rw [← Ny166.out] at ho20)); have n0_ := jA (Kd.S_elder' (by (with_reducible repeat (first | apply Kd.S_alloc | apply Kd.S_drewN | apply Kd.S_drew)); exact HO161.out) (Kd.R_base ho20) hb); have n1_ := jA (ji (zo HO164) hb); have n2_ := jA (Kd.R_lower ho20 (jG (zb1 HB GE158))); have n3_ := jA (jS (g := gb158) (o := .cells #[.bool a0_0, .bool a0_1, .bool a0_2, .bool a0_3, .bool a0_4, .int .i64 a0_5] 23 (0, 0)) (zk BK158) hb); have n4_ := jA (jJ (zb1 HB GE158) hb); clear HO161; clear HO164; clear BK158; clear HB; have HO161 := n0_; have HO164 := n1_; have HO168 := n2_; have BK158 := n3_; have HB := n4_; clear n0_ n1_ n2_ n3_ n4_; clear hb ho20; obtain ⟨Ao21, co21, eo21⟩ := Kd.R_slice HO168.out; subst eo21; have p169 : 0 ≤ (0 : Int) := (by omega); have q169 : 0 < (y166.length : Int) := jH za; obtain ⟨ad169, e169, hx169_0⟩ := jg (je HO168.out).2.2 0 p169 q169; cases e169; have qi169 : (0 < y166.length) = True := eq_true (by omega); (try rw [show ((0 : Int)).toNat = 0 from rfl] at hx169_0); (try rw [Addr.add_zero'] at hx169_0); replace p169 := eq_true p169; replace q169 := eq_true q169; have p9 : 0 ≤ ((rd y166 0) : Int) := jH za; have q9 : ((rd y166 0) : Int) < ((y162.length : Int) : Int) := jH za; obtain ⟨go9, co9, eo9, gb9, gl9, cl9, HG9⟩ := Kd.R_form HO164.out (by omega); (first | cases eo9 | (injection eo9 with ea_ en_ ec_; (first | subst ea_ | (injection ea_ with ea_; subst ea_)); subst ec_; clear en_)); have GB9 := jA gb9; have GG9 := jA HG9; clear gb9 gl9 HG9; obtain ⟨hx9_0, hf9_0⟩ := Kd.R_celln false HO164.out ((rd y166 0) : Int) p9 q9; replace p9 := eq_true p9; replace q9 := eq_true q9; obtain ⟨hy22_, hz22_⟩ := Kd.R_celln false HO164.out ((rd y166 0) : Int) (jH za) (jH za); have HP22 := Kd.R_putg HO164.out ((rd y166 0) : Int) true) | ((with_reducible refine gate_store (t := 4) (p := 24) rfl ?_); refine store_event (t := 4) (p := 24) (v := ?vo_w23) (w1 := (w19.setCell ⟨go9, ((rd y166 0) : Int).toNat, none⟩ (.bool true))) ?hg ?ho ?hn ?hr ?_; (case ho => rfl); (case hg => rfl); (case hn => rfl); (case hr => first | (go_simp; done) | (go_simp; rfl)); intro w23 hw; have hg : w19.grownBy w23 (some go9) := (by rw [hw]; exact HP22.2); have hp_ : Kd.R Kd.bool 4 w23 w.heap.size (fun _ => True) (.slice (some ⟨go9, 0, none⟩) y162.length co9) y170 := (by rw [hw, Ny170.out]; exact HP22.1); clear HP22; have n0_ := jA (blk_grown (g := gb158) (o := .cells #[.bool a0_0, .bool a0_1, .bool a0_2, .bool a0_3, .bool a0_4, .int .i64 a0_5] 23 (0, 0)) (zk BK158) hg (Kd.R_ne HO164.out BK158.out (by decide))); have n1_ := jA (Kd.S_over' (v := (.slice (some ⟨go9, 0, none⟩) y162.length co9)) (by (with_reducible repeat (first | apply Kd.S_alloc | apply Kd.S_drewN | apply Kd.S_drew)); exact HO161.out) (Kd.R_typed HO164.out) (by decide) hg); have n2_ := jA (hp_); have n3_ := jA (Kd.R_over' (v := (.slice (some ⟨go9, 0, none⟩) y162.length co9)) (zo HO168) (Kd.R_typed HO164.out) (by decide) hg); have n4_ := jA ((by rw [hw]; exact below_set (HB.out) GB9.out : Below w.heap.size w w23)); clear BK158; clear HO161; clear HO164; clear HO168; clear HB; have BK158 := n0_; have HO161 := n1_; have HO164 := n2_; have HO168 := n3_; have HB := n4_; clear n0_ n1_ n2_ n3_ n4_; clear hg hw hp_))
      go_loopg [8] k (fun kq v8 w' => ∃ (x6_1 : List (List Int)) (x7_1 : List Bool) (x8_1 : List Int), Aside0 (impl_shortest.l0 kq l1 x6_1 x7_1 x8_1 = some (r1, r2)) ∧ Aside0 (kq ≤ k) ∧ Aside0 (Kd.S (Kd.slice 2 (Kd.int .i64)) 35 w' w.heap.size (fun k_ => some k_ ≠ (v8 : Value).ownBlock) v160 x6_1) ∧ Aside0 (Kd.R Kd.bool 4 w' w.heap.size (fun _ => True) (.slice (some ⟨go9, 0, none⟩) y162.length co9) x7_1) ∧ Aside0 (Kd.Q (Kd.int .i64) 2 w' w.heap.size (fun _ => True) v8 x8_1) ∧ Aside0 (w'.heap[gb158]? = some (.cells #[.bool a0_0, .bool a0_1, .bool a0_2, .bool a0_3, .bool a0_4, .int .i64 a0_5] 23 (0, 0))) ∧ Aside0 (Below w.heap.size w w'))
      case atStart => exact ⟨(y159), (y170), (y166), H', ⟨Nat.le_refl _⟩, ⟨by (with_reducible repeat (first | apply Kd.S_alloc | apply Kd.S_drewN | apply Kd.S_drew)); exact Kd.S_mono HO161.out (fun _ hk => hk.2)⟩, ⟨by (with_reducible repeat (first | apply jd | apply jc | apply jf)); exact HO164.out⟩, ⟨Kd.Q_of_R (zo HO168)⟩, ⟨by (with_reducible repeat (first | refine jD ?_ _ | refine jF ?_ | refine jE ?_ _)); exact BK158.out⟩, ⟨zb1 HB GE158⟩⟩
      case round =>
       clear H'
       try clear c1
       try clear p1
       try clear q1
       try clear hx1
       try clear qi1
       try clear p2
       try clear c3
       try clear c3b0
       try clear c3b1
       try clear c4
       try clear c4b0
       try clear c4b1
       try clear c5
       try clear c6
       try clear c6b0
       try clear c6b1
       try clear c7
       try clear c7b0
       try clear c8
       try clear c8b0
       try clear p9
       try clear q9
       try clear hx9
       try clear hf9
       try clear p16
       try clear q16
       try clear hx16
       try clear qi16
       try clear hcz17_0
       try clear hcz17_1
       try clear hcz17_2
       try clear hcz17_3
       try clear hcz17_4
       try clear hcz17_5
       try clear hfz17_0
       try clear hfz17_1
       try clear hfz17_2
       try clear hfz17_3
       try clear hfz17_4
       try clear hfz17_5
       try clear hx169_0
       try clear hx9_0
       try clear p169
       try clear p9
       try clear q169
       try clear q9
       obtain ⟨x6_1, x7_1, x8_1, HA, HK1, HO_6, HO_7, HO_8, BK158, HB⟩ := hrel
       have hl7_1 := (je HO_7.out).1
       rw [hl7_1] at HO_7
       (try simp only [hl7_1])
       (try simp only [hl7_1] at BK158)
       (try simp only [hl7_1] at HO_6)
       (try simp only [hl7_1] at HO_8)
       cases gk with
       | zero => exact absurd HA.out (by simp [impl_shortest.l0])
       | succ k1 =>
        have H := HA.out
        clear HA
        simp only [impl_shortest.l0] at H
        by_cases c24 : (x8_1.length : Int) > 0
        ·rw [if_pos c24] at H
         have c24b0 : decide (0 < (x8_1.length : Int)) = true := jT c24
         have c24b1 : decide (0 < x8_1.length) = true := jT (by omega)
         clear c24
         by_cases c25 : 0 < (x8_1.length : Int)
         ·rw [if_pos c25] at H
          have c25b0 : decide (0 < (x8_1.length : Int)) = true := jT c25
          have c25b1 : decide (0 < x8_1.length) = true := jT (by omega)
          clear c25
          by_cases c26 : 1 ≤ (x8_1.length : Int)
          ·rw [if_pos c26] at H
           have c26b0 := eq_true c26
           have c26b1 : decide (1 ≤ (x8_1.length : Int)) = true := jT c26
           clear c26
           obtain ⟨y172, hy172⟩ : ∃ y_ : List Int, y_ = (x8_1.drop (1 : Int).toNat) := ⟨_, rfl⟩
           replace H : (impl_shortest.l1 k1 l1 x6_1 x7_1 y172 (rd x8_1 0) l1 (l1.length : Int) 0) = some (r1, r2) := by first | (rw [hy172]; with_reducible exact H) | (have H2_ := (Option.bind_some _ _).symm.trans H; rw [hy172]; with_reducible exact H2_) | (have H2_ := (Option.bind_some _ _).symm.trans H; with_reducible exact H2_) | with_reducible exact H | (rw [hy172]; exact H) | exact H
           have Ny172 := jA hy172
           clear hy172
           have H' := jA H
           clear H
           obtain ⟨Ao27, co27, eo27, _⟩ := Kd.Q_slice HO_8.out
           subst eo27
           have p171 : 0 ≤ (0 : Int) := (by omega)
           have q171 : 0 < (x8_1.length : Int) := jH za
           obtain ⟨ad171, e171, hx171_0⟩ := jg (Kd.Q_reads' HO_8.out).2.2 0 p171 q171
           cases e171
           have qi171 : (0 < x8_1.length) = True := eq_true (by omega)
           (try rw [show ((0 : Int)).toNat = 0 from rfl] at hx171_0)
           (try rw [Addr.add_zero'] at hx171_0)
           replace p171 := eq_true p171
           replace q171 := eq_true q171
           have q28 : (1 : Int) ≤ ((x8_1.length : Int) : Int) := jH za
           obtain ⟨i028, hi028, _, hsz28, _⟩ := info_parts info2
           have hcut28 := cut_from (P := Try.prog) 35 2 .i64 Try.underlying35 hi028 1 hsz28 (some ad171) x8_1.length co27 1 (by omega) q28
           have hr28 := Kd.Q_drop (k := (1 : Int).toNat) HO_8.out (by omega)
           obtain ⟨A28, hA28⟩ : ∃ A1, A1 = (if co27 = (1 : Int).toNat then (some ad171) else ((some ad171) : Option Addr).map (·.add ((1 : Int).toNat * 1))) := ⟨_, rfl⟩
           obtain ⟨c28, hc28⟩ : ∃ c1, c1 = co27 - (1 : Int).toNat := ⟨_, rfl⟩
           have hy28 : y172.length = x8_1.length - (1 : Int).toNat := (by rw [Ny172.out, List.length_drop])
           rw [← Ny172.out] at hr28
           rw [← hy28, ← hA28, ← hc28] at hcut28
           replace hr28 : Kd.Q (Kd.int .i64) 2 wr w.heap.size (fun _ => True) (.slice A28 y172.length c28) y172 := (by rw [hA28, hc28, hy28]; exact hr28)
           have HE28 : Aside0 ((Value.slice A28 y172.length c28).ownBlock = (.slice (some ad171) x8_1.length co27 : Value).ownBlock) := ⟨by rw [hA28]; split <;> (cases ((some ad171) : Option Addr) <;> rfl)⟩
           clear hy28 hi028 hsz28 HO_8 hA28 hc28
           have HO174 := jA hr28
           clear hr28
           replace q28 := eq_true q28
           have n_ := jA (Kd.S_mono (ok' := fun k_ => some k_ ≠ (.slice A28 y172.length c28 : Value).ownBlock) HO_6.out (fun k_ hk => (by rw [HE28.out]; exact hk)))
           clear HO_6
           have HO_6 := n_
           clear n_
           go_wp2
           go_loopg [8, 35] k1 (fun kq v8 v35 w' => ∃ (x6_2 : List (List Int)) (x7_2 : List Bool) (x8_2 : List Int) (x35_2 : Int), v35 = .int .i64 x35_2 ∧ Aside0 (impl_shortest.l1 kq l1 x6_2 x7_2 x8_2 (rd x8_1 0) l1 (l1.length : Int) x35_2 = some (r1, r2)) ∧ Aside0 (kq ≤ k1) ∧ Aside0 (Kd.S (Kd.slice 2 (Kd.int .i64)) 35 w' w.heap.size (fun k_ => some k_ ≠ (v8 : Value).ownBlock) v160 x6_2) ∧ Aside0 (Kd.R Kd.bool 4 w' w.heap.size (fun _ => True) (.slice (some ⟨go9, 0, none⟩) x7_1.length co9) x7_2) ∧ Aside0 (Kd.Q (Kd.int .i64) 2 w' w.heap.size (fun _ => True) v8 x8_2) ∧ Aside0 (w'.heap[gb158]? = some (.cells #[.bool a0_0, .bool a0_1, .bool a0_2, .bool a0_3, .bool a0_4, .int .i64 a0_5] 23 (0, 0))) ∧ Aside0 (Below w.heap.size w w'))
           case atStart => exact ⟨(x6_1), (x7_1), (y172), (0), zz, H', ⟨Nat.le_refl _⟩, ⟨by (try simp only [hl7_1]); (with_reducible repeat (first | apply Kd.S_alloc | apply Kd.S_drewN | apply Kd.S_drew)); exact HO_6.out⟩, ⟨by (try simp only [hl7_1]); (with_reducible repeat (first | apply jd | apply jc | apply jf)); exact HO_7.out⟩, ⟨by (try simp only [hl7_1]); (with_reducible repeat (first | apply Kd.Q_alloc | apply Kd.Q_drewN | apply Kd.Q_drew)); exact HO174.out⟩, ⟨by (try simp only [hl7_1]); (with_reducible repeat (first | refine jD ?_ _ | refine jF ?_ | refine jE ?_ _)); exact BK158.out⟩, ⟨zb1 HB GE158⟩⟩
           case round =>
            clear H'
            try clear c1
            try clear p1
            try clear q1
            try clear hx1
            try clear qi1
            try clear c2
            try clear p2
            try clear q2
            try clear c3
            try clear c3b0
            try clear c3b1
            try clear c4
            try clear c4b0
            try clear c4b1
            try clear c5
            try clear c6
            try clear c6b0
            try clear c6b1
            try clear c7
            try clear c7b0
            try clear c8
            try clear c8b0
            try clear p9
            try clear q9
            try clear hx9
            try clear hf9
            try clear p16
            try clear q16
            try clear hx16
            try clear qi16
            try clear p17
            try clear q17
            try clear hx17
            try clear qi17
            try clear c24
            try clear c24b0
            try clear c24b1
            try clear c25
            try clear c25b0
            try clear c25b1
            try clear c26
            try clear c26b0
            try clear c26b1
            try clear c28
            try clear q28
            try clear hcz17_0
            try clear hcz17_1
            try clear hcz17_2
            try clear hcz17_3
            try clear hcz17_4
            try clear hcz17_5
            try clear hfz17_0
            try clear hfz17_1
            try clear hfz17_2
            try clear hfz17_3
            try clear hfz17_4
            try clear hfz17_5
            try clear hx169_0
            try clear hx171_0
            try clear hx9_0
            try clear p1
            try clear p16
            try clear p169
            try clear p171
            try clear p2
            try clear p9
            try clear q1
            try clear q16
            try clear q169
            try clear q171
            try clear q28
            try clear q9
            obtain ⟨x6_2, x7_2, x8_2, x35_2, rfl, HA, HK2, HO_6, HO_7, HO_8, BK158, HB⟩ := hrel
            have hl7_2 := (je HO_7.out).1
            rw [hl7_2] at HO_7
            (try simp only [hl7_2])
            (try simp only [hl7_2] at BK158)
            (try simp only [hl7_2] at HO_6)
            (try simp only [hl7_2] at HO_8)
            cases gk with
            | zero => exact absurd HA.out (by simp [impl_shortest.l1])
            | succ k2 =>
             have H := HA.out
             clear HA
             simp only [impl_shortest.l1] at H
             by_cases c29 : x35_2 < (l1.length : Int)
             ·rw [if_pos c29] at H
              have c29b0 : decide (x35_2 < (l1.length : Int)) = true := jT c29
              clear c29
              by_cases c30 : 0 ≤ x35_2
              ·rw [if_pos c30] at H
               have c30b0 : decide (0 ≤ x35_2) = true := jT c30
               clear c30
               by_cases c31 : x35_2 < (l1.length : Int)
               ·rw [if_pos c31] at H
                have c31b0 : decide (x35_2 < (l1.length : Int)) = true := jT c31
                clear c31
                replace H := jR.mp H
                obtain ⟨⟨t176, t177, t178, t179, t180, t181⟩, A320, H⟩ := H
                replace H : ((impl_giveInput.f t176 t177 t178 t179 t180 t181 (rd l1 x35_2)).bind fun bt182 => ((impl_numberOf.f bt182.1 bt182.2.1 bt182.2.2.1 bt182.2.2.2.1 bt182.2.2.2.2.1 bt182.2.2.2.2.2.1).bind fun t190 => (if bt182.2.2.2.2.2.2 = 0 then (if 0 ≤ t190 then (if t190 < (x7_2.length : Int) then (if rdOf false x7_2 t190 = true then (impl_shortest.l1 k2 l1 x6_2 x7_2 x8_2 (rd x8_1 0) l1 (l1.length : Int) (wrap64 (x35_2 + 1))) else (if 0 ≤ (rd x8_1 0) then (if (rd x8_1 0) < (x6_2.length : Int) then ((impl_copyList.f (rd_L1 x6_2 (rd x8_1 0))).bind fun t194 => (if t194.length < 17592186044416 then (if t190 < (x6_2.length : Int) then (if x8_2.length < 17592186044416 then (impl_shortest.l1 k2 l1 (x6_2.set (t190 : Int).toNat (t194 ++ [rd l1 x35_2])) (x7_2.set (t190 : Int).toNat true) (x8_2 ++ [t190]) (rd x8_1 0) l1 (l1.length : Int) (wrap64 (x35_2 + 1))) else (none)) else (none)) else (none))) else (none)) else (none))) else (none)) else (none)) else (impl_shortest.l1 k2 l1 x6_2 x7_2 x8_2 (rd x8_1 0) l1 (l1.length : Int) (wrap64 (x35_2 + 1)))))) = some (r1, r2) := H
                have A32 := jA A320
                clear A320
                replace H := jR.mp H
                obtain ⟨⟨t182, t183, t184, t185, t186, t187, t188⟩, A330, H⟩ := H
                replace H : ((impl_numberOf.f t182 t183 t184 t185 t186 t187).bind fun t190 => (if t188 = 0 then (if 0 ≤ t190 then (if t190 < (x7_2.length : Int) then (if rdOf false x7_2 t190 = true then (impl_shortest.l1 k2 l1 x6_2 x7_2 x8_2 (rd x8_1 0) l1 (l1.length : Int) (wrap64 (x35_2 + 1))) else (if 0 ≤ (rd x8_1 0) then (if (rd x8_1 0) < (x6_2.length : Int) then ((impl_copyList.f (rd_L1 x6_2 (rd x8_1 0))).bind fun t194 => (if t194.length < 17592186044416 then (if t190 < (x6_2.length : Int) then (if x8_2.length < 17592186044416 then (impl_shortest.l1 k2 l1 (x6_2.set (t190 : Int).toNat (t194 ++ [rd l1 x35_2])) (x7_2.set (t190 : Int).toNat true) (x8_2 ++ [t190]) (rd x8_1 0) l1 (l1.length : Int) (wrap64 (x35_2 + 1))) else (none)) else (none)) else (none))) else (none)) else (none))) else (none)) else (none)) else (impl_shortest.l1 k2 l1 x6_2 x7_2 x8_2 (rd x8_1 0) l1 (l1.length : Int) (wrap64 (x35_2 + 1))))) = some (r1, r2) := H
                have A33 := jA A330
                clear A330
                replace H := jR.mp H
                obtain ⟨t190, A340, H⟩ := H
                replace H : (if t188 = 0 then (if 0 ≤ t190 then (if t190 < (x7_2.length : Int) then (if rdOf false x7_2 t190 = true then (impl_shortest.l1 k2 l1 x6_2 x7_2 x8_2 (rd x8_1 0) l1 (l1.length : Int) (wrap64 (x35_2 + 1))) else (if 0 ≤ (rd x8_1 0) then (if (rd x8_1 0) < (x6_2.length : Int) then ((impl_copyList.f (rd_L1 x6_2 (rd x8_1 0))).bind fun t194 => (if t194.length < 17592186044416 then (if t190 < (x6_2.length : Int) then (if x8_2.length < 17592186044416 then (impl_shortest.l1 k2 l1 (x6_2.set (t190 : Int).toNat (t194 ++ [rd l1 x35_2])) (x7_2.set (t190 : Int).toNat true) (x8_2 ++ [t190]) (rd x8_1 0) l1 (l1.length : Int) (wrap64 (x35_2 + 1))) else (none)) else (none)) else (none))) else (none)) else (none))) else (none)) else (none)) else (impl_shortest.l1 k2 l1 x6_2 x7_2 x8_2 (rd x8_1 0) l1 (l1.length : Int) (wrap64 (x35_2 + 1)))) = some (r1, r2) := H
                have A34 := jA A340
                clear A340
                by_cases c35 : t188 = 0
                ·rw [if_pos c35] at H
                 have c35b0 : (t188 == 0) = true := beq_iff_eq.mpr c35
                 have c35b1 : (t188 != 0) = false := bne_eq_false_iff_eq.mpr c35
                 clear c35
                 by_cases c36 : 0 ≤ t190
                 ·rw [if_pos c36] at H
                  have c36b0 : decide (0 ≤ t190) = true := jT c36
                  clear c36
                  by_cases c37 : t190 < (x7_2.length : Int)
                  ·rw [if_pos c37] at H
                   have c37b0 : decide (t190 < (x7_2.length : Int)) = true := jT c37
                   clear c37
                   obtain ⟨bq38, hbq38⟩ : ∃ b_ : Bool, b_ = (rdOf false x7_2 t190) := ⟨_, rfl⟩
                   replace H : (if bq38 = true then (impl_shortest.l1 k2 l1 x6_2 x7_2 x8_2 (rd x8_1 0) l1 (l1.length : Int) (wrap64 (x35_2 + 1))) else (if 0 ≤ (rd x8_1 0) then (if (rd x8_1 0) < (x6_2.length : Int) then ((impl_copyList.f (rd_L1 x6_2 (rd x8_1 0))).bind fun t194 => (if t194.length < 17592186044416 then (if t190 < (x6_2.length : Int) then (if x8_2.length < 17592186044416 then (impl_shortest.l1 k2 l1 (x6_2.set (t190 : Int).toNat (t194 ++ [rd l1 x35_2])) (x7_2.set (t190 : Int).toNat true) (x8_2 ++ [t190]) (rd x8_1 0) l1 (l1.length : Int) (wrap64 (x35_2 + 1))) else (none)) else (none)) else (none))) else (none)) else (none))) = some (r1, r2) := by rw [← hbq38] at H; exact H
                   have Nbq38 := jA hbq38
                   clear hbq38
                   by_cases c39 : bq38 = true
                   ·subst c39
                    have H1 : (impl_shortest.l1 k2 l1 x6_2 x7_2 x8_2 (rd x8_1 0) l1 (l1.length : Int) (wrap64 (x35_2 + 1))) = some (r1, r2) := by rw [if_pos rfl] at H; exact H
                    clear H
                    have H := H1
                    clear H1
                    have H' := jA H
                    clear H
                    have p175 : 0 ≤ (x35_2 : Int) := jH za
                    have q175 : x35_2 < (l1.length : Int) := jH za
                    obtain ⟨ad175, e175, hx175_0⟩ := jg HR1.out x35_2 p175 q175
                    cases e175
                    replace hx175_0 := (HB.out.cell (jL w _ hx175_0)).trans hx175_0
                    replace p175 := eq_true p175
                    replace q175 := eq_true q175
                    go_wp2_with (first | ((with_reducible refine jZ (f := 50) rfl ?_); refine goesL_ (some 41) rfl rfl Try.func50 zr rfl #[.int .i64 (rd x8_1 0)] rfl zm ?_; (with_reducible refine (impl_controllerWith.calls (rd x8_1 0) t176 t177 t178 t179 t180 t181 _ A32.out).mono ?_); rintro e w40 ⟨rfl, hb⟩; refine ⟨_, rfl, ?_⟩; have n0_ := jA (Kd.S_below (by (with_reducible repeat (first | apply Kd.S_alloc | apply Kd.S_drewN | apply Kd.S_drew)); exact HO_6.out) hb); have n1_ := jA (ji (zo HO_7) hb); have n2_ := jA (Kd.Q_below (by (with_reducible repeat (first | apply Kd.Q_alloc | apply Kd.Q_drewN | apply Kd.Q_drew)); exact HO_8.out) hb); have n3_ := jA (jS (g := gb158) (o := .cells #[.bool a0_0, .bool a0_1, .bool a0_2, .bool a0_3, .bool a0_4, .int .i64 a0_5] 23 (0, 0)) (zk BK158) hb); have n4_ := jA (jJ (zb1 HB GE158) hb); clear HO_6; clear HO_7; clear HO_8; clear BK158; clear HB; have HO_6 := n0_; have HO_7 := n1_; have HO_8 := n2_; have BK158 := n3_; have HB := n4_; clear n0_ n1_ n2_ n3_ n4_; (try clear hb); (try clear hb2); (try clear hk); (try clear hi)) | ((with_reducible refine jZ (f := 67) rfl ?_); refine goesL_ (some 43) rfl rfl Try.func67 zr rfl #[.agg #[.bool t176, .bool t177, .bool t178, .bool t179, .bool t180, .int .i64 t181], .int .i64 (rd l1 x35_2)] rfl zm ?_; (with_reducible refine (impl_giveInput.calls t176 t177 t178 t179 t180 t181 (rd l1 x35_2) t182 t183 t184 t185 t186 t187 t188 _ A33.out).mono ?_); rintro e w41 ⟨rfl, hb⟩; refine ⟨_, rfl, ?_⟩; have n0_ := jA (Kd.S_below (by (with_reducible repeat (first | apply Kd.S_alloc | apply Kd.S_drewN | apply Kd.S_drew)); exact HO_6.out) hb); have n1_ := jA (ji (zo HO_7) hb); have n2_ := jA (Kd.Q_below (by (with_reducible repeat (first | apply Kd.Q_alloc | apply Kd.Q_drewN | apply Kd.Q_drew)); exact HO_8.out) hb); have n3_ := jA (jS (g := gb158) (o := .cells #[.bool a0_0, .bool a0_1, .bool a0_2, .bool a0_3, .bool a0_4, .int .i64 a0_5] 23 (0, 0)) (zk BK158) hb); have n4_ := jA (jJ (zb1 HB GE158) hb); clear HO_6; clear HO_7; clear HO_8; clear BK158; clear HB; have HO_6 := n0_; have HO_7 := n1_; have HO_8 := n2_; have BK158 := n3_; have HB := n4_; clear n0_ n1_ n2_ n3_ n4_; (try clear hb); (try clear hb2); (try clear hk); (try clear hi)) | ((with_reducible refine jQ (N := 12) rfl ?_); refine jO ?hg (N := 12) ?hd (cs := #[.bool false, .bool false, .bool false, .bool false, .bool false, .int .i64 0]) (t := 23) ?hr ?_; (case hd => rfl); (case hg => rfl); (case hr => first | (go_simp; done) | (go_simp; rfl)); intro gb189 hg w42 hbox hb; have n0_ := jA (Kd.S_below (by (with_reducible repeat (first | apply Kd.S_alloc | apply Kd.S_drewN | apply Kd.S_drew)); exact HO_6.out) hb); have n1_ := jA (ji (zo HO_7) hb); have n2_ := jA (Kd.Q_below (by (with_reducible repeat (first | apply Kd.Q_alloc | apply Kd.Q_drewN | apply Kd.Q_drew)); exact HO_8.out) hb); have n3_ := jA (jS (g := gb158) (o := .cells #[.bool a0_0, .bool a0_1, .bool a0_2, .bool a0_3, .bool a0_4, .int .i64 a0_5] 23 (0, 0)) (zk BK158) hb); have n4_ := jA (jJ (zb1 HB GE158) hb); have n5_ := jA (hbox); have n6_ := jA ((by rw [hg]; exact (jG (zb1 HB GE158)) : w.heap.size ≤ gb189)); have n7_ := jA ((by rw [hg]; exact (jG (zb1 HB GE158)) : w.heap.size ≤ gb189)); have n8_ := jA ((by rw [hg]; exact jP (blk_lt (g := gb158) (o := .cells #[.bool a0_0, .bool a0_1, .bool a0_2, .bool a0_3, .bool a0_4, .int .i64 a0_5] 23 (0, 0)) (zk BK158)) : gb158 ≠ gb189)); have n9_ := jA n8_.out.symm; clear HO_6; clear HO_7; clear HO_8; clear BK158; clear HB; have HO_6 := n0_; have HO_7 := n1_; have HO_8 := n2_; have BK158 := n3_; have HB := n4_; have BK189 := n5_; have GW189 := n6_; have GE189 := n7_; have NB158_189 := n8_; have NB189_158 := n9_; clear n0_ n1_ n2_ n3_ n4_ n5_ n6_ n7_ n8_ n9_; clear hb hbox hg; have hnb43 := NB189_158.out; have hnc43 := NB158_189.out; have hcz44_0 : w42.cell? ⟨gb189, 0, none⟩ = some (.bool false) := (jC BK189.out 0).trans rfl; have hcz44_1 : w42.cell? ⟨gb189, 1, none⟩ = some (.bool false) := (jC BK189.out 1).trans rfl; have hcz44_2 : w42.cell? ⟨gb189, 2, none⟩ = some (.bool false) := (jC BK189.out 2).trans rfl; have hcz44_3 : w42.cell? ⟨gb189, 3, none⟩ = some (.bool false) := (jC BK189.out 3).trans rfl; have hcz44_4 : w42.cell? ⟨gb189, 4, none⟩ = some (.bool false) := (jC BK189.out 4).trans rfl; have hcz44_5 : w42.cell? ⟨gb189, 5, none⟩ = some (.int .i64 0) := (jC BK189.out 5).trans rfl; have hfz44_0 := jB BK189.out 0; have hfz44_1 := jB BK189.out 1; have hfz44_2 := jB BK189.out 2; have hfz44_3 := jB BK189.out 3; have hfz44_4 := jB BK189.out 4; have hfz44_5 := jB BK189.out 5) | ((with_reducible refine jZ (f := 53) rfl ?_); refine goesL_ (some 47) rfl rfl Try.func53 zr rfl #[.agg #[.bool t182, .bool t183, .bool t184, .bool t185, .bool t186, .int .i64 t187]] rfl zm ?_; (with_reducible refine (impl_numberOf.calls t182 t183 t184 t185 t186 t187 t190 _ A34.out).mono ?_); rintro e w45 ⟨rfl, hb⟩; refine ⟨_, rfl, ?_⟩; have n0_ := jA (Kd.S_below (by (with_reducible repeat (first | apply Kd.S_alloc | apply Kd.S_drewN | apply Kd.S_drew)); exact (Kd.S_mono (Kd.S_far (p := ⟨gb189, 5, none⟩) (Kd.S_far (p := ⟨gb189, 4, none⟩) (Kd.S_far (p := ⟨gb189, 3, none⟩) (Kd.S_far (p := ⟨gb189, 2, none⟩) (Kd.S_far (p := ⟨gb189, 1, none⟩) (Kd.S_far (p := ⟨gb189, 0, none⟩) (Kd.S_types HO_6.out BK189.out (by decide)) (fun _ hk => hk.2) (.bool t182)) (fun _ hk => hk.2) (.bool t183)) (fun _ hk => hk.2) (.bool t184)) (fun _ hk => hk.2) (.bool t185)) (fun _ hk => hk.2) (.bool t186)) (fun _ hk => hk.2) (.int .i64 t187)) (fun _ h_ => h_.1))) hb); have n1_ := jA (ji (by (with_reducible repeat (first | apply jd | apply jc | apply jf)); exact (Kd.R_mono (Kd.R_far (p := ⟨gb189, 5, none⟩) (Kd.R_far (p := ⟨gb189, 4, none⟩) (Kd.R_far (p := ⟨gb189, 3, none⟩) (Kd.R_far (p := ⟨gb189, 2, none⟩) (Kd.R_far (p := ⟨gb189, 1, none⟩) (Kd.R_far (p := ⟨gb189, 0, none⟩) (Kd.R_types HO_7.out BK189.out (by decide)) (fun _ hk => hk.2) (.bool t182)) (fun _ hk => hk.2) (.bool t183)) (fun _ hk => hk.2) (.bool t184)) (fun _ hk => hk.2) (.bool t185)) (fun _ hk => hk.2) (.bool t186)) (fun _ hk => hk.2) (.int .i64 t187)) (fun _ h_ => h_.1))) hb); have n2_ := jA (Kd.Q_below (by (with_reducible repeat (first | apply Kd.Q_alloc | apply Kd.Q_drewN | apply Kd.Q_drew)); exact (Kd.Q_mono (Kd.Q_far (p := ⟨gb189, 5, none⟩) (Kd.Q_far (p := ⟨gb189, 4, none⟩) (Kd.Q_far (p := ⟨gb189, 3, none⟩) (Kd.Q_far (p := ⟨gb189, 2, none⟩) (Kd.Q_far (p := ⟨gb189, 1, none⟩) (Kd.Q_far (p := ⟨gb189, 0, none⟩) (Kd.Q_types HO_8.out BK189.out (by decide)) (fun _ hk => hk.2) (.bool t182)) (fun _ hk => hk.2) (.bool t183)) (fun _ hk => hk.2) (.bool t184)) (fun _ hk => hk.2) (.bool t185)) (fun _ hk => hk.2) (.bool t186)) (fun _ hk => hk.2) (.int .i64 t187)) (fun _ h_ => h_.1))) hb); have n3_ := jA (jS (g := gb158) (o := .cells #[.bool a0_0, .bool a0_1, .bool a0_2, .bool a0_3, .bool a0_4, .int .i64 a0_5] 23 (0, 0)) (by (with_reducible repeat (first | refine jD ?_ _ | refine jF ?_ | refine jE ?_ _)); refine jX ?_ NB158_189.out _; (with_reducible repeat (first | refine jD ?_ _ | refine jF ?_ | refine jE ?_ _)); refine jX ?_ NB158_189.out _; (with_reducible repeat (first | refine jD ?_ _ | refine jF ?_ | refine jE ?_ _)); refine jX ?_ NB158_189.out _; (with_reducible repeat (first | refine jD ?_ _ | refine jF ?_ | refine jE ?_ _)); refine jX ?_ NB158_189.out _; (with_reducible repeat (first | refine jD ?_ _ | refine jF ?_ | refine jE ?_ _)); refine jX ?_ NB158_189.out _; (with_reducible repeat (first | refine jD ?_ _ | refine jF ?_ | refine jE ?_ _)); refine jX ?_ NB158_189.out _; (with_reducible repeat (first | refine jD ?_ _ | refine jF ?_ | refine jE ?_ _)); exact BK158.out) hb); have n4_ := jA (jS (g := gb189) (o := .cells #[.bool t182, .bool t183, .bool t184, .bool t185, .bool t186, .int .i64 t187] 23 (0, 0)) (by (with_reducible repeat (first | refine jD ?_ _ | refine jF ?_ | refine jE ?_ _)); refine jI (cs := #[.bool t182, .bool t183, .bool t184, .bool t185, .bool t186, .int .i64 0]) ?_ 5 _ rfl; (with_reducible repeat (first | refine jD ?_ _ | refine jF ?_ | refine jE ?_ _)); refine jI (cs := #[.bool t182, .bool t183, .bool t184, .bool t185, .bool false, .int .i64 0]) ?_ 4 _ rfl; (with_reducible repeat (first | refine jD ?_ _ | refine jF ?_ | refine jE ?_ _)); refine jI (cs := #[.bool t182, .bool t183, .bool t184, .bool false, .bool false, .int .i64 0]) ?_ 3 _ rfl; (with_reducible repeat (first | refine jD ?_ _ | refine jF ?_ | refine jE ?_ _)); refine jI (cs := #[.bool t182, .bool t183, .bool false, .bool false, .bool false, .int .i64 0]) ?_ 2 _ rfl; (with_reducible repeat (first | refine jD ?_ _ | refine jF ?_ | refine jE ?_ _)); refine jI (cs := #[.bool t182, .bool false, .bool false, .bool false, .bool false, .int .i64 0]) ?_ 1 _ rfl; (with_reducible repeat (first | refine jD ?_ _ | refine jF ?_ | refine jE ?_ _)); refine jI (cs := #[.bool false, .bool false, .bool false, .bool false, .bool false, .int .i64 0]) ?_ 0 _ rfl; (with_reducible repeat (first | refine jD ?_ _ | refine jF ?_ | refine jE ?_ _)); exact BK189.out) hb); have n5_ := jA (jJ (zb2 HB GE158 GE189) hb); clear HO_6; clear HO_7; clear HO_8; clear BK158; clear BK189; clear HB; have HO_6 := n0_; have HO_7 := n1_; have HO_8 := n2_; have BK158 := n3_; have BK189 := n4_; have HB := n5_; clear n0_ n1_ n2_ n3_ n4_ n5_; (try clear hb); (try clear hb2); (try clear hk); (try clear hi); have p191 : 0 ≤ (t190 : Int) := jH za; have q191 : t190 < (x7_2.length : Int) := jH za; obtain ⟨ad191, e191, hx191_0⟩ := Kd.at_bool (je HO_7.out).2.2 t190 p191 q191; (try rw [← Nbq38.out] at hx191_0); obtain rfl : (⟨go9, 0, none⟩ : Addr) = ad191 := (by injection e191); (first | simp only [add_plain] at hx191_0 | simp only [add_at] at hx191_0 | simp only [Addr.add, Nat.zero_add] at hx191_0 | skip); replace p191 := eq_true p191; replace q191 := eq_true q191))
                    (try simp only [← hl7_2])
                    go_roundg k2
                    case measure => have := HK1.out; have := HK2.out; omega
                    case rel => exact ⟨(x6_2), (x7_2), (x8_2), (wrap64 (x35_2 + 1)), zz, H', ⟨by have := HK1.out; have := HK2.out; omega⟩, ⟨by (try simp only [hl7_1]); (try simp only [hl7_2]); (with_reducible repeat (first | apply Kd.S_alloc | apply Kd.S_drewN | apply Kd.S_drew)); exact HO_6.out⟩, ⟨by (try simp only [hl7_1]); (try simp only [hl7_2]); (with_reducible repeat (first | apply jd | apply jc | apply jf)); exact HO_7.out⟩, ⟨by (try simp only [hl7_1]); (try simp only [hl7_2]); (with_reducible repeat (first | apply Kd.Q_alloc | apply Kd.Q_drewN | apply Kd.Q_drew)); exact HO_8.out⟩, ⟨by (try simp only [hl7_1]); (try simp only [hl7_2]); (with_reducible repeat (first | refine jD ?_ _ | refine jF ?_ | refine jE ?_ _)); exact BK158.out⟩, ⟨zb2 HB GE158 GE189⟩⟩
                   ·replace c39 := Bool.eq_false_iff.mpr c39
                    subst c39
                    have H1 : (if 0 ≤ (rd x8_1 0) then (if (rd x8_1 0) < (x6_2.length : Int) then ((impl_copyList.f (rd_L1 x6_2 (rd x8_1 0))).bind fun t194 => (if t194.length < 17592186044416 then (if t190 < (x6_2.length : Int) then (if x8_2.length < 17592186044416 then (impl_shortest.l1 k2 l1 (x6_2.set (t190 : Int).toNat (t194 ++ [rd l1 x35_2])) (x7_2.set (t190 : Int).toNat true) (x8_2 ++ [t190]) (rd x8_1 0) l1 (l1.length : Int) (wrap64 (x35_2 + 1))) else (none)) else (none)) else (none))) else (none)) else (none)) = some (r1, r2) := by rw [if_neg (show ¬ (false = true) by decide)] at H; exact H
                    clear H
                    have H := H1
                    clear H1
                    obtain ⟨y192, hy192⟩ : ∃ y_ : List Bool, y_ = (x7_2.set (t190 : Int).toNat true) := ⟨_, rfl⟩
                    replace H : (if 0 ≤ (rd x8_1 0) then (if (rd x8_1 0) < (x6_2.length : Int) then ((impl_copyList.f (rd_L1 x6_2 (rd x8_1 0))).bind fun t194 => (if t194.length < 17592186044416 then (if t190 < (x6_2.length : Int) then (if x8_2.length < 17592186044416 then (impl_shortest.l1 k2 l1 (x6_2.set (t190 : Int).toNat (t194 ++ [rd l1 x35_2])) y192 (x8_2 ++ [t190]) (rd x8_1 0) l1 (l1.length : Int) (wrap64 (x35_2 + 1))) else (none)) else (none)) else (none))) else (none)) else (none)) = some (r1, r2) := by first | (rw [hy192]; with_reducible exact H) | (have H2_ := (Option.bind_some _ _).symm.trans H; rw [hy192]; with_reducible exact H2_) | (have H2_ := (Option.bind_some _ _).symm.trans H; with_reducible exact H2_) | with_reducible exact H | (rw [hy192]; exact H) | exact H
                    have Ny192 := jA hy192
                    clear hy192
                    by_cases c47 : 0 ≤ (rd x8_1 0)
                    ·rw [if_pos c47] at H
                     have c47b0 : decide (0 ≤ (rd x8_1 0)) = true := jT c47
                     clear c47
                     by_cases c48 : (rd x8_1 0) < (x6_2.length : Int)
                     ·rw [if_pos c48] at H
                      have c48b0 : decide ((rd x8_1 0) < (x6_2.length : Int)) = true := jT c48
                      clear c48
                      replace H := jR.mp H
                      obtain ⟨t194, A490, H⟩ := H
                      replace H : (if t194.length < 17592186044416 then (if t190 < (x6_2.length : Int) then (if x8_2.length < 17592186044416 then (impl_shortest.l1 k2 l1 (x6_2.set (t190 : Int).toNat (t194 ++ [rd l1 x35_2])) y192 (x8_2 ++ [t190]) (rd x8_1 0) l1 (l1.length : Int) (wrap64 (x35_2 + 1))) else (none)) else (none)) else (none)) = some (r1, r2) := H
                      have A49 := jA A490
                      clear A490
                      by_cases c50 : t194.length < 17592186044416
                      ·rw [if_pos c50] at H
                       have LMc50 := jA c50
                       clear c50
                       obtain ⟨y197, hy197⟩ : ∃ y_ : List Int, y_ = (t194 ++ [rd l1 x35_2]) := ⟨_, rfl⟩
                       replace H : (if t190 < (x6_2.length : Int) then (if x8_2.length < 17592186044416 then (impl_shortest.l1 k2 l1 (x6_2.set (t190 : Int).toNat y197) y192 (x8_2 ++ [t190]) (rd x8_1 0) l1 (l1.length : Int) (wrap64 (x35_2 + 1))) else (none)) else (none)) = some (r1, r2) := by first | (rw [hy197]; with_reducible exact H) | (have H2_ := (Option.bind_some _ _).symm.trans H; rw [hy197]; with_reducible exact H2_) | (have H2_ := (Option.bind_some _ _).symm.trans H; with_reducible exact H2_) | with_reducible exact H | (rw [hy197]; exact H) | exact H
                       have Ny197 := jA hy197
                       clear hy197
                       by_cases c51 : t190 < (x6_2.length : Int)
                       ·rw [if_pos c51] at H
                        have c51b0 : decide (t190 < (x6_2.length : Int)) = true := jT c51
                        clear c51
                        obtain ⟨y200, hy200⟩ : ∃ y_ : List (List Int), y_ = (x6_2.set (t190 : Int).toNat y197) := ⟨_, rfl⟩
                        replace H : (if x8_2.length < 17592186044416 then (impl_shortest.l1 k2 l1 y200 y192 (x8_2 ++ [t190]) (rd x8_1 0) l1 (l1.length : Int) (wrap64 (x35_2 + 1))) else (none)) = some (r1, r2) := by first | (rw [hy200]; with_reducible exact H) | (have H2_ := (Option.bind_some _ _).symm.trans H; rw [hy200]; with_reducible exact H2_) | (have H2_ := (Option.bind_some _ _).symm.trans H; with_reducible exact H2_) | with_reducible exact H | (rw [hy200]; exact H) | exact H
                        have Ny200 := jA hy200
                        clear hy200
                        by_cases c53 : x8_2.length < 17592186044416
                        ·rw [if_pos c53] at H
                         have LMc53 := jA c53
                         clear c53
                         obtain ⟨y201, hy201⟩ : ∃ y_ : List Int, y_ = (x8_2 ++ [t190]) := ⟨_, rfl⟩
                         replace H : (impl_shortest.l1 k2 l1 y200 y192 y201 (rd x8_1 0) l1 (l1.length : Int) (wrap64 (x35_2 + 1))) = some (r1, r2) := by first | (rw [hy201]; with_reducible exact H) | (have H2_ := (Option.bind_some _ _).symm.trans H; rw [hy201]; with_reducible exact H2_) | (have H2_ := (Option.bind_some _ _).symm.trans H; with_reducible exact H2_) | with_reducible exact H | (rw [hy201]; exact H) | exact H
                         have Ny201 := jA hy201
                         clear hy201
                         have H' := jA H
                         clear H
                         have p175 : 0 ≤ (x35_2 : Int) := jH za
                         have q175 : x35_2 < (l1.length : Int) := jH za
                         obtain ⟨ad175, e175, hx175_0⟩ := jg HR1.out x35_2 p175 q175
                         cases e175
                         replace hx175_0 := (HB.out.cell (jL w _ hx175_0)).trans hx175_0
                         replace p175 := eq_true p175
                         replace q175 := eq_true q175
                         go_wp2_with (first | ((with_reducible refine jZ (f := 50) rfl ?_); refine goesL_ (some 41) rfl rfl Try.func50 zr rfl #[.int .i64 (rd x8_1 0)] rfl zm ?_; (with_reducible refine (impl_controllerWith.calls (rd x8_1 0) t176 t177 t178 t179 t180 t181 _ A32.out).mono ?_); rintro e w54 ⟨rfl, hb⟩; refine ⟨_, rfl, ?_⟩; have n0_ := jA (Kd.S_below (by (with_reducible repeat (first | apply Kd.S_alloc | apply Kd.S_drewN | apply Kd.S_drew)); exact HO_6.out) hb); have n1_ := jA (ji (zo HO_7) hb); have n2_ := jA (Kd.Q_below (by (with_reducible repeat (first | apply Kd.Q_alloc | apply Kd.Q_drewN | apply Kd.Q_drew)); exact HO_8.out) hb); have n3_ := jA (jS (g := gb158) (o := .cells #[.bool a0_0, .bool a0_1, .bool a0_2, .bool a0_3, .bool a0_4, .int .i64 a0_5] 23 (0, 0)) (zk BK158) hb); have n4_ := jA (jJ (zb1 HB GE158) hb); clear HO_6; clear HO_7; clear HO_8; clear BK158; clear HB; have HO_6 := n0_; have HO_7 := n1_; have HO_8 := n2_; have BK158 := n3_; have HB := n4_; clear n0_ n1_ n2_ n3_ n4_; (try clear hb); (try clear hb2); (try clear hk); (try clear hi)) | ((with_reducible refine jZ (f := 67) rfl ?_); refine goesL_ (some 43) rfl rfl Try.func67 zr rfl #[.agg #[.bool t176, .bool t177, .bool t178, .bool t179, .bool t180, .int .i64 t181], .int .i64 (rd l1 x35_2)] rfl zm ?_; (with_reducible refine (impl_giveInput.calls t176 t177 t178 t179 t180 t181 (rd l1 x35_2) t182 t183 t184 t185 t186 t187 t188 _ A33.out).mono ?_); rintro e w55 ⟨rfl, hb⟩; refine ⟨_, rfl, ?_⟩; have n0_ := jA (Kd.S_below (by (with_reducible repeat (first | apply Kd.S_alloc | apply Kd.S_drewN | apply Kd.S_drew)); exact HO_6.out) hb); have n1_ := jA (ji (zo HO_7) hb); have n2_ := jA (Kd.Q_below (by (with_reducible repeat (first | apply Kd.Q_alloc | apply Kd.Q_drewN | apply Kd.Q_drew)); exact HO_8.out) hb); have n3_ := jA (jS (g := gb158) (o := .cells #[.bool a0_0, .bool a0_1, .bool a0_2, .bool a0_3, .bool a0_4, .int .i64 a0_5] 23 (0, 0)) (zk BK158) hb); have n4_ := jA (jJ (zb1 HB GE158) hb); clear HO_6; clear HO_7; clear HO_8; clear BK158; clear HB; have HO_6 := n0_; have HO_7 := n1_; have HO_8 := n2_; have BK158 := n3_; have HB := n4_; clear n0_ n1_ n2_ n3_ n4_; (try clear hb); (try clear hb2); (try clear hk); (try clear hi)) | ((with_reducible refine jQ (N := 12) rfl ?_); refine jO ?hg (N := 12) ?hd (cs := #[.bool false, .bool false, .bool false, .bool false, .bool false, .int .i64 0]) (t := 23) ?hr ?_; (case hd => rfl); (case hg => rfl); (case hr => first | (go_simp; done) | (go_simp; rfl)); intro gb189 hg w56 hbox hb; have n0_ := jA (Kd.S_below (by (with_reducible repeat (first | apply Kd.S_alloc | apply Kd.S_drewN | apply Kd.S_drew)); exact HO_6.out) hb); have n1_ := jA (ji (zo HO_7) hb); have n2_ := jA (Kd.Q_below (by (with_reducible repeat (first | apply Kd.Q_alloc | apply Kd.Q_drewN | apply Kd.Q_drew)); exact HO_8.out) hb); have n3_ := jA (jS (g := gb158) (o := .cells #[.bool a0_0, .bool a0_1, .bool a0_2, .bool a0_3, .bool a0_4, .int .i64 a0_5] 23 (0, 0)) (zk BK158) hb); have n4_ := jA (jJ (zb1 HB GE158) hb); have n5_ := jA (hbox); have n6_ := jA ((by rw [hg]; exact (jG (zb1 HB GE158)) : w.heap.size ≤ gb189)); have n7_ := jA ((by rw [hg]; exact (jG (zb1 HB GE158)) : w.heap.size ≤ gb189)); have n8_ := jA ((by rw [hg]; exact jP (blk_lt (g := gb158) (o := .cells #[.bool a0_0, .bool a0_1, .bool a0_2, .bool a0_3, .bool a0_4, .int .i64 a0_5] 23 (0, 0)) (zk BK158)) : gb158 ≠ gb189)); have n9_ := jA n8_.out.symm; clear HO_6; clear HO_7; clear HO_8; clear BK158; clear HB; have HO_6 := n0_; have HO_7 := n1_; have HO_8 := n2_; have BK158 := n3_; have HB := n4_; have BK189 := n5_; have GW189 := n6_; have GE189 := n7_; have NB158_189 := n8_; have NB189_158 := n9_; clear n0_ n1_ n2_ n3_ n4_ n5_ n6_ n7_ n8_ n9_; clear hb hbox hg; have hnb57 := NB189_158.out; have hnc57 := NB158_189.out; have hcz58_0 : w56.cell? ⟨gb189, 0, none⟩ = some (.bool false) := (jC BK189.out 0).trans rfl; have hcz58_1 : w56.cell? ⟨gb189, 1, none⟩ = some (.bool false) := (jC BK189.out 1).trans rfl; have hcz58_2 : w56.cell? ⟨gb189, 2, none⟩ = some (.bool false) := (jC BK189.out 2).trans rfl; have hcz58_3 : w56.cell? ⟨gb189, 3, none⟩ = some (.bool false) := (jC BK189.out 3).trans rfl; have hcz58_4 : w56.cell? ⟨gb189, 4, none⟩ = some (.bool false) := (jC BK189.out 4).trans rfl; have hcz58_5 : w56.cell? ⟨gb189, 5, none⟩ = some (.int .i64 0) := (jC BK189.out 5).trans rfl; have hfz58_0 := jB BK189.out 0; have hfz58_1 := jB BK189.out 1; have hfz58_2 := jB BK189.out 2; have hfz58_3 := jB BK189.out 3; have hfz58_4 := jB BK189.out 4; have hfz58_5 := jB BK189.out 5) | ((with_reducible refine jZ (f := 53) rfl ?_); refine goesL_ (some 47) rfl rfl Try.func53 zr rfl #[.agg #[.bool t182, .bool t183, .bool t184, .bool t185, .bool t186, .int .i64 t187]] rfl zm ?_; (with_reducible refine (impl_numberOf.calls t182 t183 t184 t185 t186 t187 t190 _ A34.out).mono ?_); rintro e w59 ⟨rfl, hb⟩; refine ⟨_, rfl, ?_⟩; have n0_ := jA (Kd.S_below (by (with_reducible repeat (first | apply Kd.S_alloc | apply Kd.S_drewN | apply Kd.S_drew)); exact (Kd.S_mono (Kd.S_far (p := ⟨gb189, 5, none⟩) (Kd.S_far (p := ⟨gb189, 4, none⟩) (Kd.S_far (p := ⟨gb189, 3, none⟩) (Kd.S_far (p := ⟨gb189, 2, none⟩) (Kd.S_far (p := ⟨gb189, 1, none⟩) (Kd.S_far (p := ⟨gb189, 0, none⟩) (Kd.S_types HO_6.out BK189.out (by decide)) (fun _ hk => hk.2) (.bool t182)) (fun _ hk => hk.2) (.bool t183)) (fun _ hk => hk.2) (.bool t184)) (fun _ hk => hk.2) (.bool t185)) (fun _ hk => hk.2) (.bool t186)) (fun _ hk => hk.2) (.int .i64 t187)) (fun _ h_ => h_.1))) hb); have n1_ := jA (ji (by (with_reducible repeat (first | apply jd | apply jc | apply jf)); exact (Kd.R_mono (Kd.R_far (p := ⟨gb189, 5, none⟩) (Kd.R_far (p := ⟨gb189, 4, none⟩) (Kd.R_far (p := ⟨gb189, 3, none⟩) (Kd.R_far (p := ⟨gb189, 2, none⟩) (Kd.R_far (p := ⟨gb189, 1, none⟩) (Kd.R_far (p := ⟨gb189, 0, none⟩) (Kd.R_types HO_7.out BK189.out (by decide)) (fun _ hk => hk.2) (.bool t182)) (fun _ hk => hk.2) (.bool t183)) (fun _ hk => hk.2) (.bool t184)) (fun _ hk => hk.2) (.bool t185)) (fun _ hk => hk.2) (.bool t186)) (fun _ hk => hk.2) (.int .i64 t187)) (fun _ h_ => h_.1))) hb); have n2_ := jA (Kd.Q_below (by (with_reducible repeat (first | apply Kd.Q_alloc | apply Kd.Q_drewN | apply Kd.Q_drew)); exact (Kd.Q_mono (Kd.Q_far (p := ⟨gb189, 5, none⟩) (Kd.Q_far (p := ⟨gb189, 4, none⟩) (Kd.Q_far (p := ⟨gb189, 3, none⟩) (Kd.Q_far (p := ⟨gb189, 2, none⟩) (Kd.Q_far (p := ⟨gb189, 1, none⟩) (Kd.Q_far (p := ⟨gb189, 0, none⟩) (Kd.Q_types HO_8.out BK189.out (by decide)) (fun _ hk => hk.2) (.bool t182)) (fun _ hk => hk.2) (.bool t183)) (fun _ hk => hk.2) (.bool t184)) (fun _ hk => hk.2) (.bool t185)) (fun _ hk => hk.2) (.bool t186)) (fun _ hk => hk.2) (.int .i64 t187)) (fun _ h_ => h_.1))) hb); have n3_ := jA (jS (g := gb158) (o := .cells #[.bool a0_0, .bool a0_1, .bool a0_2, .bool a0_3, .bool a0_4, .int .i64 a0_5] 23 (0, 0)) (by (with_reducible repeat (first | refine jD ?_ _ | refine jF ?_ | refine jE ?_ _)); refine jX ?_ NB158_189.out _; (with_reducible repeat (first | refine jD ?_ _ | refine jF ?_ | refine jE ?_ _)); refine jX ?_ NB158_189.out _; (with_reducible repeat (first | refine jD ?_ _ | refine jF ?_ | refine jE ?_ _)); refine jX ?_ NB158_189.out _; (with_reducible repeat (first | refine jD ?_ _ | refine jF ?_ | refine jE ?_ _)); refine jX ?_ NB158_189.out _; (with_reducible repeat (first | refine jD ?_ _ | refine jF ?_ | refine jE ?_ _)); refine jX ?_ NB158_189.out _; (with_reducible repeat (first | refine jD ?_ _ | refine jF ?_ | refine jE ?_ _)); refine jX ?_ NB158_189.out _; (with_reducible repeat (first | refine jD ?_ _ | refine jF ?_ | refine jE ?_ _)); exact BK158.out) hb); have n4_ := jA (jS (g := gb189) (o := .cells #[.bool t182, .bool t183, .bool t184, .bool t185, .bool t186, .int .i64 t187] 23 (0, 0)) (by (with_reducible repeat (first | refine jD ?_ _ | refine jF ?_ | refine jE ?_ _)); refine jI (cs := #[.bool t182, .bool t183, .bool t184, .bool t185, .bool t186, .int .i64 0]) ?_ 5 _ rfl; (with_reducible repeat (first | refine jD ?_ _ | refine jF ?_ | refine jE ?_ _)); refine jI (cs := #[.bool t182, .bool t183, .bool t184, .bool t185, .bool false, .int .i64 0]) ?_ 4 _ rfl; (with_reducible repeat (first | refine jD ?_ _ | refine jF ?_ | refine jE ?_ _)); refine jI (cs := #[.bool t182, .bool t183, .bool t184, .bool false, .bool false, .int .i64 0]) ?_ 3 _ rfl; (with_reducible repeat (first | refine jD ?_ _ | refine jF ?_ | refine jE ?_ _)); refine jI (cs := #[.bool t182, .bool t183, .bool false, .bool false, .bool false, .int .i64 0]) ?_ 2 _ rfl; (with_reducible repeat (first | refine jD ?_ _ | refine jF ?_ | refine jE ?_ _)); refine jI (cs := #[.bool t182, .bool false, .bool false, .bool false, .bool false, .int .i64 0]) ?_ 1 _ rfl; (with_reducible repeat (first | refine jD ?_ _ | refine jF ?_ | refine jE ?_ _)); refine jI (cs := #[.bool false, .bool false, .bool false, .bool false, .bool false, .int .i64 0]) ?_ 0 _ rfl; (with_reducible repeat (first | refine jD ?_ _ | refine jF ?_ | refine jE ?_ _)); exact BK189.out) hb); have n5_ := jA (jJ (zb2 HB GE158 GE189) hb); clear HO_6; clear HO_7; clear HO_8; clear BK158; clear BK189; clear HB; have HO_6 := n0_; have HO_7 := n1_; have HO_8 := n2_; have BK158 := n3_; have BK189 := n4_; have HB := n5_; clear n0_ n1_ n2_ n3_ n4_ n5_; (try clear hb); (try clear hb2); (try clear hk); (try clear hi); have p191 : 0 ≤ (t190 : Int) := jH za; have q191 : t190 < (x7_2.length : Int) := jH za; obtain ⟨ad191, e191, hx191_0⟩ := Kd.at_bool (je HO_7.out).2.2 t190 p191 q191; (try rw [← Nbq38.out] at hx191_0); obtain rfl : (⟨go9, 0, none⟩ : Addr) = ad191 := (by injection e191); (first | simp only [add_plain] at hx191_0 | simp only [add_at] at hx191_0 | simp only [Addr.add, Nat.zero_add] at hx191_0 | skip); replace p191 := eq_true p191; replace q191 := eq_true q191; have p46 : 0 ≤ (t190 : Int) := jH za; have q46 : (t190 : Int) < ((x7_2.length : Int) : Int) := jH za; obtain ⟨hx46_0, hf46_0⟩ := Kd.R_celln false HO_7.out (t190 : Int) p46 q46; replace p46 := eq_true p46; replace q46 := eq_true q46; obtain ⟨hy60_, hz60_⟩ := Kd.R_celln false HO_7.out (t190 : Int) (jH za) (jH za); have HP60 := Kd.R_putg HO_7.out (t190 : Int) true) | ((with_reducible refine gate_store (t := 4) (p := 59) rfl ?_); refine store_event (t := 4) (p := 59) (v := ?vo_w61) (w1 := (w59.setCell ⟨go9, (t190 : Int).toNat, none⟩ (.bool true))) ?hg ?ho ?hn ?hr ?_; (case ho => rfl); (case hg => rfl); (case hn => rfl); (case hr => first | (go_simp; done) | (go_simp; rfl)); intro w61 hw; have hg : w59.grownBy w61 (some go9) := (by rw [hw]; exact HP60.2); have hp_ : Kd.R Kd.bool 4 w61 w.heap.size (fun _ => True) (.slice (some ⟨go9, 0, none⟩) x7_2.length co9) y192 := (by rw [hw, Ny192.out]; exact HP60.1); clear HP60; have n0_ := jA (Kd.S_over' (v := (.slice (some ⟨go9, 0, none⟩) x7_2.length co9)) (by (with_reducible repeat (first | apply Kd.S_alloc | apply Kd.S_drewN | apply Kd.S_drew)); exact HO_6.out) (Kd.R_typed HO_7.out) (by decide) hg); have n1_ := jA (hp_); have n2_ := jA (Kd.Q_over' (v := (.slice (some ⟨go9, 0, none⟩) x7_2.length co9)) (by (with_reducible repeat (first | apply Kd.Q_alloc | apply Kd.Q_drewN | apply Kd.Q_drew)); exact HO_8.out) (Kd.R_typed HO_7.out) (by decide) hg); have n3_ := jA (blk_grown (g := gb158) (o := .cells #[.bool a0_0, .bool a0_1, .bool a0_2, .bool a0_3, .bool a0_4, .int .i64 a0_5] 23 (0, 0)) (zk BK158) hg (Kd.R_ne HO_7.out BK158.out (by decide))); have n4_ := jA (blk_grown (g := gb189) (o := .cells #[.bool t182, .bool t183, .bool t184, .bool t185, .bool t186, .int .i64 t187] 23 (0, 0)) (zk BK189) hg (Kd.R_ne HO_7.out BK189.out (by decide))); have n5_ := jA ((by rw [hw]; exact below_set (HB.out) GB9.out : Below w.heap.size w w61)); clear HO_6; clear HO_7; clear HO_8; clear BK158; clear BK189; clear HB; have HO_6 := n0_; have HO_7 := n1_; have HO_8 := n2_; have BK158 := n3_; have BK189 := n4_; have HB := n5_; clear n0_ n1_ n2_ n3_ n4_ n5_; clear hg hw hp_; obtain ⟨Ao62, co62, eo62⟩ := Kd.S_slice HO_6.out; subst eo62; have p193 : 0 ≤ ((rd x8_1 0) : Int) := jH za; have q193 : (rd x8_1 0) < (x6_2.length : Int) := jH za; obtain ⟨ad193, A193_0, c193_0, e193, hx193_0, hl193_0, hi193_0⟩ := at_L1 (Kd.S_reads' HO_6.out).2.2 (rd x8_1 0) p193 q193; cases e193; obtain ⟨ce193, hce193, hMe193, hcc193⟩ := Kd.S_get HO_6.out [] (rd x8_1 0) p193 (by first | exact q193 | exact jH za | (have e_ := (Kd.S_reads' HO_6.out).1; omega)); obtain ⟨ve193_0, rfl, ge193_0⟩ := hMe193; have hv193_0 := hcc193 0 _ rfl; rw [Nat.add_zero, show ((Kd.slice 2 (Kd.int .i64))).sz = 1 from rfl, Nat.mul_one] at hv193_0; replace hv193_0 := jV (hv193_0.symm.trans hx193_0); rw [hv193_0] at ge193_0; have HL193_0 := jA (show Kd.R (Kd.int .i64) 2 _ _ _ _ (rd_L1 x6_2 (rd x8_1 0)) from ge193_0); clear hv193_0 ge193_0; clear hcc193 hce193; have HR193_0 := jA hi193_0; have HC193_0 := jA hl193_0; clear hi193_0 hl193_0; replace p193 := eq_true p193; replace q193 := eq_true q193) | ((with_reducible refine jZ (f := 85) rfl ?_); refine goesL_ (some 66) rfl rfl Try.func85 zr rfl #[.slice A193_0 (rd_L1 x6_2 (rd x8_1 0)).length c193_0] rfl zm ?_; (with_reducible refine (impl_copyList.calls _ _ (rd_L1 x6_2 (rd x8_1 0)) t194 _ ?side1 ?side2 A49.out).mono ?_); (case side1 => repeat (first | exact (by repeat (first | (with_reducible exact HR193_0.out) | (with_reducible refine Kd.C_alloc ?_ _) | (with_reducible refine Kd.C_drewN ?_ _) | (with_reducible refine Kd.C_drew ?_) | exact HR193_0.out)) | (with_reducible refine Kd.C_alloc ?_ _) | (with_reducible refine Kd.C_drewN ?_ _) | (with_reducible refine Kd.C_drew ?_))); (case side2 => exact HC193_0.out); rintro e w63 ⟨v195, rfl, ho0, hb⟩; refine ⟨_, rfl, ?_⟩; have n0_ := jA (Kd.S_elder' (by (with_reducible repeat (first | apply Kd.S_alloc | apply Kd.S_drewN | apply Kd.S_drew)); exact HO_6.out) (Kd.R_base ho0) hb); have n1_ := jA (ji (zo HO_7) hb); have n2_ := jA (Kd.Q_elder' (by (with_reducible repeat (first | apply Kd.Q_alloc | apply Kd.Q_drewN | apply Kd.Q_drew)); exact HO_8.out) (Kd.R_base ho0) hb); have n3_ := jA (Kd.R_elder' (by (with_reducible repeat (first | apply jd | apply jc | apply jf)); exact HL193_0.out) (Kd.R_base ho0) hb); have n4_ := jA (Kd.R_lower (Kd.R_new' (Kd.R_new' ho0 (Kd.Q_lt (by (with_reducible repeat (first | apply Kd.Q_alloc | apply Kd.Q_drewN | apply Kd.Q_drew)); exact HO_8.out))) (Kd.R_lt (by (with_reducible repeat (first | apply jd | apply jc | apply jf)); exact HL193_0.out))) (jG (zb2 HB GE158 GE189))); have n5_ := jA (jS (g := gb158) (o := .cells #[.bool a0_0, .bool a0_1, .bool a0_2, .bool a0_3, .bool a0_4, .int .i64 a0_5] 23 (0, 0)) (zk BK158) hb); have n6_ := jA (jS (g := gb189) (o := .cells #[.bool t182, .bool t183, .bool t184, .bool t185, .bool t186, .int .i64 t187] 23 (0, 0)) (zk BK189) hb); have n7_ := jA (Kd.C_below (by repeat (first | (with_reducible exact HR193_0.out) | (with_reducible refine Kd.C_alloc ?_ _) | (with_reducible refine Kd.C_drewN ?_ _) | (with_reducible refine Kd.C_drew ?_) | exact HR193_0.out)) hb); have n8_ := jA (jJ (zb2 HB GE158 GE189) hb); clear HO_6; clear HO_7; clear HO_8; clear HL193_0; clear BK158; clear BK189; clear HR193_0; clear HB; have HO_6 := n0_; have HO_7 := n1_; have HO_8 := n2_; have HL193_0 := n3_; have HO196 := n4_; have BK158 := n5_; have BK189 := n6_; have HR193_0 := n7_; have HB := n8_; clear n0_ n1_ n2_ n3_ n4_ n5_ n6_ n7_ n8_; (try clear hb); (try clear hb2); (try clear hk); (try clear hi); (try clear ho0)) | ((with_reducible refine gate_builtin (b := .append) (xs := #[.tmp 66, .tmp 68]) rfl ?_); at_builtin; refine Kd.R_append (Kd.int .i64) (w0 := w) w.heap.size rfl (.tmp 66) (.tmp 68) 35 2 (.int .i64 0) 8 rfl Try.underlying35 info2 rfl (by decide) (by omega) v195 t194 (rd l1 x35_2) [.int .i64 (rd l1 x35_2)] (fun k_ => some k_ ≠ (u8 : Value).ownBlock ∧ some k_ ≠ (.slice A193_0 (rd_L1 x6_2 (rd x8_1 0)).length c193_0 : Value).ownBlock) (fun _ => False) rfl rfl ?aP (fun _ hk => hk.elim) ?aF ?aO ?aB ?aS ?aL ?_; (case aP => exact rfl); (case aB => exact (zb2 HB GE158 GE189)); (case aF => exact (fun k_ hk => ⟨Kd.fresh' (Kd.Q_lt (by (with_reducible repeat (first | apply Kd.Q_alloc | apply Kd.Q_drewN | apply Kd.Q_drew)); exact HO_8.out)) k_ hk, Kd.fresh' (Kd.R_lt (by (with_reducible repeat (first | apply jd | apply jc | apply jf)); exact HL193_0.out)) k_ hk⟩)); (case aO => exact (by (with_reducible repeat (first | apply jd | apply jc | apply jf)); exact Kd.R_mono HO196.out (fun _ hk => ⟨hk.1.2, hk.2⟩))); (case aS => exact (jG (zb2 HB GE158 GE189))); (case aL => have := LMc50.out; omega); intro v198 w64 ho hb hg hat; rw [← Ny197.out] at ho; have n0_ := jA (Kd.S_after (ok := (fun k_ => some k_ ≠ (u8 : Value).ownBlock)) (by (with_reducible repeat (first | apply Kd.S_alloc | apply Kd.S_drewN | apply Kd.S_drew)); exact HO_6.out) hg hat); have n1_ := jA (Kd.R_over' (zo HO_7) (Kd.R_typed (zo HO196)) (by decide) hg); have n2_ := jA (Kd.Q_after (ok := (fun _ => True)) (by (with_reducible repeat (first | apply Kd.Q_alloc | apply Kd.Q_drewN | apply Kd.Q_drew)); exact HO_8.out) hg hat); have n3_ := jA (blk_grown (g := gb158) (o := .cells #[.bool a0_0, .bool a0_1, .bool a0_2, .bool a0_3, .bool a0_4, .int .i64 a0_5] 23 (0, 0)) (zk BK158) hg (Kd.R_ne HO196.out BK158.out (by decide))); have n4_ := jA (blk_grown (g := gb189) (o := .cells #[.bool t182, .bool t183, .bool t184, .bool t185, .bool t186, .int .i64 t187] 23 (0, 0)) (zk BK189) hg (Kd.R_ne HO196.out BK189.out (by decide))); have n5_ := jA (Kd.R_after (ok := (fun k_ => some k_ ≠ (.slice (some ad193) x6_2.length co62 : Value).ownBlock ∧ some k_ ≠ (u8 : Value).ownBlock)) (by (with_reducible repeat (first | apply jd | apply jc | apply jf)); exact Kd.R_mono HL193_0.out (fun _ hk => ⟨⟨hk.1.2, hk.1.1⟩, hk.2⟩)) hg hat); have n6_ := jA (hb); have n7_ := jA (ho); clear HO_6; clear HO_7; clear HO_8; clear BK158; clear BK189; clear HL193_0; clear HB; clear HO196; have HO_6 := n0_; have HO_7 := n1_; have HO_8 := n2_; have BK158 := n3_; have BK189 := n4_; have HL193_0 := n5_; have HB := n6_; have HO199 := n7_; clear n0_ n1_ n2_ n3_ n4_ n5_ n6_ n7_; clear ho hb hg hat; have p52 : 0 ≤ (t190 : Int) := jH za; have q52 : (t190 : Int) < ((x6_2.length : Int) : Int) := jH za; obtain ⟨go52, co52, eo52, gb52, gl52, cl52, HG52⟩ := Kd.S_form HO_6.out (by omega); (first | cases eo52 | (injection eo52 with ea_ en_ ec_; (first | subst ea_ | (injection ea_ with ea_; subst ea_)); subst ec_; clear en_)); have GB52 := jA gb52; have GG52 := jA HG52; clear gb52 gl52 HG52; (first | simp only [add_plain] at hx193_0 | skip); obtain ⟨_, ce52, hcl52, hM52, hcc52, hfr52, _, _⟩ := Kd.S_elem HO_6.out [] (t190 : Int) p52 q52; obtain ⟨ve52_0, rfl, ge52_0⟩ := hM52; have hx52_0 := hcc52 0 _ rfl; have hf52_0 := hfr52 0; (try simp only [show ((Kd.slice 2 (Kd.int .i64))).sz = 1 from rfl, Nat.mul_one, Nat.add_zero] at hx52_0); (try simp only [show ((Kd.slice 2 (Kd.int .i64))).sz = 1 from rfl, Nat.mul_one, Nat.add_zero] at hf52_0); (try clear hcl52); (try clear hcc52); (try clear hfr52); (try clear hM52); replace p52 := eq_true p52; replace q52 := eq_true q52; have HX65 := jA (show Kd.S (Kd.slice 2 (Kd.int .i64)) 35 w64 w.heap.size (fun k_ => ((fun k_ => some k_ ≠ (u8 : Value).ownBlock)) k_ ∧ ¬ ((fun k_ => some k_ = (v198 : Value).ownBlock)) k_) (.slice (some ⟨go52, 0, none⟩) x6_2.length co62) x6_2 from (by (with_reducible repeat (first | apply Kd.S_alloc | apply Kd.S_drewN | apply Kd.S_drew)); exact Kd.S_mono HO_6.out (fun k_ hk => ⟨hk.1, fun e_ => hk.2 e_⟩))); obtain ⟨oki65, ce65, hcl65, hM65, hcc65, hfr65, hoki65, hH65⟩ := Kd.S_elem HX65.out [] (t190 : Int) (jH za) (by have h_ : (t190 : Int) < ((x6_2.length : Int) : Int) := jH za; first | exact h_ | (have e_ := (Kd.S_reads' HO_6.out).1; omega) | simpa using h_); obtain ⟨ve65_0, rfl, ge65_0⟩ := hM65; have HP65 := Kd.S_seg hH65 (jH za) (by have h_ : (t190 : Int) < ((x6_2.length : Int) : Int) := jH za; first | exact h_ | (have e_ := (Kd.S_reads' HO_6.out).1; omega) | simpa using h_) (seg := [v198]) (j := 0) (show 1 ≤ 1 from by decide) (x' := y197) (Kd.M_row (Kd.R_mono (Kd.R_tight rfl (Kd.R_mono (ok' := fun k_ => ((fun k_ => some k_ ≠ (u8 : Value).ownBlock)) k_ ∧ k_ ≠ go52) (Kd.R_apart' (HO199.out) (Kd.S_typed HO_6.out) (by decide)) (fun k_ hk => ⟨hk.1.1, fun e_ => (hk.2) (by rw [e_]; rfl)⟩))) (fun _ h_ => Or.inr (h_)))) (fun _ hk => hk) (fun k_ hk_ => ((Kd.R_mono (ok' := fun k_ => ((fun k_ => some k_ ≠ (u8 : Value).ownBlock)) k_ ∧ k_ ≠ go52) (Kd.R_apart' (HO199.out) (Kd.S_typed HO_6.out) (by decide)) (fun k_ hk => ⟨hk.1.1, fun e_ => (hk.2) (by rw [e_]; rfl)⟩))).1 k_ hk_.symm); have hx65_0 := hcc65 0 _ rfl; (try simp only [show ((Kd.slice 2 (Kd.int .i64))).sz = 1 from rfl, Nat.mul_one, Nat.add_zero] at hx65_0); have hf65_0 := hfr65 0; (try simp only [show ((Kd.slice 2 (Kd.int .i64))).sz = 1 from rfl, Nat.mul_one, Nat.add_zero] at hf65_0); (try clear hcl65); (try clear hcc65); (try clear hfr65); (try clear hM65); (try clear hoki65); (try clear hH65); (try simp only [show ((Kd.slice 2 (Kd.int .i64))).sz = 1 from rfl, Nat.mul_one, Nat.add_zero] at HP65)) | ((with_reducible refine gate_store (t := 35) (p := 70) rfl ?_); refine store_event (t := 35) (p := 70) (v := ?vo_w66) (w1 := (w64.setCell ⟨go52, (t190 : Int).toNat, none⟩ (v198))) ?hg ?ho ?hn ?hr ?_; (case ho => rfl); (case hg => rfl); (case hn => rfl); (case hr => obtain ⟨A_, c_, e_⟩ := Kd.R_slice HO199.out; first | (go_simp; done) | (go_simp; rfl)); intro w66 hw; have hg : w64.grownBy w66 (some go52) := (by rw [hw]; exact HP65.2); have hp_ : Kd.S (Kd.slice 2 (Kd.int .i64)) 35 w66 w.heap.size (fun k_ => some k_ ≠ (u8 : Value).ownBlock) (.slice (some ⟨go52, 0, none⟩) x6_2.length co62) y200 := (by rw [hw, Ny200.out]; exact HP65.1); clear HP65; have n0_ := jA (hp_); have n1_ := jA (Kd.R_over' (v := (.slice (some ⟨go52, 0, none⟩) x6_2.length co62)) (zo HO_7) (Kd.S_typed HO_6.out) (by decide) hg); have n2_ := jA (Kd.Q_over' (v := (.slice (some ⟨go52, 0, none⟩) x6_2.length co62)) (by (with_reducible repeat (first | apply Kd.Q_alloc | apply Kd.Q_drewN | apply Kd.Q_drew)); exact HO_8.out) (Kd.S_typed HO_6.out) (by decide) hg); have n3_ := jA (blk_grown (g := gb158) (o := .cells #[.bool a0_0, .bool a0_1, .bool a0_2, .bool a0_3, .bool a0_4, .int .i64 a0_5] 23 (0, 0)) (zk BK158) hg (Kd.S_ne HO_6.out BK158.out (by decide))); have n4_ := jA (blk_grown (g := gb189) (o := .cells #[.bool t182, .bool t183, .bool t184, .bool t185, .bool t186, .int .i64 t187] 23 (0, 0)) (zk BK189) hg (Kd.S_ne HO_6.out BK189.out (by decide))); have n5_ := jA (Kd.R_after (v := (.slice (some ⟨go52, 0, none⟩) x6_2.length co62)) (v1 := (.slice (some ⟨go52, 0, none⟩) x6_2.length co62)) (ok := (fun k_ => some k_ ≠ (u8 : Value).ownBlock ∧ some k_ ≠ (v198 : Value).ownBlock)) (by (with_reducible repeat (first | apply jd | apply jc | apply jf)); exact Kd.R_mono HL193_0.out (fun _ hk => ⟨⟨hk.1.2, hk.2⟩, hk.1.1⟩)) hg (.inl rfl)); have n6_ := jA ((by rw [hw]; exact below_set (HB.out) GB52.out : Below w.heap.size w w66)); clear HO_6; clear HO_7; clear HO_8; clear BK158; clear BK189; clear HL193_0; clear HB; clear HO199; have HO_6 := n0_; have HO_7 := n1_; have HO_8 := n2_; have BK158 := n3_; have BK189 := n4_; have HL193_0 := n5_; have HB := n6_; clear n0_ n1_ n2_ n3_ n4_ n5_ n6_; clear hg hw hp_) | ((with_reducible refine gate_builtin (b := .append) (xs := #[.tmp 71, .tmp 73]) rfl ?_); at_builtin; refine Kd.Q_append (Kd.int .i64) (w0 := w) w.heap.size rfl (.tmp 71) (.tmp 73) 35 2 (.int .i64 0) 8 rfl Try.underlying35 info2 rfl (by decide) (by omega) u8 x8_2 t190 [.int .i64 t190] (fun _ => True) (fun _ => False) rfl rfl ?aP (fun _ hk => hk.elim) ?aF ?aO ?aB ?aS ?aL ?_; (case aP => exact rfl); (case aB => exact (zb2 HB GE158 GE189)); (case aF => exact (fun _ _ => trivial)); (case aO => exact (by (with_reducible repeat (first | apply Kd.Q_alloc | apply Kd.Q_drewN | apply Kd.Q_drew)); exact Kd.Q_mono HO_8.out (fun _ hk => trivial))); (case aS => exact (jG (zb2 HB GE158 GE189))); (case aL => have := LMc53.out; omega); intro v202 w67 ho hb hg hat; rw [← Ny201.out] at ho; have n0_ := jA (Kd.S_after (ok := (fun _ => True)) (by (with_reducible repeat (first | apply Kd.S_alloc | apply Kd.S_drewN | apply Kd.S_drew)); exact Kd.S_mono HO_6.out (fun _ hk => ⟨trivial, hk⟩)) hg hat); have n1_ := jA (Kd.R_over' (zo HO_7) (Kd.Q_typed (by (with_reducible repeat (first | apply Kd.Q_alloc | apply Kd.Q_drewN | apply Kd.Q_drew)); exact HO_8.out)) (by decide) hg); have n2_ := jA (blk_grown (g := gb158) (o := .cells #[.bool a0_0, .bool a0_1, .bool a0_2, .bool a0_3, .bool a0_4, .int .i64 a0_5] 23 (0, 0)) (zk BK158) hg (Kd.Q_ne HO_8.out BK158.out (by decide))); have n3_ := jA (blk_grown (g := gb189) (o := .cells #[.bool t182, .bool t183, .bool t184, .bool t185, .bool t186, .int .i64 t187] 23 (0, 0)) (zk BK189) hg (Kd.Q_ne HO_8.out BK189.out (by decide))); have n4_ := jA (Kd.R_after (ok := (fun k_ => some k_ ≠ (.slice (some ⟨go52, 0, none⟩) x6_2.length co62 : Value).ownBlock)) (by (with_reducible repeat (first | apply jd | apply jc | apply jf)); exact Kd.R_mono HL193_0.out (fun _ hk => ⟨hk.2, hk.1.1⟩)) hg hat); have n5_ := jA (hb); have n6_ := jA (ho); clear HO_6; clear HO_7; clear BK158; clear BK189; clear HL193_0; clear HB; clear HO_8; have HO_6 := n0_; have HO_7 := n1_; have BK158 := n2_; have BK189 := n3_; have HL193_0 := n4_; have HB := n5_; have HO203 := n6_; clear n0_ n1_ n2_ n3_ n4_ n5_ n6_; clear ho hb hg hat))
                         (try simp only [← hl7_2])
                         go_roundg k2
                         case measure => have := HK1.out; have := HK2.out; omega
                         case rel => exact ⟨(y200), (y192), (y201), (wrap64 (x35_2 + 1)), zz, H', ⟨by have := HK1.out; have := HK2.out; omega⟩, ⟨by (try simp only [hl7_1]); (try simp only [hl7_2]); (with_reducible repeat (first | apply Kd.S_alloc | apply Kd.S_drewN | apply Kd.S_drew)); exact Kd.S_mono HO_6.out (fun _ hk => hk.2)⟩, ⟨by (try simp only [hl7_1]); (try simp only [hl7_2]); (with_reducible repeat (first | apply jd | apply jc | apply jf)); exact HO_7.out⟩, ⟨by (try simp only [hl7_1]); (try simp only [hl7_2]); (with_reducible repeat (first | apply Kd.Q_alloc | apply Kd.Q_drewN | apply Kd.Q_drew)); exact HO203.out⟩, ⟨by (try simp only [hl7_1]); (try simp only [hl7_2]); (with_reducible repeat (first | refine jD ?_ _ | refine jF ?_ | refine jE ?_ _)); exact BK158.out⟩, ⟨zb2 HB GE158 GE189⟩⟩
                        ·rw [if_neg c53] at H
                         exact absurd H (by simp)
                       ·rw [if_neg c51] at H
                        exact absurd H (by simp)
                      ·rw [if_neg c50] at H
                       exact absurd H (by simp)
                     ·rw [if_neg c48] at H
                      exact absurd H (by simp)
                    ·rw [if_neg c47] at H
                     exact absurd H (by simp)
                  ·rw [if_neg c37] at H
                   exact absurd H (by simp)
                 ·rw [if_neg c36] at H
                  exact absurd H (by simp)
                ·rw [if_neg c35] at H
                 have c35b0 : (t188 == 0) = false := beq_eq_false_iff_ne.mpr c35
                 have c35b1 : (t188 != 0) = true := bne_iff_ne.mpr c35
                 have H' := jA H
                 clear H
                 have p175 : 0 ≤ (x35_2 : Int) := jH za
                 have q175 : x35_2 < (l1.length : Int) := jH za
                 obtain ⟨ad175, e175, hx175_0⟩ := jg HR1.out x35_2 p175 q175
                 cases e175
                 replace hx175_0 := (HB.out.cell (jL w _ hx175_0)).trans hx175_0
                 replace p175 := eq_true p175
                 replace q175 := eq_true q175
                 go_wp2_with (first | ((with_reducible refine jZ (f := 50) rfl ?_); refine goesL_ (some 41) rfl rfl Try.func50 zr rfl #[.int .i64 (rd x8_1 0)] rfl zm ?_; (with_reducible refine (impl_controllerWith.calls (rd x8_1 0) t176 t177 t178 t179 t180 t181 _ A32.out).mono ?_); rintro e w68 ⟨rfl, hb⟩; refine ⟨_, rfl, ?_⟩; have n0_ := jA (Kd.S_below (by (with_reducible repeat (first | apply Kd.S_alloc | apply Kd.S_drewN | apply Kd.S_drew)); exact HO_6.out) hb); have n1_ := jA (ji (zo HO_7) hb); have n2_ := jA (Kd.Q_below (by (with_reducible repeat (first | apply Kd.Q_alloc | apply Kd.Q_drewN | apply Kd.Q_drew)); exact HO_8.out) hb); have n3_ := jA (jS (g := gb158) (o := .cells #[.bool a0_0, .bool a0_1, .bool a0_2, .bool a0_3, .bool a0_4, .int .i64 a0_5] 23 (0, 0)) (zk BK158) hb); have n4_ := jA (jJ (zb1 HB GE158) hb); clear HO_6; clear HO_7; clear HO_8; clear BK158; clear HB; have HO_6 := n0_; have HO_7 := n1_; have HO_8 := n2_; have BK158 := n3_; have HB := n4_; clear n0_ n1_ n2_ n3_ n4_; (try clear hb); (try clear hb2); (try clear hk); (try clear hi)) | ((with_reducible refine jZ (f := 67) rfl ?_); refine goesL_ (some 43) rfl rfl Try.func67 zr rfl #[.agg #[.bool t176, .bool t177, .bool t178, .bool t179, .bool t180, .int .i64 t181], .int .i64 (rd l1 x35_2)] rfl zm ?_; (with_reducible refine (impl_giveInput.calls t176 t177 t178 t179 t180 t181 (rd l1 x35_2) t182 t183 t184 t185 t186 t187 t188 _ A33.out).mono ?_); rintro e w69 ⟨rfl, hb⟩; refine ⟨_, rfl, ?_⟩; have n0_ := jA (Kd.S_below (by (with_reducible repeat (first | apply Kd.S_alloc | apply Kd.S_drewN | apply Kd.S_drew)); exact HO_6.out) hb); have n1_ := jA (ji (zo HO_7) hb); have n2_ := jA (Kd.Q_below (by (with_reducible repeat (first | apply Kd.Q_alloc | apply Kd.Q_drewN | apply Kd.Q_drew)); exact HO_8.out) hb); have n3_ := jA (jS (g := gb158) (o := .cells #[.bool a0_0, .bool a0_1, .bool a0_2, .bool a0_3, .bool a0_4, .int .i64 a0_5] 23 (0, 0)) (zk BK158) hb); have n4_ := jA (jJ (zb1 HB GE158) hb); clear HO_6; clear HO_7; clear HO_8; clear BK158; clear HB; have HO_6 := n0_; have HO_7 := n1_; have HO_8 := n2_; have BK158 := n3_; have HB := n4_; clear n0_ n1_ n2_ n3_ n4_; (try clear hb); (try clear hb2); (try clear hk); (try clear hi)) | ((with_reducible refine jQ (N := 12) rfl ?_); refine jO ?hg (N := 12) ?hd (cs := #[.bool false, .bool false, .bool false, .bool false, .bool false, .int .i64 0]) (t := 23) ?hr ?_; (case hd => rfl); (case hg => rfl); (case hr => first | (go_simp; done) | (go_simp; rfl)); intro gb189 hg w70 hbox hb; have n0_ := jA (Kd.S_below (by (with_reducible repeat (first | apply Kd.S_alloc | apply Kd.S_drewN | apply Kd.S_drew)); exact HO_6.out) hb); have n1_ := jA (ji (zo HO_7) hb); have n2_ := jA (Kd.Q_below (by (with_reducible repeat (first | apply Kd.Q_alloc | apply Kd.Q_drewN | apply Kd.Q_drew)); exact HO_8.out) hb); have n3_ := jA (jS (g := gb158) (o := .cells #[.bool a0_0, .bool a0_1, .bool a0_2, .bool a0_3, .bool a0_4, .int .i64 a0_5] 23 (0, 0)) (zk BK158) hb); have n4_ := jA (jJ (zb1 HB GE158) hb); have n5_ := jA (hbox); have n6_ := jA ((by rw [hg]; exact (jG (zb1 HB GE158)) : w.heap.size ≤ gb189)); have n7_ := jA ((by rw [hg]; exact (jG (zb1 HB GE158)) : w.heap.size ≤ gb189)); have n8_ := jA ((by rw [hg]; exact jP (blk_lt (g := gb158) (o := .cells #[.bool a0_0, .bool a0_1, .bool a0_2, .bool a0_3, .bool a0_4, .int .i64 a0_5] 23 (0, 0)) (zk BK158)) : gb158 ≠ gb189)); have n9_ := jA n8_.out.symm; clear HO_6; clear HO_7; clear HO_8; clear BK158; clear HB; have HO_6 := n0_; have HO_7 := n1_; have HO_8 := n2_; have BK158 := n3_; have HB := n4_; have BK189 := n5_; have GW189 := n6_; have GE189 := n7_; have NB158_189 := n8_; have NB189_158 := n9_; clear n0_ n1_ n2_ n3_ n4_ n5_ n6_ n7_ n8_ n9_; clear hb hbox hg; have hnb71 := NB189_158.out; have hnc71 := NB158_189.out; have hcz72_0 : w70.cell? ⟨gb189, 0, none⟩ = some (.bool false) := (jC BK189.out 0).trans rfl; have hcz72_1 : w70.cell? ⟨gb189, 1, none⟩ = some (.bool false) := (jC BK189.out 1).trans rfl; have hcz72_2 : w70.cell? ⟨gb189, 2, none⟩ = some (.bool false) := (jC BK189.out 2).trans rfl; have hcz72_3 : w70.cell? ⟨gb189, 3, none⟩ = some (.bool false) := (jC BK189.out 3).trans rfl; have hcz72_4 : w70.cell? ⟨gb189, 4, none⟩ = some (.bool false) := (jC BK189.out 4).trans rfl; have hcz72_5 : w70.cell? ⟨gb189, 5, none⟩ = some (.int .i64 0) := (jC BK189.out 5).trans rfl; have hfz72_0 := jB BK189.out 0; have hfz72_1 := jB BK189.out 1; have hfz72_2 := jB BK189.out 2; have hfz72_3 := jB BK189.out 3; have hfz72_4 := jB BK189.out 4; have hfz72_5 := jB BK189.out 5) | ((with_reducible refine jZ (f := 53) rfl ?_); refine goesL_ (some 47) rfl rfl Try.func53 zr rfl #[.agg #[.bool t182, .bool t183, .bool t184, .bool t185, .bool t186, .int .i64 t187]] rfl zm ?_; (with_reducible refine (impl_numberOf.calls t182 t183 t184 t185 t186 t187 t190 _ A34.out).mono ?_); rintro e w73 ⟨rfl, hb⟩; refine ⟨_, rfl, ?_⟩; have n0_ := jA (Kd.S_below (by (with_reducible repeat (first | apply Kd.S_alloc | apply Kd.S_drewN | apply Kd.S_drew)); exact (Kd.S_mono (Kd.S_far (p := ⟨gb189, 5, none⟩) (Kd.S_far (p := ⟨gb189, 4, none⟩) (Kd.S_far (p := ⟨gb189, 3, none⟩) (Kd.S_far (p := ⟨gb189, 2, none⟩) (Kd.S_far (p := ⟨gb189, 1, none⟩) (Kd.S_far (p := ⟨gb189, 0, none⟩) (Kd.S_types HO_6.out BK189.out (by decide)) (fun _ hk => hk.2) (.bool t182)) (fun _ hk => hk.2) (.bool t183)) (fun _ hk => hk.2) (.bool t184)) (fun _ hk => hk.2) (.bool t185)) (fun _ hk => hk.2) (.bool t186)) (fun _ hk => hk.2) (.int .i64 t187)) (fun _ h_ => h_.1))) hb); have n1_ := jA (ji (by (with_reducible repeat (first | apply jd | apply jc | apply jf)); exact (Kd.R_mono (Kd.R_far (p := ⟨gb189, 5, none⟩) (Kd.R_far (p := ⟨gb189, 4, none⟩) (Kd.R_far (p := ⟨gb189, 3, none⟩) (Kd.R_far (p := ⟨gb189, 2, none⟩) (Kd.R_far (p := ⟨gb189, 1, none⟩) (Kd.R_far (p := ⟨gb189, 0, none⟩) (Kd.R_types HO_7.out BK189.out (by decide)) (fun _ hk => hk.2) (.bool t182)) (fun _ hk => hk.2) (.bool t183)) (fun _ hk => hk.2) (.bool t184)) (fun _ hk => hk.2) (.bool t185)) (fun _ hk => hk.2) (.bool t186)) (fun _ hk => hk.2) (.int .i64 t187)) (fun _ h_ => h_.1))) hb); have n2_ := jA (Kd.Q_below (by (with_reducible repeat (first | apply Kd.Q_alloc | apply Kd.Q_drewN | apply Kd.Q_drew)); exact (Kd.Q_mono (Kd.Q_far (p := ⟨gb189, 5, none⟩) (Kd.Q_far (p := ⟨gb189, 4, none⟩) (Kd.Q_far (p := ⟨gb189, 3, none⟩) (Kd.Q_far (p := ⟨gb189, 2, none⟩) (Kd.Q_far (p := ⟨gb189, 1, none⟩) (Kd.Q_far (p := ⟨gb189, 0, none⟩) (Kd.Q_types HO_8.out BK189.out (by decide)) (fun _ hk => hk.2) (.bool t182)) (fun _ hk => hk.2) (.bool t183)) (fun _ hk => hk.2) (.bool t184)) (fun _ hk => hk.2) (.bool t185)) (fun _ hk => hk.2) (.bool t186)) (fun _ hk => hk.2) (.int .i64 t187)) (fun _ h_ => h_.1))) hb); have n3_ := jA (jS (g := gb158) (o := .cells #[.bool a0_0, .bool a0_1, .bool a0_2, .bool a0_3, .bool a0_4, .int .i64 a0_5] 23 (0, 0)) (by (with_reducible repeat (first | refine jD ?_ _ | refine jF ?_ | refine jE ?_ _)); refine jX ?_ NB158_189.out _; (with_reducible repeat (first | refine jD ?_ _ | refine jF ?_ | refine jE ?_ _)); refine jX ?_ NB158_189.out _; (with_reducible repeat (first | refine jD ?_ _ | refine jF ?_ | refine jE ?_ _)); refine jX ?_ NB158_189.out _; (with_reducible repeat (first | refine jD ?_ _ | refine jF ?_ | refine jE ?_ _)); refine jX ?_ NB158_189.out _; (with_reducible repeat (first | refine jD ?_ _ | refine jF ?_ | refine jE ?_ _)); refine jX ?_ NB158_189.out _; (with_reducible repeat (first | refine jD ?_ _ | refine jF ?_ | refine jE ?_ _)); refine jX ?_ NB158_189.out _; (with_reducible repeat (first | refine jD ?_ _ | refine jF ?_ | refine jE ?_ _)); exact BK158.out) hb); have n4_ := jA (jS (g := gb189) (o := .cells #[.bool t182, .bool t183, .bool t184, .bool t185, .bool t186, .int .i64 t187] 23 (0, 0)) (by (with_reducible repeat (first | refine jD ?_ _ | refine jF ?_ | refine jE ?_ _)); refine jI (cs := #[.bool t182, .bool t183, .bool t184, .bool t185, .bool t186, .int .i64 0]) ?_ 5 _ rfl; (with_reducible repeat (first | refine jD ?_ _ | refine jF ?_ | refine jE ?_ _)); refine jI (cs := #[.bool t182, .bool t183, .bool t184, .bool t185, .bool false, .int .i64 0]) ?_ 4 _ rfl; (with_reducible repeat (first | refine jD ?_ _ | refine jF ?_ | refine jE ?_ _)); refine jI (cs := #[.bool t182, .bool t183, .bool t184, .bool false, .bool false, .int .i64 0]) ?_ 3 _ rfl; (with_reducible repeat (first | refine jD ?_ _ | refine jF ?_ | refine jE ?_ _)); refine jI (cs := #[.bool t182, .bool t183, .bool false, .bool false, .bool false, .int .i64 0]) ?_ 2 _ rfl; (with_reducible repeat (first | refine jD ?_ _ | refine jF ?_ | refine jE ?_ _)); refine jI (cs := #[.bool t182, .bool false, .bool false, .bool false, .bool false, .int .i64 0]) ?_ 1 _ rfl; (with_reducible repeat (first | refine jD ?_ _ | refine jF ?_ | refine jE ?_ _)); refine jI (cs := #[.bool false, .bool false, .bool false, .bool false, .bool false, .int .i64 0]) ?_ 0 _ rfl; (with_reducible repeat (first | refine jD ?_ _ | refine jF ?_ | refine jE ?_ _)); exact BK189.out) hb); have n5_ := jA (jJ (zb2 HB GE158 GE189) hb); clear HO_6; clear HO_7; clear HO_8; clear BK158; clear BK189; clear HB; have HO_6 := n0_; have HO_7 := n1_; have HO_8 := n2_; have BK158 := n3_; have BK189 := n4_; have HB := n5_; clear n0_ n1_ n2_ n3_ n4_ n5_; (try clear hb); (try clear hb2); (try clear hk); (try clear hi)))
                 (try simp only [← hl7_2])
                 go_roundg k2
                 case measure => have := HK1.out; have := HK2.out; omega
                 case rel => exact ⟨(x6_2), (x7_2), (x8_2), (wrap64 (x35_2 + 1)), zz, H', ⟨by have := HK1.out; have := HK2.out; omega⟩, ⟨by (try simp only [hl7_1]); (try simp only [hl7_2]); (with_reducible repeat (first | apply Kd.S_alloc | apply Kd.S_drewN | apply Kd.S_drew)); exact HO_6.out⟩, ⟨by (try simp only [hl7_1]); (try simp only [hl7_2]); (with_reducible repeat (first | apply jd | apply jc | apply jf)); exact HO_7.out⟩, ⟨by (try simp only [hl7_1]); (try simp only [hl7_2]); (with_reducible repeat (first | apply Kd.Q_alloc | apply Kd.Q_drewN | apply Kd.Q_drew)); exact HO_8.out⟩, ⟨by (try simp only [hl7_1]); (try simp only [hl7_2]); (with_reducible repeat (first | refine jD ?_ _ | refine jF ?_ | refine jE ?_ _)); exact BK158.out⟩, ⟨zb2 HB GE158 GE189⟩⟩
               ·rw [if_neg c31] at H
                exact absurd H (by simp)
              ·rw [if_neg c30] at H
               exact absurd H (by simp)
             ·rw [if_neg c29] at H
              have c29b0 : decide (x35_2 < (l1.length : Int)) = false := jh c29
              clear c29
              have H' := jA H
              clear H
              go_wp2
              (try simp only [← hl7_1, ← hl7_2])
              go_roundg k2
              case measure => have := HK1.out; have := HK2.out; omega
              case rel => exact ⟨(x6_2), (x7_2), (x8_2), H', ⟨by have := HK1.out; have := HK2.out; omega⟩, ⟨by (try simp only [hl7_1]); (try simp only [hl7_2]); (with_reducible repeat (first | apply Kd.S_alloc | apply Kd.S_drewN | apply Kd.S_drew)); exact HO_6.out⟩, ⟨by (try simp only [hl7_1]); (try simp only [hl7_2]); (with_reducible repeat (first | apply jd | apply jc | apply jf)); exact HO_7.out⟩, ⟨by (try simp only [hl7_1]); (try simp only [hl7_2]); (with_reducible repeat (first | apply Kd.Q_alloc | apply Kd.Q_drewN | apply Kd.Q_drew)); exact HO_8.out⟩, ⟨by (try simp only [hl7_1]); (try simp only [hl7_2]); (with_reducible repeat (first | refine jD ?_ _ | refine jF ?_ | refine jE ?_ _)); exact BK158.out⟩, ⟨zb1 HB GE158⟩⟩
          ·rw [if_neg c26] at H
           exact absurd H (by simp)
         ·rw [if_neg c25] at H
          exact absurd H (by simp)
        ·rw [if_neg c24] at H
         have c24b0 : decide (0 < (x8_1.length : Int)) = false := jh c24
         have c24b1 : decide (0 < x8_1.length) = false := jh (by omega)
         clear c24
         simp only [jU, jY] at H
         obtain ⟨rfl, rfl⟩ := H
         obtain ⟨Ao74, co74, eo74, _⟩ := Kd.Q_slice HO_8.out
         subst eo74
         go_wp2
         go_ret2
         exact ⟨_, _, by first | rfl | (simp [errW_none, errW_some] <;> rfl) | (simp [*, errW_none, errW_some] <;> rfl), by (with_reducible repeat (first | apply Kd.S_alloc | apply Kd.S_drewN | apply Kd.S_drew)); exact Kd.S_mono HO_6.out (fun _ hk => trivial), by (with_reducible repeat (first | apply jd | apply jc | apply jf)); exact HO_7.out, zb1 HB GE158⟩
     ·rw [if_neg c8] at H
      exact absurd H (by simp)
    ·rw [if_neg c7] at H
     exact absurd H (by simp)
   ·rw [if_neg c6] at H
    exact absurd H (by simp)
  ·rw [if_neg c4] at H
   exact absurd H (by simp)
 ·rw [if_neg c3] at H
  exact absurd H (by simp)

end Go.Proofs.Ythieppjmjgijfaa.PFnExactCanFire
