/- Functions and contracts that FnExactShortestInputs reaches (5 of 12). -/
import Derived.Test.YthieppjmjgijfaaQFnExactShortestInputsx3
namespace Go.Proofs.Ythieppjmjgijfaa.PFnExactShortestInputs
open Go.RowKit Go.Proofs.YthieppjmjgijfaaW.PrintWords Go.Proofs.YthieppjmjgijfaaW.PrintLast Go.Proofs.YthieppjmjgijfaaW.PrintMore
attribute [local go_sem] max2_int min2_int max_two min_two max_three min_three max_four min_four   -- for this text's walks alone
set_option linter.unusedVariables false
set_option linter.unusedSimpArgs false
open Go.Proofs.YthieppjmjgijfaaX

/-! ### impl_shortest: function 69 -/
mutual
def impl_shortest.l0 : Nat → List Int → List (List Int) → List Bool → List Int → Option ((List (List Int)) × List Bool)
 | 0, _, _, _, _ => none
 | k + 1, x1, x6, x7, x8 => if (x8.length : Int) > 0 then (if 0 < (x8.length : Int) then (if 1 ≤ (x8.length : Int) then (impl_shortest.l1 k x1 x6 x7 (x8.drop (1 : Int).toNat) (rd x8 0) x1 (x1.length : Int) 0) else (none)) else (none)) else (some (x6, x7))
def impl_shortest.l1 : Nat → List Int → List (List Int) → List Bool → List Int → Int → List Int → Int → Int → Option ((List (List Int)) × List Bool)
 | 0, _, _, _, _, _, _, _, _ => none
 | k + 1, x1, x6, x7, x8, x9, x33, x34, x35 => if x35 < x34 then (if 0 ≤ x35 then (if x35 < (x33.length : Int) then ((impl_controllerWith.f x9).bind fun bt184 => ((impl_giveInput.f bt184.1 bt184.2.1 bt184.2.2.1 bt184.2.2.2.1 bt184.2.2.2.2.1 bt184.2.2.2.2.2 (rd x33 x35)).bind fun bt190 => ((impl_numberOf.f bt190.1 bt190.2.1 bt190.2.2.1 bt190.2.2.2.1 bt190.2.2.2.2.1 bt190.2.2.2.2.2.1).bind fun t198 => (if bt190.2.2.2.2.2.2 = 0 then (if 0 ≤ t198 then (if t198 < (x7.length : Int) then (if rdOf false x7 t198 = true then (impl_shortest.l1 k x1 x6 x7 x8 x9 x33 x34 (wrap64 (x35 + 1))) else (if 0 ≤ x9 then (if x9 < (x6.length : Int) then ((impl_copyList.f (rd_L1 x6 x9)).bind fun t202 => (if t202.length < 17592186044416 then (if t198 < (x6.length : Int) then (if x8.length < 17592186044416 then (impl_shortest.l1 k x1 (x6.set (t198 : Int).toNat (t202 ++ [rd x33 x35])) (x7.set (t198 : Int).toNat true) (x8 ++ [t198]) x9 x33 x34 (wrap64 (x35 + 1))) else (none)) else (none)) else (none))) else (none)) else (none))) else (none)) else (none)) else (impl_shortest.l1 k x1 x6 x7 x8 x9 x33 x34 (wrap64 (x35 + 1))))))) else (none)) else (none)) else (impl_shortest.l0 k x1 x6 x7 x8)
end
def impl_shortest.f (k : Nat) (a0_0 : Bool) (a0_1 : Bool) (a0_2 : Bool) (a0_3 : Bool) (a0_4 : Bool) (a0_5 : Int) (l1 : List Int) : Option ((List (List Int)) × List Bool) := if 160 ≤ 11728124029610 then (if 160 ≤ 281474976710656 then ((some (List.replicate 160 false : List Bool)).bind fun y170 => ((impl_numberOf.f a0_0 a0_1 a0_2 a0_3 a0_4 a0_5).bind fun t173 => ((some (([t173] : List Int) : List Int)).bind fun y174 => (if 0 < (y174.length : Int) then (if 0 ≤ (rd y174 0) then (if (rd y174 0) < (y170.length : Int) then (impl_shortest.l0 k l1 (List.replicate 160 []) (y170.set ((rd y174 0) : Int).toNat true) y174) else (none)) else (none)) else (none))))) else (none)) else (none)
theorem impl_shortest.mono_l : ∀ k, (∀ y0 y1 y2 y3, LeO (impl_shortest.l0 k y0 y1 y2 y3) (impl_shortest.l0 (k + 1) y0 y1 y2 y3)) ∧ (∀ y0 y1 y2 y3 y4 y5 y6 y7, LeO (impl_shortest.l1 k y0 y1 y2 y3 y4 y5 y6 y7) (impl_shortest.l1 (k + 1) y0 y1 y2 y3 y4 y5 y6 y7))
 | 0 => ⟨fun _ _ _ _ r h => by simp [impl_shortest.l0] at h, fun _ _ _ _ _ _ _ _ r h => by simp [impl_shortest.l1] at h⟩
 | k + 1 => by
  obtain ⟨ih0, ih1⟩ := impl_shortest.mono_l k
  refine ⟨?_, ?_⟩
  ·intro y0 y1 y2 y3
   unfold impl_shortest.l0
   repeat' first
   | (with_reducible exact ih0 _ _ _ _)
   | (with_reducible exact ih1 _ _ _ _ _ _ _ _)
   | (with_reducible exact LeO.refl _)
   | (with_reducible exact LeO.none _)
   | (with_reducible refine LeO.ite ?_ ?_)
   | (with_reducible refine LeO.bind ?_ (fun _ => ?_))
   | exact ih0 _ _ _ _
   | exact ih1 _ _ _ _ _ _ _ _
   | exact LeO.none _
   | refine LeO.ite ?_ ?_
   | refine LeO.bind ?_ (fun _ => ?_)
  ·intro y0 y1 y2 y3 y4 y5 y6 y7
   unfold impl_shortest.l1
   repeat' first
   | (with_reducible exact ih0 _ _ _ _)
   | (with_reducible exact ih1 _ _ _ _ _ _ _ _)
   | (with_reducible exact LeO.refl _)
   | (with_reducible exact LeO.none _)
   | (with_reducible refine LeO.ite ?_ ?_)
   | (with_reducible refine LeO.bind ?_ (fun _ => ?_))
   | exact ih0 _ _ _ _
   | exact ih1 _ _ _ _ _ _ _ _
   | exact LeO.none _
   | refine LeO.ite ?_ ?_
   | refine LeO.bind ?_ (fun _ => ?_)
theorem impl_shortest.mono : ∀ a0 a1 a2 a3 a4 a5 a6 k, LeO (impl_shortest.f k a0 a1 a2 a3 a4 a5 a6) (impl_shortest.f (k + 1) a0 a1 a2 a3 a4 a5 a6) := by
 intro a0 a1 a2 a3 a4 a5 a6 k
 obtain ⟨ih0, ih1⟩ := impl_shortest.mono_l k
 unfold impl_shortest.f
 repeat' first
   | (with_reducible exact ih0 _ _ _ _)
   | (with_reducible exact ih1 _ _ _ _ _ _ _ _)
   | (with_reducible exact LeO.refl _)
   | (with_reducible exact LeO.none _)
   | (with_reducible refine LeO.ite ?_ ?_)
   | (with_reducible refine LeO.bind ?_ (fun _ => ?_))
   | exact ih0 _ _ _ _
   | exact ih1 _ _ _ _ _ _ _ _
   | exact LeO.none _
   | refine LeO.ite ?_ ?_
   | refine LeO.bind ?_ (fun _ => ?_)
set_option maxHeartbeats 8000000 in
set_option maxRecDepth 100000 in
theorem impl_shortest.calls (k : Nat) (a0_0 : Bool) (a0_1 : Bool) (a0_2 : Bool) (a0_3 : Bool) (a0_4 : Bool) (a0_5 : Int) (A1 : Option Addr) (c1 : Nat) (l1 : List Int) (r1 : List (List Int)) (r2 : List Bool) (w : World) (hr1 : Kd.C (Kd.int .i64) w A1 l1.length l1) (hc1 : l1.length ≤ c1) (h : impl_shortest.f k a0_0 a0_1 a0_2 a0_3 a0_4 a0_5 l1 = some (r1, r2)) :
  Calls Try.prog 69 #[.agg #[.bool a0_0, .bool a0_1, .bool a0_2, .bool a0_3, .bool a0_4, .int .i64 a0_5], .slice A1 l1.length c1] w fun e w' => ∃ v0_ v1_ : Value, e = .returned (.tuple #[v0_, v1_]) ∧ Kd.S (Kd.slice 2 (Kd.int .i64)) 35 w' w.heap.size (fun _ => True) v0_ r1 ∧ Kd.R Kd.bool 4 w' w.heap.size (fun _ => True) v1_ r2 ∧ Below w.heap.size w w' := by
 have hu23 := Try.underlying23
 have HR1 := jA hr1
 have HC1 := jA hc1
 clear hr1 hc1
 have HB := jA (Below.refl w.heap.size w)
 have H : (if 160 ≤ 11728124029610 then (if 160 ≤ 281474976710656 then ((some (List.replicate 160 false : List Bool)).bind fun y170 => ((impl_numberOf.f a0_0 a0_1 a0_2 a0_3 a0_4 a0_5).bind fun t173 => ((some (([t173] : List Int) : List Int)).bind fun y174 => (if 0 < (y174.length : Int) then (if 0 ≤ (rd y174 0) then (if (rd y174 0) < (y170.length : Int) then (impl_shortest.l0 k l1 (List.replicate 160 []) (y170.set ((rd y174 0) : Int).toNat true) y174) else (none)) else (none)) else (none))))) else (none)) else (none)) = some (r1, r2) := h
 clear h
 by_cases c3 : 160 ≤ 11728124029610
 ·rw [if_pos c3] at H
  have c3b0 := eq_true c3
  have c3b1 : decide (160 ≤ 11728124029610) = true := jR c3
  clear c3
  obtain ⟨y167, hy167⟩ : ∃ y_ : List (List Int), y_ = (List.replicate 160 []) := ⟨_, rfl⟩
  replace H : (if 160 ≤ 281474976710656 then ((some (List.replicate 160 false : List Bool)).bind fun y170 => ((impl_numberOf.f a0_0 a0_1 a0_2 a0_3 a0_4 a0_5).bind fun t173 => ((some (([t173] : List Int) : List Int)).bind fun y174 => (if 0 < (y174.length : Int) then (if 0 ≤ (rd y174 0) then (if (rd y174 0) < (y170.length : Int) then (impl_shortest.l0 k l1 y167 (y170.set ((rd y174 0) : Int).toNat true) y174) else (none)) else (none)) else (none))))) else (none)) = some (r1, r2) := by first | (rw [hy167]; with_reducible exact H) | (have H2_ := (Option.bind_some _ _).symm.trans H; rw [hy167]; with_reducible exact H2_) | (have H2_ := (Option.bind_some _ _).symm.trans H; with_reducible exact H2_) | with_reducible exact H | (rw [hy167]; exact H) | exact H
  have Ny167 := jA hy167
  clear hy167
  by_cases c4 : 160 ≤ 281474976710656
  ·rw [if_pos c4] at H
   have c4b0 := eq_true c4
   have c4b1 : decide (160 ≤ 281474976710656) = true := jR c4
   clear c4
   obtain ⟨y170, hy170⟩ : ∃ y_ : List Bool, y_ = (List.replicate 160 false) := ⟨_, rfl⟩
   replace H : ((impl_numberOf.f a0_0 a0_1 a0_2 a0_3 a0_4 a0_5).bind fun t173 => ((some (([t173] : List Int) : List Int)).bind fun y174 => (if 0 < (y174.length : Int) then (if 0 ≤ (rd y174 0) then (if (rd y174 0) < (y170.length : Int) then (impl_shortest.l0 k l1 y167 (y170.set ((rd y174 0) : Int).toNat true) y174) else (none)) else (none)) else (none)))) = some (r1, r2) := by first | (rw [hy170]; with_reducible exact H) | (have H2_ := (Option.bind_some _ _).symm.trans H; rw [hy170]; with_reducible exact H2_) | (have H2_ := (Option.bind_some _ _).symm.trans H; with_reducible exact H2_) | with_reducible exact H | (rw [hy170]; exact H) | exact H
   have Ny170 := jA hy170
   clear hy170
   replace H := jQ.mp H
   obtain ⟨t173, A50, H⟩ := H
   replace H : ((some (([t173] : List Int) : List Int)).bind fun y174 => (if 0 < (y174.length : Int) then (if 0 ≤ (rd y174 0) then (if (rd y174 0) < (y170.length : Int) then (impl_shortest.l0 k l1 y167 (y170.set ((rd y174 0) : Int).toNat true) y174) else (none)) else (none)) else (none))) = some (r1, r2) := H
   have A5 := jA A50
   clear A50
   obtain ⟨y174, hy174⟩ : ∃ y_ : List Int, y_ = (([t173] : List Int)) := ⟨_, rfl⟩
   replace H : (if 0 < (y174.length : Int) then (if 0 ≤ (rd y174 0) then (if (rd y174 0) < (y170.length : Int) then (impl_shortest.l0 k l1 y167 (y170.set ((rd y174 0) : Int).toNat true) y174) else (none)) else (none)) else (none)) = some (r1, r2) := by first | (rw [hy174]; with_reducible exact H) | (have H2_ := (Option.bind_some _ _).symm.trans H; rw [hy174]; with_reducible exact H2_) | (have H2_ := (Option.bind_some _ _).symm.trans H; with_reducible exact H2_) | with_reducible exact H | (rw [hy174]; exact H) | exact H
   have Ny174 := jA hy174
   clear hy174
   by_cases c6 : 0 < (y174.length : Int)
   ·rw [if_pos c6] at H
    have c6b0 : decide (0 < (y174.length : Int)) = true := jR c6
    have c6b1 : decide (0 < y174.length) = true := jR (by omega)
    clear c6
    by_cases c7 : 0 ≤ (rd y174 0)
    ·rw [if_pos c7] at H
     have c7b0 : decide (0 ≤ (rd y174 0)) = true := jR c7
     clear c7
     by_cases c8 : (rd y174 0) < (y170.length : Int)
     ·rw [if_pos c8] at H
      have c8b0 : decide ((rd y174 0) < (y170.length : Int)) = true := jR c8
      clear c8
      obtain ⟨y178, hy178⟩ : ∃ y_ : List Bool, y_ = (y170.set ((rd y174 0) : Int).toNat true) := ⟨_, rfl⟩
      replace H : (impl_shortest.l0 k l1 y167 y178 y174) = some (r1, r2) := by first | (rw [hy178]; with_reducible exact H) | (have H2_ := (Option.bind_some _ _).symm.trans H; rw [hy178]; with_reducible exact H2_) | (have H2_ := (Option.bind_some _ _).symm.trans H; with_reducible exact H2_) | with_reducible exact H | (rw [hy178]; exact H) | exact H
      have Ny178 := jA hy178
      clear hy178
      have H' := jA H
      clear H
      go_enter Try.func69, Try.ntmps69
      try go_wp2_with (first | ((with_reducible refine jO (N := 2) rfl ?_); refine jN ?hg (N := 2) ?hd (cs := #[.bool a0_0, .bool a0_1, .bool a0_2, .bool a0_3, .bool a0_4, .int .i64 a0_5]) (t := 23) ?hr ?_; (case hd => rfl); (case hg => rfl); (case hr => first | (go_simp; done) | (go_simp; rfl)); intro gb166 hg w10 hbox hb; have n0_ := jA (jJ (zb0 HB) hb); have n1_ := jA (hbox); have n2_ := jA ((by rw [hg]; exact (jG (zb0 HB)) : w.heap.size ≤ gb166)); have n3_ := jA ((by rw [hg]; exact (jG (zb0 HB)) : w.heap.size ≤ gb166)); clear HB; have HB := n0_; have BK166 := n1_; have GW166 := n2_; have GE166 := n3_; clear n0_ n1_ n2_ n3_; clear hb hbox hg))
      have n0_ := jA (jF BK166.out)
      have n1_ := jA (below_drew1 HB.out)
      clear BK166
      clear HB
      have BK166 := n0_
      have HB := n1_
      clear n0_ n1_
      refine start_ (n := 4) (S := fun w' => True) (ds := []) #[false, false, false, false] zr rfl rfl trivial (fun hHeld => ?_)
      generalize w10.drew = w11 at BK166 HB hHeld ⊢
      refine join_ (σ := Value × Value) 1 m4_e (fun s_ => [(15, s_.1), (16, s_.2), (6, s_.1)]) (fun s_ w' => (Kd.S (Kd.slice 2 (Kd.int .i64)) 35 w' w.heap.size (fun _ => True) s_.1 y167) ∧ (Kd.R Kd.bool 4 w' w.heap.size (fun _ => True) s_.2 y170) ∧ (w'.heap[gb166]? = some (.cells #[.bool a0_0, .bool a0_1, .bool a0_2, .bool a0_3, .bool a0_4, .int .i64 a0_5] 23 (0, 0))) ∧ (Below w.heap.size w w')) ?_ ?_
      rotate_left
      ·intro hCont
       refine two_ (i := 0) (j := 1) (Ni := some 15) (Nj := some 16) #[true, false, false, false] #[false, true, false, false] rfl rfl rfl rfl zr (by decide) (by decide) (fun K hK => ?_) (fun K hK => ?_)
       ·skip
        refine Kd.S_make_step (Kd.slice 2 (Kd.int .i64)) _ 35 (by rfl) (N := 15) rfl 81 _ _ rfl 160 rfl rfl Try.underlying81 (.slice none 0 0) 24 info35 rfl (by decide) (by omega) [] (ok := fun _ => True) (okp := fun _ => True) ⟨_, rfl, Kd.R_nil _ _ _ _ _⟩ (fun _ hk => hk) trivial (by omega) (by omega) (Below.refl _ _) (Nat.le_refl _) ?_
        intro v168 w12 ho13 hb hg_ hnew_
        clear hg_ hnew_
        (first | rw [← Ny167.out] at ho13 | (simp only [Int.reduceToNat] at ho13; rw [← Ny167.out] at ho13))
        have n0_ := jA (Kd.S_lower ho13 (jG (zb1 HB GE166)))
        have n1_ := jA (jP (g := gb166) (o := .cells #[.bool a0_0, .bool a0_1, .bool a0_2, .bool a0_3, .bool a0_4, .int .i64 a0_5] 23 (0, 0)) (zk BK166) hb)
        have n2_ := jA (jJ (zb1 HB GE166) hb)
        clear BK166
        clear HB
        have HO169 := n0_
        have BK166 := n1_
        have HB := n2_
        clear n0_ n1_ n2_
        clear hb ho13
        refine hK.out _ _ trivial (fun hHeld => ?_)
        clear hK K
        refine norm_ (a' := ?_) ?_ ?_
        rotate_left
        ·show Act.put _ (some 15) _ = _
         simp only [Act.put, jL, jV, jW, i64_w, i32_w]
         rfl
        refine pure_ (i := 2) (N := some 6) (v := ?_) (a' := ?_) #[true, false, true, false] rfl rfl zr (fun _ _ _ h => h) (Or.inl ⟨by rfl, ?_⟩) ?_ ?_
        rotate_left
        ·intro w'
         go_simp
         with_reducible rfl
        rotate_left
        ·simp only [Act.put, jL, jV, jW, i64_w, i32_w]
         rfl
        refine one_ (i := 1) (N := some 16) m4_e rfl rfl zr (by decide) (fun K hK => ?_)
        refine Kd.R_make_step Kd.bool _ 4 (by rfl) (N := 16) rfl 82 _ _ rfl 160 rfl rfl Try.underlying82 (.bool false) 1 info4 rfl (by decide) (by omega) false (ok := fun _ => True) (okp := fun _ => True) rfl (fun _ hk => hk) trivial (by omega) (by omega) (Below.refl _ _) (Nat.le_refl _) ?_
        intro v171 w14 ho15 hb hg_ hnew_
        clear hg_ hnew_
        (first | rw [← Ny170.out] at ho15 | (simp only [Int.reduceToNat] at ho15; rw [← Ny170.out] at ho15))
        have n0_ := jA (Kd.S_below (by (with_reducible repeat (first | apply Kd.S_alloc | apply Kd.S_drewN | apply Kd.S_drew)); exact HO169.out) hb)
        have n1_ := jA (Kd.R_lower ho15 (jG (zb1 HB GE166)))
        have n2_ := jA (jP (g := gb166) (o := .cells #[.bool a0_0, .bool a0_1, .bool a0_2, .bool a0_3, .bool a0_4, .int .i64 a0_5] 23 (0, 0)) (zk BK166) hb)
        have n3_ := jA (jJ (zb1 HB GE166) hb)
        clear HO169
        clear BK166
        clear HB
        have HO169 := n0_
        have HO172 := n1_
        have BK166 := n2_
        have HB := n3_
        clear n0_ n1_ n2_ n3_
        clear hb ho15
        refine hK.out _ _ trivial (fun hHeld => ?_)
        clear hK K
        refine norm_ (a' := ?_) ?_ ?_
        rotate_left
        ·show Act.put _ (some 16) _ = _
         simp only [Act.put, jL, jV, jW, i64_w, i32_w]
         rfl
        exact norm_ (by simp only [putAll, Act.put, jL, jV, jW]) (hCont (v168, v171) _ ⟨(by (with_reducible repeat (first | apply Kd.S_alloc | apply Kd.S_drewN | apply Kd.S_drew)); exact HO169.out), (zo HO172), (zk BK166), (zb1 HB GE166)⟩)
       ·skip
        refine Kd.R_make_step Kd.bool _ 4 (by rfl) (N := 16) rfl 82 _ _ rfl 160 rfl rfl Try.underlying82 (.bool false) 1 info4 rfl (by decide) (by omega) false (ok := fun _ => True) (okp := fun _ => True) rfl (fun _ hk => hk) trivial (by omega) (by omega) (Below.refl _ _) (Nat.le_refl _) ?_
        intro v171 w12 ho13 hb hg_ hnew_
        clear hg_ hnew_
        (first | rw [← Ny170.out] at ho13 | (simp only [Int.reduceToNat] at ho13; rw [← Ny170.out] at ho13))
        have n0_ := jA (Kd.R_lower ho13 (jG (zb1 HB GE166)))
        have n1_ := jA (jP (g := gb166) (o := .cells #[.bool a0_0, .bool a0_1, .bool a0_2, .bool a0_3, .bool a0_4, .int .i64 a0_5] 23 (0, 0)) (zk BK166) hb)
        have n2_ := jA (jJ (zb1 HB GE166) hb)
        clear BK166
        clear HB
        have HO172 := n0_
        have BK166 := n1_
        have HB := n2_
        clear n0_ n1_ n2_
        clear hb ho13
        refine hK.out _ _ trivial (fun hHeld => ?_)
        clear hK K
        refine norm_ (a' := ?_) ?_ ?_
        rotate_left
        ·show Act.put _ (some 16) _ = _
         simp only [Act.put, jL, jV, jW, i64_w, i32_w]
         rfl
        refine one_ (i := 0) (N := some 15) #[true, true, false, false] rfl rfl zr (by decide) (fun K hK => ?_)
        refine Kd.S_make_step (Kd.slice 2 (Kd.int .i64)) _ 35 (by rfl) (N := 15) rfl 81 _ _ rfl 160 rfl rfl Try.underlying81 (.slice none 0 0) 24 info35 rfl (by decide) (by omega) [] (ok := fun _ => True) (okp := fun _ => True) ⟨_, rfl, Kd.R_nil _ _ _ _ _⟩ (fun _ hk => hk) trivial (by omega) (by omega) (Below.refl _ _) (Nat.le_refl _) ?_
        intro v168 w14 ho15 hb hg_ hnew_
        clear hg_ hnew_
        (first | rw [← Ny167.out] at ho15 | (simp only [Int.reduceToNat] at ho15; rw [← Ny167.out] at ho15))
        have n0_ := jA (Kd.R_below (zo HO172) hb)
        have n1_ := jA (Kd.S_lower ho15 (jG (zb1 HB GE166)))
        have n2_ := jA (jP (g := gb166) (o := .cells #[.bool a0_0, .bool a0_1, .bool a0_2, .bool a0_3, .bool a0_4, .int .i64 a0_5] 23 (0, 0)) (zk BK166) hb)
        have n3_ := jA (jJ (zb1 HB GE166) hb)
        clear HO172
        clear BK166
        clear HB
        have HO172 := n0_
        have HO169 := n1_
        have BK166 := n2_
        have HB := n3_
        clear n0_ n1_ n2_ n3_
        clear hb ho15
        refine hK.out _ _ trivial (fun hHeld => ?_)
        clear hK K
        refine norm_ (a' := ?_) ?_ ?_
        rotate_left
        ·show Act.put _ (some 15) _ = _
         simp only [Act.put, jL, jV, jW, i64_w, i32_w]
         rfl
        refine pure_ (i := 2) (N := some 6) (v := ?_) (a' := ?_) m4_e rfl rfl zr (fun _ _ _ h => h) (Or.inl ⟨by rfl, ?_⟩) ?_ ?_
        rotate_left
        ·intro w'
         go_simp
         with_reducible rfl
        rotate_left
        ·simp only [Act.put, jL, jV, jW, i64_w, i32_w]
         rfl
        exact norm_ (by simp only [putAll, Act.put, jL, jV, jW]) (hCont (v168, v171) _ ⟨(by (with_reducible repeat (first | apply Kd.S_alloc | apply Kd.S_drewN | apply Kd.S_drew)); exact HO169.out), (zo HO172), (zk BK166), (zb1 HB GE166)⟩)
      rintro ⟨v168, v171⟩ w16 ⟨h0_, h1_, h2_, h3_⟩
      have n0_ : Aside0 (Kd.S (Kd.slice 2 (Kd.int .i64)) 35 w16 w.heap.size (fun _ => True) v168 y167) := ⟨h0_⟩
      have n1_ : Aside0 (Kd.R Kd.bool 4 w16 w.heap.size (fun _ => True) v171 y170) := ⟨h1_⟩
      have n2_ : Aside0 (w16.heap[gb166]? = some (.cells #[.bool a0_0, .bool a0_1, .bool a0_2, .bool a0_3, .bool a0_4, .int .i64 a0_5] 23 (0, 0))) := ⟨h2_⟩
      have n3_ : Aside0 (Below w.heap.size w w16) := ⟨h3_⟩
      clear BK166
      clear HB
      clear h0_ h1_ h2_ h3_
      have HO169 := n0_
      have HO172 := n1_
      have BK166 := n2_
      have HB := n3_
      clear n0_ n1_ n2_ n3_
      have hHeld := trivial
      refine norm_ (a' := ?_) ?_ ?_
      rotate_left
      ·simp only [putAll, Act.put, jL, jV, jW]
       rfl
      refine pure_ (i := 3) (N := some 7) (v := ?_) (a' := ?_) #[true, true, true, true] rfl rfl zr (fun _ _ _ h => h) (Or.inl ⟨by rfl, ?_⟩) ?_ ?_
      rotate_left
      ·intro w'
       go_simp
       with_reducible rfl
      rotate_left
      ·simp only [Act.put, jL, jV, jW, i64_w, i32_w]
       rfl
      refine done_ zr ?_
      have hcz17_0 : w16.cell? ⟨gb166, 0, none⟩ = some (.bool a0_0) := (jC BK166.out 0).trans rfl
      have hcz17_1 : w16.cell? ⟨gb166, 1, none⟩ = some (.bool a0_1) := (jC BK166.out 1).trans rfl
      have hcz17_2 : w16.cell? ⟨gb166, 2, none⟩ = some (.bool a0_2) := (jC BK166.out 2).trans rfl
      have hcz17_3 : w16.cell? ⟨gb166, 3, none⟩ = some (.bool a0_3) := (jC BK166.out 3).trans rfl
      have hcz17_4 : w16.cell? ⟨gb166, 4, none⟩ = some (.bool a0_4) := (jC BK166.out 4).trans rfl
      have hcz17_5 : w16.cell? ⟨gb166, 5, none⟩ = some (.int .i64 a0_5) := (jC BK166.out 5).trans rfl
      have hfz17_0 := jB BK166.out 0
      have hfz17_1 := jB BK166.out 1
      have hfz17_2 := jB BK166.out 2
      have hfz17_3 := jB BK166.out 3
      have hfz17_4 := jB BK166.out 4
      have hfz17_5 := jB BK166.out 5
      try go_wp2_with (first | ((with_reducible refine jd (f := 53) rfl ?_); refine goesL_ (some 18) rfl rfl Try.func53 zr rfl #[.agg #[.bool a0_0, .bool a0_1, .bool a0_2, .bool a0_3, .bool a0_4, .int .i64 a0_5]] rfl zm ?_; (with_reducible refine (impl_numberOf.calls a0_0 a0_1 a0_2 a0_3 a0_4 a0_5 t173 _ A5.out).mono ?_); rintro e w18 ⟨rfl, hb⟩; refine ⟨_, rfl, ?_⟩; have n0_ := jA (Kd.S_below (by (with_reducible repeat (first | apply Kd.S_alloc | apply Kd.S_drewN | apply Kd.S_drew)); exact HO169.out) hb); have n1_ := jA (Kd.R_below (zo HO172) hb); have n2_ := jA (jP (g := gb166) (o := .cells #[.bool a0_0, .bool a0_1, .bool a0_2, .bool a0_3, .bool a0_4, .int .i64 a0_5] 23 (0, 0)) (zk BK166) hb); have n3_ := jA (jJ (zb1 HB GE166) hb); clear HO169; clear HO172; clear BK166; clear HB; have HO169 := n0_; have HO172 := n1_; have BK166 := n2_; have HB := n3_; clear n0_ n1_ n2_ n3_; (try clear hb); (try clear hb2); (try clear hk); (try clear hi)) | ((with_reducible refine jO (N := 19) rfl ?_); refine Kd.R_lit (Kd.int .i64) _ 2 ?hg (N := 19) ?hd (xs := ([t173] : List Int)) (inner := [.int .i64 t173]) (ok := fun _ => True) (okp := fun _ => True) ?hr ?hp (fun _ hk => hk) trivial (Below.refl _ _) (Nat.le_refl _) (by simp) ?_; (case hd => rfl); (case hg => rfl); (case hr => first | (go_simp; done) | (go_simp; rfl)); (case hp => exact (Reps.one (show Kd.M (Kd.int .i64) _ _ _ t173 [.int .i64 t173] from rfl) (Reps.none _ _))); intro v175 w19 ho20 hb hg_ hnew_; clear hg_ hnew_; (first | rw [← Ny174.out] at ho20 | (simp only [Int.reduceToNat] at ho20; rw [← Ny174.out] at ho20)); have n0_ := jA (Kd.S_elder' (by (with_reducible repeat (first | apply Kd.S_alloc | apply Kd.S_drewN | apply Kd.S_drew)); exact HO169.out) (Kd.R_base ho20) hb); have n1_ := jA (Kd.R_below (zo HO172) hb); have n2_ := jA (Kd.R_lower ho20 (jG (zb1 HB GE166))); have n3_ := jA (jP (g := gb166) (o := .cells #[.bool a0_0, .bool a0_1, .bool a0_2, .bool a0_3, .bool a0_4, .int .i64 a0_5] 23 (0, 0)) (zk BK166) hb); have n4_ := jA (jJ (zb1 HB GE166) hb); clear HO169; clear HO172; clear BK166; clear HB; have HO169 := n0_; have HO172 := n1_; have HO176 := n2_; have BK166 := n3_; have HB := n4_; clear n0_ n1_ n2_ n3_ n4_; clear hb ho20; obtain ⟨Ao21, co21, eo21⟩ := Kd.R_slice HO176.out; subst eo21; have p177 : 0 ≤ (0 : Int) := (by omega); have q177 : 0 < (y174.length : Int) := jH za; obtain ⟨ad177, e177, hx177_0⟩ := Kd.at_int (Kd.R_reads' HO176.out).2.2 0 p177 q177; cases e177; have qi177 : (0 < y174.length) = True := eq_true (by omega); (try rw [show ((0 : Int)).toNat = 0 from rfl] at hx177_0); (try rw [Addr.add_zero'] at hx177_0); replace p177 := eq_true p177; replace q177 := eq_true q177; have p9 : 0 ≤ ((rd y174 0) : Int) := jH za; have q9 : ((rd y174 0) : Int) < ((y170.length : Int) : Int) := jH za; obtain ⟨go9, co9, eo9, gb9, gl9, cl9, HG9⟩ := Kd.R_form HO172.out (by omega); (first | cases eo9 | (injection eo9 with ea_ en_ ec_; (first | subst ea_ | (injection ea_ with ea_; subst ea_)); subst ec_; clear en_)); have GB9 := jA gb9; have GG9 := jA HG9; clear gb9 gl9 HG9; obtain ⟨hx9_0, hf9_0⟩ := Kd.R_celln false HO172.out ((rd y174 0) : Int) p9 q9; replace p9 := eq_true p9; replace q9 := eq_true q9; obtain ⟨hy22_, hz22_⟩ := Kd.R_celln false HO172.out ((rd y174 0) : Int) (jH za) (jH za); have HP22 := Kd.R_putg HO172.out ((rd y174 0) : Int) true) | ((with_reducible refine gate_store (t := 4) (p := 24) rfl ?_); refine store_event (t := 4) (p := 24) (v := ?vo_w23) (w1 := (w19.setCell ⟨go9, ((rd y174 0) : Int).toNat, none⟩ (.bool true))) ?hg ?ho ?hn ?hr ?_; (case ho => rfl); (case hg => rfl); (case hn => rfl); (case hr => first | (go_simp; done) | (go_simp; rfl)); intro w23 hw; have hg : w19.grownBy w23 (some go9) := (by rw [hw]; exact HP22.2); have hp_ : Kd.R Kd.bool 4 w23 w.heap.size (fun _ => True) (.slice (some ⟨go9, 0, none⟩) y170.length co9) y178 := (by rw [hw, Ny178.out]; exact HP22.1); clear HP22; have n0_ := jA (blk_grown (g := gb166) (o := .cells #[.bool a0_0, .bool a0_1, .bool a0_2, .bool a0_3, .bool a0_4, .int .i64 a0_5] 23 (0, 0)) (zk BK166) hg (Kd.R_ne HO172.out BK166.out (by decide))); have n1_ := jA (Kd.S_over' (v := (.slice (some ⟨go9, 0, none⟩) y170.length co9)) (by (with_reducible repeat (first | apply Kd.S_alloc | apply Kd.S_drewN | apply Kd.S_drew)); exact HO169.out) (Kd.R_typed HO172.out) (by decide) hg); have n2_ := jA (hp_); have n3_ := jA (Kd.R_over' (v := (.slice (some ⟨go9, 0, none⟩) y170.length co9)) (zo HO176) (Kd.R_typed HO172.out) (by decide) hg); have n4_ := jA ((by rw [hw]; exact below_set (HB.out) GB9.out : Below w.heap.size w w23)); clear BK166; clear HO169; clear HO172; clear HO176; clear HB; have BK166 := n0_; have HO169 := n1_; have HO172 := n2_; have HO176 := n3_; have HB := n4_; clear n0_ n1_ n2_ n3_ n4_; clear hg hw hp_))
      go_loopg [8] k (fun kq v8 w' => ∃ (x6_1 : List (List Int)) (x7_1 : List Bool) (x8_1 : List Int), Aside0 (impl_shortest.l0 kq l1 x6_1 x7_1 x8_1 = some (r1, r2)) ∧ Aside0 (kq ≤ k) ∧ Aside0 (Kd.S (Kd.slice 2 (Kd.int .i64)) 35 w' w.heap.size (fun k_ => some k_ ≠ (v8 : Value).ownBlock) v168 x6_1) ∧ Aside0 (Kd.R Kd.bool 4 w' w.heap.size (fun _ => True) (.slice (some ⟨go9, 0, none⟩) y170.length co9) x7_1) ∧ Aside0 (Kd.Q (Kd.int .i64) 2 w' w.heap.size (fun _ => True) v8 x8_1) ∧ Aside0 (w'.heap[gb166]? = some (.cells #[.bool a0_0, .bool a0_1, .bool a0_2, .bool a0_3, .bool a0_4, .int .i64 a0_5] 23 (0, 0))) ∧ Aside0 (Below w.heap.size w w'))
      case atStart => exact ⟨(y167), (y178), (y174), H', ⟨Nat.le_refl _⟩, ⟨by (with_reducible repeat (first | apply Kd.S_alloc | apply Kd.S_drewN | apply Kd.S_drew)); exact Kd.S_mono HO169.out (fun _ hk => hk.2)⟩, ⟨by (with_reducible repeat (first | apply ja | apply jZ | apply jc)); exact HO172.out⟩, ⟨Kd.Q_of_R (zo HO176)⟩, ⟨by (with_reducible repeat (first | refine jD ?_ _ | refine jF ?_ | refine jE ?_ _)); exact BK166.out⟩, ⟨zb1 HB GE166⟩⟩
      case round =>
       clear H'
       try clear c1
       try clear p1
       try clear q1
       try clear hx1
       try clear qi1
       try clear p2
       try clear c3
       try clear c3b0
       try clear c3b1
       try clear c4
       try clear c4b0
       try clear c4b1
       try clear c5
       try clear c6
       try clear c6b0
       try clear c6b1
       try clear c7
       try clear c7b0
       try clear c8
       try clear c8b0
       try clear p9
       try clear q9
       try clear hx9
       try clear hf9
       try clear p17
       try clear q17
       try clear hx17
       try clear qi17
       try clear hcz17_0
       try clear hcz17_1
       try clear hcz17_2
       try clear hcz17_3
       try clear hcz17_4
       try clear hcz17_5
       try clear hfz17_0
       try clear hfz17_1
       try clear hfz17_2
       try clear hfz17_3
       try clear hfz17_4
       try clear hfz17_5
       try clear hx177_0
       try clear hx9_0
       try clear p177
       try clear p9
       try clear q177
       try clear q9
       obtain ⟨x6_1, x7_1, x8_1, HA, HK1, HO_6, HO_7, HO_8, BK166, HB⟩ := hrel
       have hl7_1 := (Kd.R_reads' HO_7.out).1
       rw [hl7_1] at HO_7
       (try simp only [hl7_1])
       (try simp only [hl7_1] at BK166)
       (try simp only [hl7_1] at HO_6)
       (try simp only [hl7_1] at HO_8)
       cases gk with
       | zero => exact absurd HA.out (by simp [impl_shortest.l0])
       | succ k1 =>
        have H := HA.out
        clear HA
        simp only [impl_shortest.l0] at H
        by_cases c24 : (x8_1.length : Int) > 0
        ·rw [if_pos c24] at H
         have c24b0 : decide (0 < (x8_1.length : Int)) = true := jR c24
         have c24b1 : decide (0 < x8_1.length) = true := jR (by omega)
         clear c24
         by_cases c25 : 0 < (x8_1.length : Int)
         ·rw [if_pos c25] at H
          have c25b0 : decide (0 < (x8_1.length : Int)) = true := jR c25
          have c25b1 : decide (0 < x8_1.length) = true := jR (by omega)
          clear c25
          by_cases c26 : 1 ≤ (x8_1.length : Int)
          ·rw [if_pos c26] at H
           have c26b0 := eq_true c26
           have c26b1 : decide (1 ≤ (x8_1.length : Int)) = true := jR c26
           clear c26
           obtain ⟨y180, hy180⟩ : ∃ y_ : List Int, y_ = (x8_1.drop (1 : Int).toNat) := ⟨_, rfl⟩
           replace H : (impl_shortest.l1 k1 l1 x6_1 x7_1 y180 (rd x8_1 0) l1 (l1.length : Int) 0) = some (r1, r2) := by first | (rw [hy180]; with_reducible exact H) | (have H2_ := (Option.bind_some _ _).symm.trans H; rw [hy180]; with_reducible exact H2_) | (have H2_ := (Option.bind_some _ _).symm.trans H; with_reducible exact H2_) | with_reducible exact H | (rw [hy180]; exact H) | exact H
           have Ny180 := jA hy180
           clear hy180
           have H' := jA H
           clear H
           obtain ⟨Ao27, co27, eo27, _⟩ := Kd.Q_slice HO_8.out
           subst eo27
           have p179 : 0 ≤ (0 : Int) := (by omega)
           have q179 : 0 < (x8_1.length : Int) := jH za
           obtain ⟨ad179, e179, hx179_0⟩ := Kd.at_int (Kd.Q_reads' HO_8.out).2.2 0 p179 q179
           cases e179
           have qi179 : (0 < x8_1.length) = True := eq_true (by omega)
           (try rw [show ((0 : Int)).toNat = 0 from rfl] at hx179_0)
           (try rw [Addr.add_zero'] at hx179_0)
           replace p179 := eq_true p179
           replace q179 := eq_true q179
           have q28 : (1 : Int) ≤ ((x8_1.length : Int) : Int) := jH za
           obtain ⟨i028, hi028, _, hsz28, _⟩ := info_parts info2
           have hcut28 := cut_from (P := Try.prog) 35 2 .i64 Try.underlying35 hi028 1 hsz28 (some ad179) x8_1.length co27 1 (by omega) q28
           have hr28 := Kd.Q_drop (k := (1 : Int).toNat) HO_8.out (by omega)
           obtain ⟨A28, hA28⟩ : ∃ A1, A1 = (if co27 = (1 : Int).toNat then (some ad179) else ((some ad179) : Option Addr).map (·.add ((1 : Int).toNat * 1))) := ⟨_, rfl⟩
           obtain ⟨c28, hc28⟩ : ∃ c1, c1 = co27 - (1 : Int).toNat := ⟨_, rfl⟩
           have hy28 : y180.length = x8_1.length - (1 : Int).toNat := (by rw [Ny180.out, List.length_drop])
           rw [← Ny180.out] at hr28
           rw [← hy28, ← hA28, ← hc28] at hcut28
           replace hr28 : Kd.Q (Kd.int .i64) 2 wr w.heap.size (fun _ => True) (.slice A28 y180.length c28) y180 := (by rw [hA28, hc28, hy28]; exact hr28)
           have HE28 : Aside0 ((Value.slice A28 y180.length c28).ownBlock = (.slice (some ad179) x8_1.length co27 : Value).ownBlock) := ⟨by rw [hA28]; split <;> (cases ((some ad179) : Option Addr) <;> rfl)⟩
           clear hy28 hi028 hsz28 HO_8 hA28 hc28
           have HO182 := jA hr28
           clear hr28
           replace q28 := eq_true q28
           have n_ := jA (Kd.S_mono (ok' := fun k_ => some k_ ≠ (.slice A28 y180.length c28 : Value).ownBlock) HO_6.out (fun k_ hk => (by rw [HE28.out]; exact hk)))
           clear HO_6
           have HO_6 := n_
           clear n_
           go_wp2
           go_loopg [8, 35] k1 (fun kq v8 v35 w' => ∃ (x6_2 : List (List Int)) (x7_2 : List Bool) (x8_2 : List Int) (x35_2 : Int), v35 = .int .i64 x35_2 ∧ Aside0 (impl_shortest.l1 kq l1 x6_2 x7_2 x8_2 (rd x8_1 0) l1 (l1.length : Int) x35_2 = some (r1, r2)) ∧ Aside0 (kq ≤ k1) ∧ Aside0 (Kd.S (Kd.slice 2 (Kd.int .i64)) 35 w' w.heap.size (fun k_ => some k_ ≠ (v8 : Value).ownBlock) v168 x6_2) ∧ Aside0 (Kd.R Kd.bool 4 w' w.heap.size (fun _ => True) (.slice (some ⟨go9, 0, none⟩) x7_1.length co9) x7_2) ∧ Aside0 (Kd.Q (Kd.int .i64) 2 w' w.heap.size (fun _ => True) v8 x8_2) ∧ Aside0 (w'.heap[gb166]? = some (.cells #[.bool a0_0, .bool a0_1, .bool a0_2, .bool a0_3, .bool a0_4, .int .i64 a0_5] 23 (0, 0))) ∧ Aside0 (Below w.heap.size w w'))
           case atStart => exact ⟨(x6_1), (x7_1), (y180), (0), zz, H', ⟨Nat.le_refl _⟩, ⟨by (try simp only [hl7_1]); (with_reducible repeat (first | apply Kd.S_alloc | apply Kd.S_drewN | apply Kd.S_drew)); exact HO_6.out⟩, ⟨by (try simp only [hl7_1]); (with_reducible repeat (first | apply ja | apply jZ | apply jc)); exact HO_7.out⟩, ⟨by (try simp only [hl7_1]); (with_reducible repeat (first | apply Kd.Q_alloc | apply Kd.Q_drewN | apply Kd.Q_drew)); exact HO182.out⟩, ⟨by (try simp only [hl7_1]); (with_reducible repeat (first | refine jD ?_ _ | refine jF ?_ | refine jE ?_ _)); exact BK166.out⟩, ⟨zb1 HB GE166⟩⟩
           case round =>
            clear H'
            try clear c1
            try clear p1
            try clear q1
            try clear hx1
            try clear qi1
            try clear c2
            try clear p2
            try clear q2
            try clear c3
            try clear c3b0
            try clear c3b1
            try clear c4
            try clear c4b0
            try clear c4b1
            try clear c5
            try clear c6
            try clear c6b0
            try clear c6b1
            try clear c7
            try clear c7b0
            try clear c8
            try clear c8b0
            try clear p9
            try clear q9
            try clear hx9
            try clear hf9
            try clear p17
            try clear q17
            try clear hx17
            try clear qi17
            try clear c24
            try clear c24b0
            try clear c24b1
            try clear c25
            try clear c25b0
            try clear c25b1
            try clear c26
            try clear c26b0
            try clear c26b1
            try clear c28
            try clear q28
            try clear hcz17_0
            try clear hcz17_1
            try clear hcz17_2
            try clear hcz17_3
            try clear hcz17_4
            try clear hcz17_5
            try clear hfz17_0
            try clear hfz17_1
            try clear hfz17_2
            try clear hfz17_3
            try clear hfz17_4
            try clear hfz17_5
            try clear hx177_0
            try clear hx179_0
            try clear hx9_0
            try clear p1
            try clear p17
            try clear p177
            try clear p179
            try clear p2
            try clear p9
            try clear q1
            try clear q17
            try clear q177
            try clear q179
            try clear q28
            try clear q9
            obtain ⟨x6_2, x7_2, x8_2, x35_2, rfl, HA, HK2, HO_6, HO_7, HO_8, BK166, HB⟩ := hrel
            have hl7_2 := (Kd.R_reads' HO_7.out).1
            rw [hl7_2] at HO_7
            (try simp only [hl7_2])
            (try simp only [hl7_2] at BK166)
            (try simp only [hl7_2] at HO_6)
            (try simp only [hl7_2] at HO_8)
            cases gk with
            | zero => exact absurd HA.out (by simp [impl_shortest.l1])
            | succ k2 =>
             have H := HA.out
             clear HA
             simp only [impl_shortest.l1] at H
             by_cases c29 : x35_2 < (l1.length : Int)
             ·rw [if_pos c29] at H
              have c29b0 : decide (x35_2 < (l1.length : Int)) = true := jR c29
              clear c29
              by_cases c30 : 0 ≤ x35_2
              ·rw [if_pos c30] at H
               have c30b0 : decide (0 ≤ x35_2) = true := jR c30
               clear c30
               by_cases c31 : x35_2 < (l1.length : Int)
               ·rw [if_pos c31] at H
                have c31b0 : decide (x35_2 < (l1.length : Int)) = true := jR c31
                clear c31
                replace H := jQ.mp H
                obtain ⟨⟨t184, t185, t186, t187, t188, t189⟩, A320, H⟩ := H
                replace H : ((impl_giveInput.f t184 t185 t186 t187 t188 t189 (rd l1 x35_2)).bind fun bt190 => ((impl_numberOf.f bt190.1 bt190.2.1 bt190.2.2.1 bt190.2.2.2.1 bt190.2.2.2.2.1 bt190.2.2.2.2.2.1).bind fun t198 => (if bt190.2.2.2.2.2.2 = 0 then (if 0 ≤ t198 then (if t198 < (x7_2.length : Int) then (if rdOf false x7_2 t198 = true then (impl_shortest.l1 k2 l1 x6_2 x7_2 x8_2 (rd x8_1 0) l1 (l1.length : Int) (wrap64 (x35_2 + 1))) else (if 0 ≤ (rd x8_1 0) then (if (rd x8_1 0) < (x6_2.length : Int) then ((impl_copyList.f (rd_L1 x6_2 (rd x8_1 0))).bind fun t202 => (if t202.length < 17592186044416 then (if t198 < (x6_2.length : Int) then (if x8_2.length < 17592186044416 then (impl_shortest.l1 k2 l1 (x6_2.set (t198 : Int).toNat (t202 ++ [rd l1 x35_2])) (x7_2.set (t198 : Int).toNat true) (x8_2 ++ [t198]) (rd x8_1 0) l1 (l1.length : Int) (wrap64 (x35_2 + 1))) else (none)) else (none)) else (none))) else (none)) else (none))) else (none)) else (none)) else (impl_shortest.l1 k2 l1 x6_2 x7_2 x8_2 (rd x8_1 0) l1 (l1.length : Int) (wrap64 (x35_2 + 1)))))) = some (r1, r2) := H
                have A32 := jA A320
                clear A320
                replace H := jQ.mp H
                obtain ⟨⟨t190, t191, t192, t193, t194, t195, t196⟩, A330, H⟩ := H
                replace H : ((impl_numberOf.f t190 t191 t192 t193 t194 t195).bind fun t198 => (if t196 = 0 then (if 0 ≤ t198 then (if t198 < (x7_2.length : Int) then (if rdOf false x7_2 t198 = true then (impl_shortest.l1 k2 l1 x6_2 x7_2 x8_2 (rd x8_1 0) l1 (l1.length : Int) (wrap64 (x35_2 + 1))) else (if 0 ≤ (rd x8_1 0) then (if (rd x8_1 0) < (x6_2.length : Int) then ((impl_copyList.f (rd_L1 x6_2 (rd x8_1 0))).bind fun t202 => (if t202.length < 17592186044416 then (if t198 < (x6_2.length : Int) then (if x8_2.length < 17592186044416 then (impl_shortest.l1 k2 l1 (x6_2.set (t198 : Int).toNat (t202 ++ [rd l1 x35_2])) (x7_2.set (t198 : Int).toNat true) (x8_2 ++ [t198]) (rd x8_1 0) l1 (l1.length : Int) (wrap64 (x35_2 + 1))) else (none)) else (none)) else (none))) else (none)) else (none))) else (none)) else (none)) else (impl_shortest.l1 k2 l1 x6_2 x7_2 x8_2 (rd x8_1 0) l1 (l1.length : Int) (wrap64 (x35_2 + 1))))) = some (r1, r2) := H
                have A33 := jA A330
                clear A330
                replace H := jQ.mp H
                obtain ⟨t198, A340, H⟩ := H
                replace H : (if t196 = 0 then (if 0 ≤ t198 then (if t198 < (x7_2.length : Int) then (if rdOf false x7_2 t198 = true then (impl_shortest.l1 k2 l1 x6_2 x7_2 x8_2 (rd x8_1 0) l1 (l1.length : Int) (wrap64 (x35_2 + 1))) else (if 0 ≤ (rd x8_1 0) then (if (rd x8_1 0) < (x6_2.length : Int) then ((impl_copyList.f (rd_L1 x6_2 (rd x8_1 0))).bind fun t202 => (if t202.length < 17592186044416 then (if t198 < (x6_2.length : Int) then (if x8_2.length < 17592186044416 then (impl_shortest.l1 k2 l1 (x6_2.set (t198 : Int).toNat (t202 ++ [rd l1 x35_2])) (x7_2.set (t198 : Int).toNat true) (x8_2 ++ [t198]) (rd x8_1 0) l1 (l1.length : Int) (wrap64 (x35_2 + 1))) else (none)) else (none)) else (none))) else (none)) else (none))) else (none)) else (none)) else (impl_shortest.l1 k2 l1 x6_2 x7_2 x8_2 (rd x8_1 0) l1 (l1.length : Int) (wrap64 (x35_2 + 1)))) = some (r1, r2) := H
                have A34 := jA A340
                clear A340
                by_cases c35 : t196 = 0
                ·rw [if_pos c35] at H
                 have c35b0 : (t196 == 0) = true := beq_iff_eq.mpr c35
                 have c35b1 : (t196 != 0) = false := bne_eq_false_iff_eq.mpr c35
                 clear c35
                 by_cases c36 : 0 ≤ t198
                 ·rw [if_pos c36] at H
                  have c36b0 : decide (0 ≤ t198) = true := jR c36
                  clear c36
                  by_cases c37 : t198 < (x7_2.length : Int)
                  ·rw [if_pos c37] at H
                   have c37b0 : decide (t198 < (x7_2.length : Int)) = true := jR c37
                   clear c37
                   obtain ⟨bq38, hbq38⟩ : ∃ b_ : Bool, b_ = (rdOf false x7_2 t198) := ⟨_, rfl⟩
                   replace H : (if bq38 = true then (impl_shortest.l1 k2 l1 x6_2 x7_2 x8_2 (rd x8_1 0) l1 (l1.length : Int) (wrap64 (x35_2 + 1))) else (if 0 ≤ (rd x8_1 0) then (if (rd x8_1 0) < (x6_2.length : Int) then ((impl_copyList.f (rd_L1 x6_2 (rd x8_1 0))).bind fun t202 => (if t202.length < 17592186044416 then (if t198 < (x6_2.length : Int) then (if x8_2.length < 17592186044416 then (impl_shortest.l1 k2 l1 (x6_2.set (t198 : Int).toNat (t202 ++ [rd l1 x35_2])) (x7_2.set (t198 : Int).toNat true) (x8_2 ++ [t198]) (rd x8_1 0) l1 (l1.length : Int) (wrap64 (x35_2 + 1))) else (none)) else (none)) else (none))) else (none)) else (none))) = some (r1, r2) := by rw [← hbq38] at H; exact H
                   have Nbq38 := jA hbq38
                   clear hbq38
                   by_cases c39 : bq38 = true
                   ·subst c39
                    have H1 : (impl_shortest.l1 k2 l1 x6_2 x7_2 x8_2 (rd x8_1 0) l1 (l1.length : Int) (wrap64 (x35_2 + 1))) = some (r1, r2) := by rw [if_pos rfl] at H; exact H
                    clear H
                    have H := H1
                    clear H1
                    have H' := jA H
                    clear H
                    have p183 : 0 ≤ (x35_2 : Int) := jH za
                    have q183 : x35_2 < (l1.length : Int) := jH za
                    obtain ⟨ad183, e183, hx183_0⟩ := Kd.at_int HR1.out x35_2 p183 q183
                    cases e183
                    replace hx183_0 := (HB.out.cell (jK w _ hx183_0)).trans hx183_0
                    replace p183 := eq_true p183
                    replace q183 := eq_true q183
                    go_wp2_with (first | ((with_reducible refine jd (f := 50) rfl ?_); refine goesL_ (some 41) rfl rfl Try.func50 zr rfl #[.int .i64 (rd x8_1 0)] rfl zm ?_; (with_reducible refine (impl_controllerWith.calls (rd x8_1 0) t184 t185 t186 t187 t188 t189 _ A32.out).mono ?_); rintro e w40 ⟨rfl, hb⟩; refine ⟨_, rfl, ?_⟩; have n0_ := jA (Kd.S_below (by (with_reducible repeat (first | apply Kd.S_alloc | apply Kd.S_drewN | apply Kd.S_drew)); exact HO_6.out) hb); have n1_ := jA (Kd.R_below (zo HO_7) hb); have n2_ := jA (Kd.Q_below (by (with_reducible repeat (first | apply Kd.Q_alloc | apply Kd.Q_drewN | apply Kd.Q_drew)); exact HO_8.out) hb); have n3_ := jA (jP (g := gb166) (o := .cells #[.bool a0_0, .bool a0_1, .bool a0_2, .bool a0_3, .bool a0_4, .int .i64 a0_5] 23 (0, 0)) (zk BK166) hb); have n4_ := jA (jJ (zb1 HB GE166) hb); clear HO_6; clear HO_7; clear HO_8; clear BK166; clear HB; have HO_6 := n0_; have HO_7 := n1_; have HO_8 := n2_; have BK166 := n3_; have HB := n4_; clear n0_ n1_ n2_ n3_ n4_; (try clear hb); (try clear hb2); (try clear hk); (try clear hi)) | ((with_reducible refine jd (f := 67) rfl ?_); refine goesL_ (some 43) rfl rfl Try.func67 zr rfl #[.agg #[.bool t184, .bool t185, .bool t186, .bool t187, .bool t188, .int .i64 t189], .int .i64 (rd l1 x35_2)] rfl zm ?_; (with_reducible refine (impl_giveInput.calls t184 t185 t186 t187 t188 t189 (rd l1 x35_2) t190 t191 t192 t193 t194 t195 t196 _ A33.out).mono ?_); rintro e w41 ⟨rfl, hb⟩; refine ⟨_, rfl, ?_⟩; have n0_ := jA (Kd.S_below (by (with_reducible repeat (first | apply Kd.S_alloc | apply Kd.S_drewN | apply Kd.S_drew)); exact HO_6.out) hb); have n1_ := jA (Kd.R_below (zo HO_7) hb); have n2_ := jA (Kd.Q_below (by (with_reducible repeat (first | apply Kd.Q_alloc | apply Kd.Q_drewN | apply Kd.Q_drew)); exact HO_8.out) hb); have n3_ := jA (jP (g := gb166) (o := .cells #[.bool a0_0, .bool a0_1, .bool a0_2, .bool a0_3, .bool a0_4, .int .i64 a0_5] 23 (0, 0)) (zk BK166) hb); have n4_ := jA (jJ (zb1 HB GE166) hb); clear HO_6; clear HO_7; clear HO_8; clear BK166; clear HB; have HO_6 := n0_; have HO_7 := n1_; have HO_8 := n2_; have BK166 := n3_; have HB := n4_; clear n0_ n1_ n2_ n3_ n4_; (try clear hb); (try clear hb2); (try clear hk); (try clear hi)) | ((with_reducible refine jO (N := 12) rfl ?_); refine jN ?hg (N := 12) ?hd (cs := #[.bool false, .bool false, .bool false, .bool false, .bool false, .int .i64 0]) (t := 23) ?hr ?_; (case hd => rfl); (case hg => rfl); (case hr => first | (go_simp; done) | (go_simp; rfl)); intro gb197 hg w42 hbox hb; have n0_ := jA (Kd.S_below (by (with_reducible repeat (first | apply Kd.S_alloc | apply Kd.S_drewN | apply Kd.S_drew)); exact HO_6.out) hb); have n1_ := jA (Kd.R_below (zo HO_7) hb); have n2_ := jA (Kd.Q_below (by (with_reducible repeat (first | apply Kd.Q_alloc | apply Kd.Q_drewN | apply Kd.Q_drew)); exact HO_8.out) hb); have n3_ := jA (jP (g := gb166) (o := .cells #[.bool a0_0, .bool a0_1, .bool a0_2, .bool a0_3, .bool a0_4, .int .i64 a0_5] 23 (0, 0)) (zk BK166) hb); have n4_ := jA (jJ (zb1 HB GE166) hb); have n5_ := jA (hbox); have n6_ := jA ((by rw [hg]; exact (jG (zb1 HB GE166)) : w.heap.size ≤ gb197)); have n7_ := jA ((by rw [hg]; exact (jG (zb1 HB GE166)) : w.heap.size ≤ gb197)); have n8_ := jA ((by rw [hg]; exact jM (blk_lt (g := gb166) (o := .cells #[.bool a0_0, .bool a0_1, .bool a0_2, .bool a0_3, .bool a0_4, .int .i64 a0_5] 23 (0, 0)) (zk BK166)) : gb166 ≠ gb197)); have n9_ := jA n8_.out.symm; clear HO_6; clear HO_7; clear HO_8; clear BK166; clear HB; have HO_6 := n0_; have HO_7 := n1_; have HO_8 := n2_; have BK166 := n3_; have HB := n4_; have BK197 := n5_; have GW197 := n6_; have GE197 := n7_; have NB166_197 := n8_; have NB197_166 := n9_; clear n0_ n1_ n2_ n3_ n4_ n5_ n6_ n7_ n8_ n9_; clear hb hbox hg; have hnb43 := NB197_166.out; have hnc43 := NB166_197.out; have hcz44_0 : w42.cell? ⟨gb197, 0, none⟩ = some (.bool false) := (jC BK197.out 0).trans rfl; have hcz44_1 : w42.cell? ⟨gb197, 1, none⟩ = some (.bool false) := (jC BK197.out 1).trans rfl; have hcz44_2 : w42.cell? ⟨gb197, 2, none⟩ = some (.bool false) := (jC BK197.out 2).trans rfl; have hcz44_3 : w42.cell? ⟨gb197, 3, none⟩ = some (.bool false) := (jC BK197.out 3).trans rfl; have hcz44_4 : w42.cell? ⟨gb197, 4, none⟩ = some (.bool false) := (jC BK197.out 4).trans rfl; have hcz44_5 : w42.cell? ⟨gb197, 5, none⟩ = some (.int .i64 0) := (jC BK197.out 5).trans rfl; have hfz44_0 := jB BK197.out 0; have hfz44_1 := jB BK197.out 1; have hfz44_2 := jB BK197.out 2; have hfz44_3 := jB BK197.out 3; have hfz44_4 := jB BK197.out 4; have hfz44_5 := jB BK197.out 5) | ((with_reducible refine jd (f := 53) rfl ?_); refine goesL_ (some 47) rfl rfl Try.func53 zr rfl #[.agg #[.bool t190, .bool t191, .bool t192, .bool t193, .bool t194, .int .i64 t195]] rfl zm ?_; (with_reducible refine (impl_numberOf.calls t190 t191 t192 t193 t194 t195 t198 _ A34.out).mono ?_); rintro e w45 ⟨rfl, hb⟩; refine ⟨_, rfl, ?_⟩; have n0_ := jA (Kd.S_below (by (with_reducible repeat (first | apply Kd.S_alloc | apply Kd.S_drewN | apply Kd.S_drew)); exact (Kd.S_mono (Kd.S_far (p := ⟨gb197, 5, none⟩) (Kd.S_far (p := ⟨gb197, 4, none⟩) (Kd.S_far (p := ⟨gb197, 3, none⟩) (Kd.S_far (p := ⟨gb197, 2, none⟩) (Kd.S_far (p := ⟨gb197, 1, none⟩) (Kd.S_far (p := ⟨gb197, 0, none⟩) (Kd.S_types HO_6.out BK197.out (by decide)) (fun _ hk => hk.2) (.bool t190)) (fun _ hk => hk.2) (.bool t191)) (fun _ hk => hk.2) (.bool t192)) (fun _ hk => hk.2) (.bool t193)) (fun _ hk => hk.2) (.bool t194)) (fun _ hk => hk.2) (.int .i64 t195)) (fun _ h_ => h_.1))) hb); have n1_ := jA (Kd.R_below (by (with_reducible repeat (first | apply ja | apply jZ | apply jc)); exact (Kd.R_mono (Kd.R_far (p := ⟨gb197, 5, none⟩) (Kd.R_far (p := ⟨gb197, 4, none⟩) (Kd.R_far (p := ⟨gb197, 3, none⟩) (Kd.R_far (p := ⟨gb197, 2, none⟩) (Kd.R_far (p := ⟨gb197, 1, none⟩) (Kd.R_far (p := ⟨gb197, 0, none⟩) (Kd.R_types HO_7.out BK197.out (by decide)) (fun _ hk => hk.2) (.bool t190)) (fun _ hk => hk.2) (.bool t191)) (fun _ hk => hk.2) (.bool t192)) (fun _ hk => hk.2) (.bool t193)) (fun _ hk => hk.2) (.bool t194)) (fun _ hk => hk.2) (.int .i64 t195)) (fun _ h_ => h_.1))) hb); have n2_ := jA (Kd.Q_below (by (with_reducible repeat (first | apply Kd.Q_alloc | apply Kd.Q_drewN | apply Kd.Q_drew)); exact (Kd.Q_mono (Kd.Q_far (p := ⟨gb197, 5, none⟩) (Kd.Q_far (p := ⟨gb197, 4, none⟩) (Kd.Q_far (p := ⟨gb197, 3, none⟩) (Kd.Q_far (p := ⟨gb197, 2, none⟩) (Kd.Q_far (p := ⟨gb197, 1, none⟩) (Kd.Q_far (p := ⟨gb197, 0, none⟩) (Kd.Q_types HO_8.out BK197.out (by decide)) (fun _ hk => hk.2) (.bool t190)) (fun _ hk => hk.2) (.bool t191)) (fun _ hk => hk.2) (.bool t192)) (fun _ hk => hk.2) (.bool t193)) (fun _ hk => hk.2) (.bool t194)) (fun _ hk => hk.2) (.int .i64 t195)) (fun _ h_ => h_.1))) hb); have n3_ := jA (jP (g := gb166) (o := .cells #[.bool a0_0, .bool a0_1, .bool a0_2, .bool a0_3, .bool a0_4, .int .i64 a0_5] 23 (0, 0)) (by (with_reducible repeat (first | refine jD ?_ _ | refine jF ?_ | refine jE ?_ _)); refine jX ?_ NB166_197.out _; (with_reducible repeat (first | refine jD ?_ _ | refine jF ?_ | refine jE ?_ _)); refine jX ?_ NB166_197.out _; (with_reducible repeat (first | refine jD ?_ _ | refine jF ?_ | refine jE ?_ _)); refine jX ?_ NB166_197.out _; (with_reducible repeat (first | refine jD ?_ _ | refine jF ?_ | refine jE ?_ _)); refine jX ?_ NB166_197.out _; (with_reducible repeat (first | refine jD ?_ _ | refine jF ?_ | refine jE ?_ _)); refine jX ?_ NB166_197.out _; (with_reducible repeat (first | refine jD ?_ _ | refine jF ?_ | refine jE ?_ _)); refine jX ?_ NB166_197.out _; (with_reducible repeat (first | refine jD ?_ _ | refine jF ?_ | refine jE ?_ _)); exact BK166.out) hb); have n4_ := jA (jP (g := gb197) (o := .cells #[.bool t190, .bool t191, .bool t192, .bool t193, .bool t194, .int .i64 t195] 23 (0, 0)) (by (with_reducible repeat (first | refine jD ?_ _ | refine jF ?_ | refine jE ?_ _)); refine jI (cs := #[.bool t190, .bool t191, .bool t192, .bool t193, .bool t194, .int .i64 0]) ?_ 5 _ rfl; (with_reducible repeat (first | refine jD ?_ _ | refine jF ?_ | refine jE ?_ _)); refine jI (cs := #[.bool t190, .bool t191, .bool t192, .bool t193, .bool false, .int .i64 0]) ?_ 4 _ rfl; (with_reducible repeat (first | refine jD ?_ _ | refine jF ?_ | refine jE ?_ _)); refine jI (cs := #[.bool t190, .bool t191, .bool t192, .bool false, .bool false, .int .i64 0]) ?_ 3 _ rfl; (with_reducible repeat (first | refine jD ?_ _ | refine jF ?_ | refine jE ?_ _)); refine jI (cs := #[.bool t190, .bool t191, .bool false, .bool false, .bool false, .int .i64 0]) ?_ 2 _ rfl; (with_reducible repeat (first | refine jD ?_ _ | refine jF ?_ | refine jE ?_ _)); refine jI (cs := #[.bool t190, .bool false, .bool false, .bool false, .bool false, .int .i64 0]) ?_ 1 _ rfl; (with_reducible repeat (first | refine jD ?_ _ | refine jF ?_ | refine jE ?_ _)); refine jI (cs := #[.bool false, .bool false, .bool false, .bool false, .bool false, .int .i64 0]) ?_ 0 _ rfl; (with_reducible repeat (first | refine jD ?_ _ | refine jF ?_ | refine jE ?_ _)); exact BK197.out) hb); have n5_ := jA (jJ (zb2 HB GE166 GE197) hb); clear HO_6; clear HO_7; clear HO_8; clear BK166; clear BK197; clear HB; have HO_6 := n0_; have HO_7 := n1_; have HO_8 := n2_; have BK166 := n3_; have BK197 := n4_; have HB := n5_; clear n0_ n1_ n2_ n3_ n4_ n5_; (try clear hb); (try clear hb2); (try clear hk); (try clear hi); have p199 : 0 ≤ (t198 : Int) := jH za; have q199 : t198 < (x7_2.length : Int) := jH za; obtain ⟨ad199, e199, hx199_0⟩ := Kd.at_bool (Kd.R_reads' HO_7.out).2.2 t198 p199 q199; (try rw [← Nbq38.out] at hx199_0); obtain rfl : (⟨go9, 0, none⟩ : Addr) = ad199 := (by injection e199); (first | simp only [add_plain] at hx199_0 | simp only [add_at] at hx199_0 | simp only [Addr.add, Nat.zero_add] at hx199_0 | skip); replace p199 := eq_true p199; replace q199 := eq_true q199))
                    (try simp only [← hl7_2])
                    go_roundg k2
                    case measure => have := HK1.out; have := HK2.out; omega
                    case rel => exact ⟨(x6_2), (x7_2), (x8_2), (wrap64 (x35_2 + 1)), zz, H', ⟨by have := HK1.out; have := HK2.out; omega⟩, ⟨by (try simp only [hl7_1]); (try simp only [hl7_2]); (with_reducible repeat (first | apply Kd.S_alloc | apply Kd.S_drewN | apply Kd.S_drew)); exact HO_6.out⟩, ⟨by (try simp only [hl7_1]); (try simp only [hl7_2]); (with_reducible repeat (first | apply ja | apply jZ | apply jc)); exact HO_7.out⟩, ⟨by (try simp only [hl7_1]); (try simp only [hl7_2]); (with_reducible repeat (first | apply Kd.Q_alloc | apply Kd.Q_drewN | apply Kd.Q_drew)); exact HO_8.out⟩, ⟨by (try simp only [hl7_1]); (try simp only [hl7_2]); (with_reducible repeat (first | refine jD ?_ _ | refine jF ?_ | refine jE ?_ _)); exact BK166.out⟩, ⟨zb2 HB GE166 GE197⟩⟩
                   ·replace c39 := Bool.eq_false_iff.mpr c39
                    subst c39
                    have H1 : (if 0 ≤ (rd x8_1 0) then (if (rd x8_1 0) < (x6_2.length : Int) then ((impl_copyList.f (rd_L1 x6_2 (rd x8_1 0))).bind fun t202 => (if t202.length < 17592186044416 then (if t198 < (x6_2.length : Int) then (if x8_2.length < 17592186044416 then (impl_shortest.l1 k2 l1 (x6_2.set (t198 : Int).toNat (t202 ++ [rd l1 x35_2])) (x7_2.set (t198 : Int).toNat true) (x8_2 ++ [t198]) (rd x8_1 0) l1 (l1.length : Int) (wrap64 (x35_2 + 1))) else (none)) else (none)) else (none))) else (none)) else (none)) = some (r1, r2) := by rw [if_neg (show ¬ (false = true) by decide)] at H; exact H
                    clear H
                    have H := H1
                    clear H1
                    obtain ⟨y200, hy200⟩ : ∃ y_ : List Bool, y_ = (x7_2.set (t198 : Int).toNat true) := ⟨_, rfl⟩
                    replace H : (if 0 ≤ (rd x8_1 0) then (if (rd x8_1 0) < (x6_2.length : Int) then ((impl_copyList.f (rd_L1 x6_2 (rd x8_1 0))).bind fun t202 => (if t202.length < 17592186044416 then (if t198 < (x6_2.length : Int) then (if x8_2.length < 17592186044416 then (impl_shortest.l1 k2 l1 (x6_2.set (t198 : Int).toNat (t202 ++ [rd l1 x35_2])) y200 (x8_2 ++ [t198]) (rd x8_1 0) l1 (l1.length : Int) (wrap64 (x35_2 + 1))) else (none)) else (none)) else (none))) else (none)) else (none)) = some (r1, r2) := by first | (rw [hy200]; with_reducible exact H) | (have H2_ := (Option.bind_some _ _).symm.trans H; rw [hy200]; with_reducible exact H2_) | (have H2_ := (Option.bind_some _ _).symm.trans H; with_reducible exact H2_) | with_reducible exact H | (rw [hy200]; exact H) | exact H
                    have Ny200 := jA hy200
                    clear hy200
                    by_cases c47 : 0 ≤ (rd x8_1 0)
                    ·rw [if_pos c47] at H
                     have c47b0 : decide (0 ≤ (rd x8_1 0)) = true := jR c47
                     clear c47
                     by_cases c48 : (rd x8_1 0) < (x6_2.length : Int)
                     ·rw [if_pos c48] at H
                      have c48b0 : decide ((rd x8_1 0) < (x6_2.length : Int)) = true := jR c48
                      clear c48
                      replace H := jQ.mp H
                      obtain ⟨t202, A490, H⟩ := H
                      replace H : (if t202.length < 17592186044416 then (if t198 < (x6_2.length : Int) then (if x8_2.length < 17592186044416 then (impl_shortest.l1 k2 l1 (x6_2.set (t198 : Int).toNat (t202 ++ [rd l1 x35_2])) y200 (x8_2 ++ [t198]) (rd x8_1 0) l1 (l1.length : Int) (wrap64 (x35_2 + 1))) else (none)) else (none)) else (none)) = some (r1, r2) := H
                      have A49 := jA A490
                      clear A490
                      by_cases c50 : t202.length < 17592186044416
                      ·rw [if_pos c50] at H
                       have LMc50 := jA c50
                       clear c50
                       obtain ⟨y205, hy205⟩ : ∃ y_ : List Int, y_ = (t202 ++ [rd l1 x35_2]) := ⟨_, rfl⟩
                       replace H : (if t198 < (x6_2.length : Int) then (if x8_2.length < 17592186044416 then (impl_shortest.l1 k2 l1 (x6_2.set (t198 : Int).toNat y205) y200 (x8_2 ++ [t198]) (rd x8_1 0) l1 (l1.length : Int) (wrap64 (x35_2 + 1))) else (none)) else (none)) = some (r1, r2) := by first | (rw [hy205]; with_reducible exact H) | (have H2_ := (Option.bind_some _ _).symm.trans H; rw [hy205]; with_reducible exact H2_) | (have H2_ := (Option.bind_some _ _).symm.trans H; with_reducible exact H2_) | with_reducible exact H | (rw [hy205]; exact H) | exact H
                       have Ny205 := jA hy205
                       clear hy205
                       by_cases c51 : t198 < (x6_2.length : Int)
                       ·rw [if_pos c51] at H
                        have c51b0 : decide (t198 < (x6_2.length : Int)) = true := jR c51
                        clear c51
                        obtain ⟨y208, hy208⟩ : ∃ y_ : List (List Int), y_ = (x6_2.set (t198 : Int).toNat y205) := ⟨_, rfl⟩
                        replace H : (if x8_2.length < 17592186044416 then (impl_shortest.l1 k2 l1 y208 y200 (x8_2 ++ [t198]) (rd x8_1 0) l1 (l1.length : Int) (wrap64 (x35_2 + 1))) else (none)) = some (r1, r2) := by first | (rw [hy208]; with_reducible exact H) | (have H2_ := (Option.bind_some _ _).symm.trans H; rw [hy208]; with_reducible exact H2_) | (have H2_ := (Option.bind_some _ _).symm.trans H; with_reducible exact H2_) | with_reducible exact H | (rw [hy208]; exact H) | exact H
                        have Ny208 := jA hy208
                        clear hy208
                        by_cases c53 : x8_2.length < 17592186044416
                        ·rw [if_pos c53] at H
                         have LMc53 := jA c53
                         clear c53
                         obtain ⟨y209, hy209⟩ : ∃ y_ : List Int, y_ = (x8_2 ++ [t198]) := ⟨_, rfl⟩
                         replace H : (impl_shortest.l1 k2 l1 y208 y200 y209 (rd x8_1 0) l1 (l1.length : Int) (wrap64 (x35_2 + 1))) = some (r1, r2) := by first | (rw [hy209]; with_reducible exact H) | (have H2_ := (Option.bind_some _ _).symm.trans H; rw [hy209]; with_reducible exact H2_) | (have H2_ := (Option.bind_some _ _).symm.trans H; with_reducible exact H2_) | with_reducible exact H | (rw [hy209]; exact H) | exact H
                         have Ny209 := jA hy209
                         clear hy209
                         have H' := jA H
                         clear H
                         have p183 : 0 ≤ (x35_2 : Int) := jH za
                         have q183 : x35_2 < (l1.length : Int) := jH za
                         obtain ⟨ad183, e183, hx183_0⟩ := Kd.at_int HR1.out x35_2 p183 q183
                         cases e183
                         replace hx183_0 := (HB.out.cell (jK w _ hx183_0)).trans hx183_0
                         replace p183 := eq_true p183
                         replace q183 := eq_true q183
                         go_wp2_with (first | ((with_reducible refine jd (f := 50) rfl ?_); refine goesL_ (some 41) rfl rfl Try.func50 zr rfl #[.int .i64 (rd x8_1 0)] rfl zm ?_; (with_reducible refine (impl_controllerWith.calls (rd x8_1 0) t184 t185 t186 t187 t188 t189 _ A32.out).mono ?_); rintro e w54 ⟨rfl, hb⟩; refine ⟨_, rfl, ?_⟩; have n0_ := jA (Kd.S_below (by (with_reducible repeat (first | apply Kd.S_alloc | apply Kd.S_drewN | apply Kd.S_drew)); exact HO_6.out) hb); have n1_ := jA (Kd.R_below (zo HO_7) hb); have n2_ := jA (Kd.Q_below (by (with_reducible repeat (first | apply Kd.Q_alloc | apply Kd.Q_drewN | apply Kd.Q_drew)); exact HO_8.out) hb); have n3_ := jA (jP (g := gb166) (o := .cells #[.bool a0_0, .bool a0_1, .bool a0_2, .bool a0_3, .bool a0_4, .int .i64 a0_5] 23 (0, 0)) (zk BK166) hb); have n4_ := jA (jJ (zb1 HB GE166) hb); clear HO_6; clear HO_7; clear HO_8; clear BK166; clear HB; have HO_6 := n0_; have HO_7 := n1_; have HO_8 := n2_; have BK166 := n3_; have HB := n4_; clear n0_ n1_ n2_ n3_ n4_; (try clear hb); (try clear hb2); (try clear hk); (try clear hi)) | ((with_reducible refine jd (f := 67) rfl ?_); refine goesL_ (some 43) rfl rfl Try.func67 zr rfl #[.agg #[.bool t184, .bool t185, .bool t186, .bool t187, .bool t188, .int .i64 t189], .int .i64 (rd l1 x35_2)] rfl zm ?_; (with_reducible refine (impl_giveInput.calls t184 t185 t186 t187 t188 t189 (rd l1 x35_2) t190 t191 t192 t193 t194 t195 t196 _ A33.out).mono ?_); rintro e w55 ⟨rfl, hb⟩; refine ⟨_, rfl, ?_⟩; have n0_ := jA (Kd.S_below (by (with_reducible repeat (first | apply Kd.S_alloc | apply Kd.S_drewN | apply Kd.S_drew)); exact HO_6.out) hb); have n1_ := jA (Kd.R_below (zo HO_7) hb); have n2_ := jA (Kd.Q_below (by (with_reducible repeat (first | apply Kd.Q_alloc | apply Kd.Q_drewN | apply Kd.Q_drew)); exact HO_8.out) hb); have n3_ := jA (jP (g := gb166) (o := .cells #[.bool a0_0, .bool a0_1, .bool a0_2, .bool a0_3, .bool a0_4, .int .i64 a0_5] 23 (0, 0)) (zk BK166) hb); have n4_ := jA (jJ (zb1 HB GE166) hb); clear HO_6; clear HO_7; clear HO_8; clear BK166; clear HB; have HO_6 := n0_; have HO_7 := n1_; have HO_8 := n2_; have BK166 := n3_; have HB := n4_; clear n0_ n1_ n2_ n3_ n4_; (try clear hb); (try clear hb2); (try clear hk); (try clear hi)) | ((with_reducible refine jO (N := 12) rfl ?_); refine jN ?hg (N := 12) ?hd (cs := #[.bool false, .bool false, .bool false, .bool false, .bool false, .int .i64 0]) (t := 23) ?hr ?_; (case hd => rfl); (case hg => rfl); (case hr => first | (go_simp; done) | (go_simp; rfl)); intro gb197 hg w56 hbox hb; have n0_ := jA (Kd.S_below (by (with_reducible repeat (first | apply Kd.S_alloc | apply Kd.S_drewN | apply Kd.S_drew)); exact HO_6.out) hb); have n1_ := jA (Kd.R_below (zo HO_7) hb); have n2_ := jA (Kd.Q_below (by (with_reducible repeat (first | apply Kd.Q_alloc | apply Kd.Q_drewN | apply Kd.Q_drew)); exact HO_8.out) hb); have n3_ := jA (jP (g := gb166) (o := .cells #[.bool a0_0, .bool a0_1, .bool a0_2, .bool a0_3, .bool a0_4, .int .i64 a0_5] 23 (0, 0)) (zk BK166) hb); have n4_ := jA (jJ (zb1 HB GE166) hb); have n5_ := jA (hbox); have n6_ := jA ((by rw [hg]; exact (jG (zb1 HB GE166)) : w.heap.size ≤ gb197)); have n7_ := jA ((by rw [hg]; exact (jG (zb1 HB GE166)) : w.heap.size ≤ gb197)); have n8_ := jA ((by rw [hg]; exact jM (blk_lt (g := gb166) (o := .cells #[.bool a0_0, .bool a0_1, .bool a0_2, .bool a0_3, .bool a0_4, .int .i64 a0_5] 23 (0, 0)) (zk BK166)) : gb166 ≠ gb197)); have n9_ := jA n8_.out.symm; clear HO_6; clear HO_7; clear HO_8; clear BK166; clear HB; have HO_6 := n0_; have HO_7 := n1_; have HO_8 := n2_; have BK166 := n3_; have HB := n4_; have BK197 := n5_; have GW197 := n6_; have GE197 := n7_; have NB166_197 := n8_; have NB197_166 := n9_; clear n0_ n1_ n2_ n3_ n4_ n5_ n6_ n7_ n8_ n9_; clear hb hbox hg; have hnb57 := NB197_166.out; have hnc57 := NB166_197.out; have hcz58_0 : w56.cell? ⟨gb197, 0, none⟩ = some (.bool false) := (jC BK197.out 0).trans rfl; have hcz58_1 : w56.cell? ⟨gb197, 1, none⟩ = some (.bool false) := (jC BK197.out 1).trans rfl; have hcz58_2 : w56.cell? ⟨gb197, 2, none⟩ = some (.bool false) := (jC BK197.out 2).trans rfl; have hcz58_3 : w56.cell? ⟨gb197, 3, none⟩ = some (.bool false) := (jC BK197.out 3).trans rfl; have hcz58_4 : w56.cell? ⟨gb197, 4, none⟩ = some (.bool false) := (jC BK197.out 4).trans rfl; have hcz58_5 : w56.cell? ⟨gb197, 5, none⟩ = some (.int .i64 0) := (jC BK197.out 5).trans rfl; have hfz58_0 := jB BK197.out 0; have hfz58_1 := jB BK197.out 1; have hfz58_2 := jB BK197.out 2; have hfz58_3 := jB BK197.out 3; have hfz58_4 := jB BK197.out 4; have hfz58_5 := jB BK197.out 5) | ((with_reducible refine jd (f := 53) rfl ?_); refine goesL_ (some 47) rfl rfl Try.func53 zr rfl #[.agg #[.bool t190, .bool t191, .bool t192, .bool t193, .bool t194, .int .i64 t195]] rfl zm ?_; (with_reducible refine (impl_numberOf.calls t190 t191 t192 t193 t194 t195 t198 _ A34.out).mono ?_); rintro e w59 ⟨rfl, hb⟩; refine ⟨_, rfl, ?_⟩; have n0_ := jA (Kd.S_below (by (with_reducible repeat (first | apply Kd.S_alloc | apply Kd.S_drewN | apply Kd.S_drew)); exact (Kd.S_mono (Kd.S_far (p := ⟨gb197, 5, none⟩) (Kd.S_far (p := ⟨gb197, 4, none⟩) (Kd.S_far (p := ⟨gb197, 3, none⟩) (Kd.S_far (p := ⟨gb197, 2, none⟩) (Kd.S_far (p := ⟨gb197, 1, none⟩) (Kd.S_far (p := ⟨gb197, 0, none⟩) (Kd.S_types HO_6.out BK197.out (by decide)) (fun _ hk => hk.2) (.bool t190)) (fun _ hk => hk.2) (.bool t191)) (fun _ hk => hk.2) (.bool t192)) (fun _ hk => hk.2) (.bool t193)) (fun _ hk => hk.2) (.bool t194)) (fun _ hk => hk.2) (.int .i64 t195)) (fun _ h_ => h_.1))) hb); have n1_ := jA (Kd.R_below (by (with_reducible repeat (first | apply ja | apply jZ | apply jc)); exact (Kd.R_mono (Kd.R_far (p := ⟨gb197, 5, none⟩) (Kd.R_far (p := ⟨gb197, 4, none⟩) (Kd.R_far (p := ⟨gb197, 3, none⟩) (Kd.R_far (p := ⟨gb197, 2, none⟩) (Kd.R_far (p := ⟨gb197, 1, none⟩) (Kd.R_far (p := ⟨gb197, 0, none⟩) (Kd.R_types HO_7.out BK197.out (by decide)) (fun _ hk => hk.2) (.bool t190)) (fun _ hk => hk.2) (.bool t191)) (fun _ hk => hk.2) (.bool t192)) (fun _ hk => hk.2) (.bool t193)) (fun _ hk => hk.2) (.bool t194)) (fun _ hk => hk.2) (.int .i64 t195)) (fun _ h_ => h_.1))) hb); have n2_ := jA (Kd.Q_below (by (with_reducible repeat (first | apply Kd.Q_alloc | apply Kd.Q_drewN | apply Kd.Q_drew)); exact (Kd.Q_mono (Kd.Q_far (p := ⟨gb197, 5, none⟩) (Kd.Q_far (p := ⟨gb197, 4, none⟩) (Kd.Q_far (p := ⟨gb197, 3, none⟩) (Kd.Q_far (p := ⟨gb197, 2, none⟩) (Kd.Q_far (p := ⟨gb197, 1, none⟩) (Kd.Q_far (p := ⟨gb197, 0, none⟩) (Kd.Q_types HO_8.out BK197.out (by decide)) (fun _ hk => hk.2) (.bool t190)) (fun _ hk => hk.2) (.bool t191)) (fun _ hk => hk.2) (.bool t192)) (fun _ hk => hk.2) (.bool t193)) (fun _ hk => hk.2) (.bool t194)) (fun _ hk => hk.2) (.int .i64 t195)) (fun _ h_ => h_.1))) hb); have n3_ := jA (jP (g := gb166) (o := .cells #[.bool a0_0, .bool a0_1, .bool a0_2, .bool a0_3, .bool a0_4, .int .i64 a0_5] 23 (0, 0)) (by (with_reducible repeat (first | refine jD ?_ _ | refine jF ?_ | refine jE ?_ _)); refine jX ?_ NB166_197.out _; (with_reducible repeat (first | refine jD ?_ _ | refine jF ?_ | refine jE ?_ _)); refine jX ?_ NB166_197.out _; (with_reducible repeat (first | refine jD ?_ _ | refine jF ?_ | refine jE ?_ _)); refine jX ?_ NB166_197.out _; (with_reducible repeat (first | refine jD ?_ _ | refine jF ?_ | refine jE ?_ _)); refine jX ?_ NB166_197.out _; (with_reducible repeat (first | refine jD ?_ _ | refine jF ?_ | refine jE ?_ _)); refine jX ?_ NB166_197.out _; (with_reducible repeat (first | refine jD ?_ _ | refine jF ?_ | refine jE ?_ _)); refine jX ?_ NB166_197.out _; (with_reducible repeat (first | refine jD ?_ _ | refine jF ?_ | refine jE ?_ _)); exact BK166.out) hb); have n4_ := jA (jP (g := gb197) (o := .cells #[.bool t190, .bool t191, .bool t192, .bool t193, .bool t194, .int .i64 t195] 23 (0, 0)) (by (with_reducible repeat (first | refine jD ?_ _ | refine jF ?_ | refine jE ?_ _)); refine jI (cs := #[.bool t190, .bool t191, .bool t192, .bool t193, .bool t194, .int .i64 0]) ?_ 5 _ rfl; (with_reducible repeat (first | refine jD ?_ _ | refine jF ?_ | refine jE ?_ _)); refine jI (cs := #[.bool t190, .bool t191, .bool t192, .bool t193, .bool false, .int .i64 0]) ?_ 4 _ rfl; (with_reducible repeat (first | refine jD ?_ _ | refine jF ?_ | refine jE ?_ _)); refine jI (cs := #[.bool t190, .bool t191, .bool t192, .bool false, .bool false, .int .i64 0]) ?_ 3 _ rfl; (with_reducible repeat (first | refine jD ?_ _ | refine jF ?_ | refine jE ?_ _)); refine jI (cs := #[.bool t190, .bool t191, .bool false, .bool false, .bool false, .int .i64 0]) ?_ 2 _ rfl; (with_reducible repeat (first | refine jD ?_ _ | refine jF ?_ | refine jE ?_ _)); refine jI (cs := #[.bool t190, .bool false, .bool false, .bool false, .bool false, .int .i64 0]) ?_ 1 _ rfl; (with_reducible repeat (first | refine jD ?_ _ | refine jF ?_ | refine jE ?_ _)); refine jI (cs := #[.bool false, .bool false, .bool false, .bool false, .bool false, .int .i64 0]) ?_ 0 _ rfl; (with_reducible repeat (first | refine jD ?_ _ | refine jF ?_ | refine jE ?_ _)); exact BK197.out) hb); have n5_ := jA (jJ (zb2 HB GE166 GE197) hb); clear HO_6; clear HO_7; clear HO_8; clear BK166; clear BK197; clear HB; have HO_6 := n0_; have HO_7 := n1_; have HO_8 := n2_; have BK166 := n3_; have BK197 := n4_; have HB := n5_; clear n0_ n1_ n2_ n3_ n4_ n5_; (try clear hb); (try clear hb2); (try clear hk); (try clear hi); have p199 : 0 ≤ (t198 : Int) := jH za; have q199 : t198 < (x7_2.length : Int) := jH za; obtain ⟨ad199, e199, hx199_0⟩ := Kd.at_bool (Kd.R_reads' HO_7.out).2.2 t198 p199 q199; (try rw [← Nbq38.out] at hx199_0); obtain rfl : (⟨go9, 0, none⟩ : Addr) = ad199 := (by injection e199); (first | simp only [add_plain] at hx199_0 | simp only [add_at] at hx199_0 | simp only [Addr.add, Nat.zero_add] at hx199_0 | skip); replace p199 := eq_true p199; replace q199 := eq_true q199; have p46 : 0 ≤ (t198 : Int) := jH za; have q46 : (t198 : Int) < ((x7_2.length : Int) : Int) := jH za; obtain ⟨hx46_0, hf46_0⟩ := Kd.R_celln false HO_7.out (t198 : Int) p46 q46; replace p46 := eq_true p46; replace q46 := eq_true q46; obtain ⟨hy60_, hz60_⟩ := Kd.R_celln false HO_7.out (t198 : Int) (jH za) (jH za); have HP60 := Kd.R_putg HO_7.out (t198 : Int) true) | ((with_reducible refine gate_store (t := 4) (p := 59) rfl ?_); refine store_event (t := 4) (p := 59) (v := ?vo_w61) (w1 := (w59.setCell ⟨go9, (t198 : Int).toNat, none⟩ (.bool true))) ?hg ?ho ?hn ?hr ?_; (case ho => rfl); (case hg => rfl); (case hn => rfl); (case hr => first | (go_simp; done) | (go_simp; rfl)); intro w61 hw; have hg : w59.grownBy w61 (some go9) := (by rw [hw]; exact HP60.2); have hp_ : Kd.R Kd.bool 4 w61 w.heap.size (fun _ => True) (.slice (some ⟨go9, 0, none⟩) x7_2.length co9) y200 := (by rw [hw, Ny200.out]; exact HP60.1); clear HP60; have n0_ := jA (Kd.S_over' (v := (.slice (some ⟨go9, 0, none⟩) x7_2.length co9)) (by (with_reducible repeat (first | apply Kd.S_alloc | apply Kd.S_drewN | apply Kd.S_drew)); exact HO_6.out) (Kd.R_typed HO_7.out) (by decide) hg); have n1_ := jA (hp_); have n2_ := jA (Kd.Q_over' (v := (.slice (some ⟨go9, 0, none⟩) x7_2.length co9)) (by (with_reducible repeat (first | apply Kd.Q_alloc | apply Kd.Q_drewN | apply Kd.Q_drew)); exact HO_8.out) (Kd.R_typed HO_7.out) (by decide) hg); have n3_ := jA (blk_grown (g := gb166) (o := .cells #[.bool a0_0, .bool a0_1, .bool a0_2, .bool a0_3, .bool a0_4, .int .i64 a0_5] 23 (0, 0)) (zk BK166) hg (Kd.R_ne HO_7.out BK166.out (by decide))); have n4_ := jA (blk_grown (g := gb197) (o := .cells #[.bool t190, .bool t191, .bool t192, .bool t193, .bool t194, .int .i64 t195] 23 (0, 0)) (zk BK197) hg (Kd.R_ne HO_7.out BK197.out (by decide))); have n5_ := jA ((by rw [hw]; exact below_set (HB.out) GB9.out : Below w.heap.size w w61)); clear HO_6; clear HO_7; clear HO_8; clear BK166; clear BK197; clear HB; have HO_6 := n0_; have HO_7 := n1_; have HO_8 := n2_; have BK166 := n3_; have BK197 := n4_; have HB := n5_; clear n0_ n1_ n2_ n3_ n4_ n5_; clear hg hw hp_; obtain ⟨Ao62, co62, eo62⟩ := Kd.S_slice HO_6.out; subst eo62; have p201 : 0 ≤ ((rd x8_1 0) : Int) := jH za; have q201 : (rd x8_1 0) < (x6_2.length : Int) := jH za; obtain ⟨ad201, A201_0, c201_0, e201, hx201_0, hl201_0, hi201_0⟩ := at_L1 (Kd.S_reads' HO_6.out).2.2 (rd x8_1 0) p201 q201; cases e201; obtain ⟨ce201, hce201, hMe201, hcc201⟩ := Kd.S_get HO_6.out [] (rd x8_1 0) p201 (by first | exact q201 | exact jH za | (have e_ := (Kd.S_reads' HO_6.out).1; omega)); obtain ⟨ve201_0, rfl, ge201_0⟩ := hMe201; have hv201_0 := hcc201 0 _ rfl; rw [Nat.add_zero, show ((Kd.slice 2 (Kd.int .i64))).sz = 1 from rfl, Nat.mul_one] at hv201_0; replace hv201_0 := jT (hv201_0.symm.trans hx201_0); rw [hv201_0] at ge201_0; have HL201_0 := jA (show Kd.R (Kd.int .i64) 2 _ _ _ _ (rd_L1 x6_2 (rd x8_1 0)) from ge201_0); clear hv201_0 ge201_0; clear hcc201 hce201; have HR201_0 := jA hi201_0; have HC201_0 := jA hl201_0; clear hi201_0 hl201_0; replace p201 := eq_true p201; replace q201 := eq_true q201) | ((with_reducible refine jd (f := 85) rfl ?_); refine goesL_ (some 66) rfl rfl Try.func85 zr rfl #[.slice A201_0 (rd_L1 x6_2 (rd x8_1 0)).length c201_0] rfl zm ?_; (with_reducible refine (impl_copyList.calls _ _ (rd_L1 x6_2 (rd x8_1 0)) t202 _ ?side1 ?side2 A49.out).mono ?_); (case side1 => repeat (first | exact (by repeat (first | (with_reducible exact HR201_0.out) | (with_reducible refine Kd.C_alloc ?_ _) | (with_reducible refine Kd.C_drewN ?_ _) | (with_reducible refine Kd.C_drew ?_) | exact HR201_0.out)) | (with_reducible refine Kd.C_alloc ?_ _) | (with_reducible refine Kd.C_drewN ?_ _) | (with_reducible refine Kd.C_drew ?_))); (case side2 => exact HC201_0.out); rintro e w63 ⟨v203, rfl, ho0, hb⟩; refine ⟨_, rfl, ?_⟩; have n0_ := jA (Kd.S_elder' (by (with_reducible repeat (first | apply Kd.S_alloc | apply Kd.S_drewN | apply Kd.S_drew)); exact HO_6.out) (Kd.R_base ho0) hb); have n1_ := jA (Kd.R_below (zo HO_7) hb); have n2_ := jA (Kd.Q_elder' (by (with_reducible repeat (first | apply Kd.Q_alloc | apply Kd.Q_drewN | apply Kd.Q_drew)); exact HO_8.out) (Kd.R_base ho0) hb); have n3_ := jA (Kd.R_elder' (by (with_reducible repeat (first | apply ja | apply jZ | apply jc)); exact HL201_0.out) (Kd.R_base ho0) hb); have n4_ := jA (Kd.R_lower (Kd.R_new' (Kd.R_new' ho0 (Kd.Q_lt (by (with_reducible repeat (first | apply Kd.Q_alloc | apply Kd.Q_drewN | apply Kd.Q_drew)); exact HO_8.out))) (Kd.R_lt (by (with_reducible repeat (first | apply ja | apply jZ | apply jc)); exact HL201_0.out))) (jG (zb2 HB GE166 GE197))); have n5_ := jA (jP (g := gb166) (o := .cells #[.bool a0_0, .bool a0_1, .bool a0_2, .bool a0_3, .bool a0_4, .int .i64 a0_5] 23 (0, 0)) (zk BK166) hb); have n6_ := jA (jP (g := gb197) (o := .cells #[.bool t190, .bool t191, .bool t192, .bool t193, .bool t194, .int .i64 t195] 23 (0, 0)) (zk BK197) hb); have n7_ := jA (Kd.C_below (by repeat (first | (with_reducible exact HR201_0.out) | (with_reducible refine Kd.C_alloc ?_ _) | (with_reducible refine Kd.C_drewN ?_ _) | (with_reducible refine Kd.C_drew ?_) | exact HR201_0.out)) hb); have n8_ := jA (jJ (zb2 HB GE166 GE197) hb); clear HO_6; clear HO_7; clear HO_8; clear HL201_0; clear BK166; clear BK197; clear HR201_0; clear HB; have HO_6 := n0_; have HO_7 := n1_; have HO_8 := n2_; have HL201_0 := n3_; have HO204 := n4_; have BK166 := n5_; have BK197 := n6_; have HR201_0 := n7_; have HB := n8_; clear n0_ n1_ n2_ n3_ n4_ n5_ n6_ n7_ n8_; (try clear hb); (try clear hb2); (try clear hk); (try clear hi); (try clear ho0)) | ((with_reducible refine gate_builtin (b := .append) (xs := #[.tmp 66, .tmp 68]) rfl ?_); at_builtin; refine Kd.R_append (Kd.int .i64) (w0 := w) w.heap.size rfl (.tmp 66) (.tmp 68) 35 2 (.int .i64 0) 8 rfl Try.underlying35 info2 rfl (by decide) (by omega) v203 t202 (rd l1 x35_2) [.int .i64 (rd l1 x35_2)] (fun k_ => some k_ ≠ (u8 : Value).ownBlock ∧ some k_ ≠ (.slice A201_0 (rd_L1 x6_2 (rd x8_1 0)).length c201_0 : Value).ownBlock) (fun _ => False) rfl rfl ?aP (fun _ hk => hk.elim) ?aF ?aO ?aB ?aS ?aL ?_; (case aP => exact rfl); (case aB => exact (zb2 HB GE166 GE197)); (case aF => exact (fun k_ hk => ⟨Kd.fresh' (Kd.Q_lt (by (with_reducible repeat (first | apply Kd.Q_alloc | apply Kd.Q_drewN | apply Kd.Q_drew)); exact HO_8.out)) k_ hk, Kd.fresh' (Kd.R_lt (by (with_reducible repeat (first | apply ja | apply jZ | apply jc)); exact HL201_0.out)) k_ hk⟩)); (case aO => exact (by (with_reducible repeat (first | apply ja | apply jZ | apply jc)); exact Kd.R_mono HO204.out (fun _ hk => ⟨hk.1.2, hk.2⟩))); (case aS => exact (jG (zb2 HB GE166 GE197))); (case aL => have := LMc50.out; omega); intro v206 w64 ho hb hg hat; rw [← Ny205.out] at ho; have n0_ := jA (Kd.S_after (ok := (fun k_ => some k_ ≠ (u8 : Value).ownBlock)) (by (with_reducible repeat (first | apply Kd.S_alloc | apply Kd.S_drewN | apply Kd.S_drew)); exact HO_6.out) hg hat); have n1_ := jA (Kd.R_over' (zo HO_7) (Kd.R_typed (zo HO204)) (by decide) hg); have n2_ := jA (Kd.Q_after (ok := (fun _ => True)) (by (with_reducible repeat (first | apply Kd.Q_alloc | apply Kd.Q_drewN | apply Kd.Q_drew)); exact HO_8.out) hg hat); have n3_ := jA (blk_grown (g := gb166) (o := .cells #[.bool a0_0, .bool a0_1, .bool a0_2, .bool a0_3, .bool a0_4, .int .i64 a0_5] 23 (0, 0)) (zk BK166) hg (Kd.R_ne HO204.out BK166.out (by decide))); have n4_ := jA (blk_grown (g := gb197) (o := .cells #[.bool t190, .bool t191, .bool t192, .bool t193, .bool t194, .int .i64 t195] 23 (0, 0)) (zk BK197) hg (Kd.R_ne HO204.out BK197.out (by decide))); have n5_ := jA (Kd.R_after (ok := (fun k_ => some k_ ≠ (.slice (some ad201) x6_2.length co62 : Value).ownBlock ∧ some k_ ≠ (u8 : Value).ownBlock)) (by (with_reducible repeat (first | apply ja | apply jZ | apply jc)); exact Kd.R_mono HL201_0.out (fun _ hk => ⟨⟨hk.1.2, hk.1.1⟩, hk.2⟩)) hg hat); have n6_ := jA (hb); have n7_ := jA (ho); clear HO_6; clear HO_7; clear HO_8; clear BK166; clear BK197; clear HL201_0; clear HB; clear HO204; have HO_6 := n0_; have HO_7 := n1_; have HO_8 := n2_; have BK166 := n3_; have BK197 := n4_; have HL201_0 := n5_; have HB := n6_; have HO207 := n7_; clear n0_ n1_ n2_ n3_ n4_ n5_ n6_ n7_; clear ho hb hg hat; have p52 : 0 ≤ (t198 : Int) := jH za; have q52 : (t198 : Int) < ((x6_2.length : Int) : Int) := jH za; obtain ⟨go52, co52, eo52, gb52, gl52, cl52, HG52⟩ := Kd.S_form HO_6.out (by omega); (first | cases eo52 | (injection eo52 with ea_ en_ ec_; (first | subst ea_ | (injection ea_ with ea_; subst ea_)); subst ec_; clear en_)); have GB52 := jA gb52; have GG52 := jA HG52; clear gb52 gl52 HG52; (first | simp only [add_plain] at hx201_0 | skip); obtain ⟨_, ce52, hcl52, hM52, hcc52, hfr52, _, _⟩ := Kd.S_elem HO_6.out [] (t198 : Int) p52 q52; obtain ⟨ve52_0, rfl, ge52_0⟩ := hM52; have hx52_0 := hcc52 0 _ rfl; have hf52_0 := hfr52 0; (try simp only [show ((Kd.slice 2 (Kd.int .i64))).sz = 1 from rfl, Nat.mul_one, Nat.add_zero] at hx52_0); (try simp only [show ((Kd.slice 2 (Kd.int .i64))).sz = 1 from rfl, Nat.mul_one, Nat.add_zero] at hf52_0); (try clear hcl52); (try clear hcc52); (try clear hfr52); (try clear hM52); replace p52 := eq_true p52; replace q52 := eq_true q52; have HX65 := jA (show Kd.S (Kd.slice 2 (Kd.int .i64)) 35 w64 w.heap.size (fun k_ => ((fun k_ => some k_ ≠ (u8 : Value).ownBlock)) k_ ∧ ¬ ((fun k_ => some k_ = (v206 : Value).ownBlock)) k_) (.slice (some ⟨go52, 0, none⟩) x6_2.length co62) x6_2 from (by (with_reducible repeat (first | apply Kd.S_alloc | apply Kd.S_drewN | apply Kd.S_drew)); exact Kd.S_mono HO_6.out (fun k_ hk => ⟨hk.1, fun e_ => hk.2 e_⟩))); obtain ⟨oki65, ce65, hcl65, hM65, hcc65, hfr65, hoki65, hH65⟩ := Kd.S_elem HX65.out [] (t198 : Int) (jH za) (by have h_ : (t198 : Int) < ((x6_2.length : Int) : Int) := jH za; first | exact h_ | (have e_ := (Kd.S_reads' HO_6.out).1; omega) | simpa using h_); obtain ⟨ve65_0, rfl, ge65_0⟩ := hM65; have HP65 := Kd.S_seg hH65 (jH za) (by have h_ : (t198 : Int) < ((x6_2.length : Int) : Int) := jH za; first | exact h_ | (have e_ := (Kd.S_reads' HO_6.out).1; omega) | simpa using h_) (seg := [v206]) (j := 0) (show 1 ≤ 1 from by decide) (x' := y205) (Kd.M_row (Kd.R_mono (Kd.R_tight rfl (Kd.R_mono (ok' := fun k_ => ((fun k_ => some k_ ≠ (u8 : Value).ownBlock)) k_ ∧ k_ ≠ go52) (Kd.R_apart' (HO207.out) (Kd.S_typed HO_6.out) (by decide)) (fun k_ hk => ⟨hk.1.1, fun e_ => (hk.2) (by rw [e_]; rfl)⟩))) (fun _ h_ => Or.inr (h_)))) (fun _ hk => hk) (fun k_ hk_ => ((Kd.R_mono (ok' := fun k_ => ((fun k_ => some k_ ≠ (u8 : Value).ownBlock)) k_ ∧ k_ ≠ go52) (Kd.R_apart' (HO207.out) (Kd.S_typed HO_6.out) (by decide)) (fun k_ hk => ⟨hk.1.1, fun e_ => (hk.2) (by rw [e_]; rfl)⟩))).1 k_ hk_.symm); have hx65_0 := hcc65 0 _ rfl; (try simp only [show ((Kd.slice 2 (Kd.int .i64))).sz = 1 from rfl, Nat.mul_one, Nat.add_zero] at hx65_0); have hf65_0 := hfr65 0; (try simp only [show ((Kd.slice 2 (Kd.int .i64))).sz = 1 from rfl, Nat.mul_one, Nat.add_zero] at hf65_0); (try clear hcl65); (try clear hcc65); (try clear hfr65); (try clear hM65); (try clear hoki65); (try clear hH65); (try simp only [show ((Kd.slice 2 (Kd.int .i64))).sz = 1 from rfl, Nat.mul_one, Nat.add_zero] at HP65)) | ((with_reducible refine gate_store (t := 35) (p := 70) rfl ?_); refine store_event (t := 35) (p := 70) (v := ?vo_w66) (w1 := (w64.setCell ⟨go52, (t198 : Int).toNat, none⟩ (v206))) ?hg ?ho ?hn ?hr ?_; (case ho => rfl); (case hg => rfl); (case hn => rfl); (case hr => obtain ⟨A_, c_, e_⟩ := Kd.R_slice HO207.out; first | (go_simp; done) | (go_simp; rfl)); intro w66 hw; have hg : w64.grownBy w66 (some go52) := (by rw [hw]; exact HP65.2); have hp_ : Kd.S (Kd.slice 2 (Kd.int .i64)) 35 w66 w.heap.size (fun k_ => some k_ ≠ (u8 : Value).ownBlock) (.slice (some ⟨go52, 0, none⟩) x6_2.length co62) y208 := (by rw [hw, Ny208.out]; exact HP65.1); clear HP65; have n0_ := jA (hp_); have n1_ := jA (Kd.R_over' (v := (.slice (some ⟨go52, 0, none⟩) x6_2.length co62)) (zo HO_7) (Kd.S_typed HO_6.out) (by decide) hg); have n2_ := jA (Kd.Q_over' (v := (.slice (some ⟨go52, 0, none⟩) x6_2.length co62)) (by (with_reducible repeat (first | apply Kd.Q_alloc | apply Kd.Q_drewN | apply Kd.Q_drew)); exact HO_8.out) (Kd.S_typed HO_6.out) (by decide) hg); have n3_ := jA (blk_grown (g := gb166) (o := .cells #[.bool a0_0, .bool a0_1, .bool a0_2, .bool a0_3, .bool a0_4, .int .i64 a0_5] 23 (0, 0)) (zk BK166) hg (Kd.S_ne HO_6.out BK166.out (by decide))); have n4_ := jA (blk_grown (g := gb197) (o := .cells #[.bool t190, .bool t191, .bool t192, .bool t193, .bool t194, .int .i64 t195] 23 (0, 0)) (zk BK197) hg (Kd.S_ne HO_6.out BK197.out (by decide))); have n5_ := jA (Kd.R_after (v := (.slice (some ⟨go52, 0, none⟩) x6_2.length co62)) (v1 := (.slice (some ⟨go52, 0, none⟩) x6_2.length co62)) (ok := (fun k_ => some k_ ≠ (u8 : Value).ownBlock ∧ some k_ ≠ (v206 : Value).ownBlock)) (by (with_reducible repeat (first | apply ja | apply jZ | apply jc)); exact Kd.R_mono HL201_0.out (fun _ hk => ⟨⟨hk.1.2, hk.2⟩, hk.1.1⟩)) hg (.inl rfl)); have n6_ := jA ((by rw [hw]; exact below_set (HB.out) GB52.out : Below w.heap.size w w66)); clear HO_6; clear HO_7; clear HO_8; clear BK166; clear BK197; clear HL201_0; clear HB; clear HO207; have HO_6 := n0_; have HO_7 := n1_; have HO_8 := n2_; have BK166 := n3_; have BK197 := n4_; have HL201_0 := n5_; have HB := n6_; clear n0_ n1_ n2_ n3_ n4_ n5_ n6_; clear hg hw hp_) | ((with_reducible refine gate_builtin (b := .append) (xs := #[.tmp 71, .tmp 73]) rfl ?_); at_builtin; refine Kd.Q_append (Kd.int .i64) (w0 := w) w.heap.size rfl (.tmp 71) (.tmp 73) 35 2 (.int .i64 0) 8 rfl Try.underlying35 info2 rfl (by decide) (by omega) u8 x8_2 t198 [.int .i64 t198] (fun _ => True) (fun _ => False) rfl rfl ?aP (fun _ hk => hk.elim) ?aF ?aO ?aB ?aS ?aL ?_; (case aP => exact rfl); (case aB => exact (zb2 HB GE166 GE197)); (case aF => exact (fun _ _ => trivial)); (case aO => exact (by (with_reducible repeat (first | apply Kd.Q_alloc | apply Kd.Q_drewN | apply Kd.Q_drew)); exact Kd.Q_mono HO_8.out (fun _ hk => trivial))); (case aS => exact (jG (zb2 HB GE166 GE197))); (case aL => have := LMc53.out; omega); intro v210 w67 ho hb hg hat; rw [← Ny209.out] at ho; have n0_ := jA (Kd.S_after (ok := (fun _ => True)) (by (with_reducible repeat (first | apply Kd.S_alloc | apply Kd.S_drewN | apply Kd.S_drew)); exact Kd.S_mono HO_6.out (fun _ hk => ⟨trivial, hk⟩)) hg hat); have n1_ := jA (Kd.R_over' (zo HO_7) (Kd.Q_typed (by (with_reducible repeat (first | apply Kd.Q_alloc | apply Kd.Q_drewN | apply Kd.Q_drew)); exact HO_8.out)) (by decide) hg); have n2_ := jA (blk_grown (g := gb166) (o := .cells #[.bool a0_0, .bool a0_1, .bool a0_2, .bool a0_3, .bool a0_4, .int .i64 a0_5] 23 (0, 0)) (zk BK166) hg (Kd.Q_ne HO_8.out BK166.out (by decide))); have n3_ := jA (blk_grown (g := gb197) (o := .cells #[.bool t190, .bool t191, .bool t192, .bool t193, .bool t194, .int .i64 t195] 23 (0, 0)) (zk BK197) hg (Kd.Q_ne HO_8.out BK197.out (by decide))); have n4_ := jA (Kd.R_after (ok := (fun k_ => some k_ ≠ (.slice (some ⟨go52, 0, none⟩) x6_2.length co62 : Value).ownBlock)) (by (with_reducible repeat (first | apply ja | apply jZ | apply jc)); exact Kd.R_mono HL201_0.out (fun _ hk => ⟨hk.2, hk.1.1⟩)) hg hat); have n5_ := jA (hb); have n6_ := jA (ho); clear HO_6; clear HO_7; clear BK166; clear BK197; clear HL201_0; clear HB; clear HO_8; have HO_6 := n0_; have HO_7 := n1_; have BK166 := n2_; have BK197 := n3_; have HL201_0 := n4_; have HB := n5_; have HO211 := n6_; clear n0_ n1_ n2_ n3_ n4_ n5_ n6_; clear ho hb hg hat))
                         (try simp only [← hl7_2])
                         go_roundg k2
                         case measure => have := HK1.out; have := HK2.out; omega
                         case rel => exact ⟨(y208), (y200), (y209), (wrap64 (x35_2 + 1)), zz, H', ⟨by have := HK1.out; have := HK2.out; omega⟩, ⟨by (try simp only [hl7_1]); (try simp only [hl7_2]); (with_reducible repeat (first | apply Kd.S_alloc | apply Kd.S_drewN | apply Kd.S_drew)); exact Kd.S_mono HO_6.out (fun _ hk => hk.2)⟩, ⟨by (try simp only [hl7_1]); (try simp only [hl7_2]); (with_reducible repeat (first | apply ja | apply jZ | apply jc)); exact HO_7.out⟩, ⟨by (try simp only [hl7_1]); (try simp only [hl7_2]); (with_reducible repeat (first | apply Kd.Q_alloc | apply Kd.Q_drewN | apply Kd.Q_drew)); exact HO211.out⟩, ⟨by (try simp only [hl7_1]); (try simp only [hl7_2]); (with_reducible repeat (first | refine jD ?_ _ | refine jF ?_ | refine jE ?_ _)); exact BK166.out⟩, ⟨zb2 HB GE166 GE197⟩⟩
                        ·rw [if_neg c53] at H
                         exact absurd H (by simp)
                       ·rw [if_neg c51] at H
                        exact absurd H (by simp)
                      ·rw [if_neg c50] at H
                       exact absurd H (by simp)
                     ·rw [if_neg c48] at H
                      exact absurd H (by simp)
                    ·rw [if_neg c47] at H
                     exact absurd H (by simp)
                  ·rw [if_neg c37] at H
                   exact absurd H (by simp)
                 ·rw [if_neg c36] at H
                  exact absurd H (by simp)
                ·rw [if_neg c35] at H
                 have c35b0 : (t196 == 0) = false := beq_eq_false_iff_ne.mpr c35
                 have c35b1 : (t196 != 0) = true := bne_iff_ne.mpr c35
                 have H' := jA H
                 clear H
                 have p183 : 0 ≤ (x35_2 : Int) := jH za
                 have q183 : x35_2 < (l1.length : Int) := jH za
                 obtain ⟨ad183, e183, hx183_0⟩ := Kd.at_int HR1.out x35_2 p183 q183
                 cases e183
                 replace hx183_0 := (HB.out.cell (jK w _ hx183_0)).trans hx183_0
                 replace p183 := eq_true p183
                 replace q183 := eq_true q183
                 go_wp2_with (first | ((with_reducible refine jd (f := 50) rfl ?_); refine goesL_ (some 41) rfl rfl Try.func50 zr rfl #[.int .i64 (rd x8_1 0)] rfl zm ?_; (with_reducible refine (impl_controllerWith.calls (rd x8_1 0) t184 t185 t186 t187 t188 t189 _ A32.out).mono ?_); rintro e w68 ⟨rfl, hb⟩; refine ⟨_, rfl, ?_⟩; have n0_ := jA (Kd.S_below (by (with_reducible repeat (first | apply Kd.S_alloc | apply Kd.S_drewN | apply Kd.S_drew)); exact HO_6.out) hb); have n1_ := jA (Kd.R_below (zo HO_7) hb); have n2_ := jA (Kd.Q_below (by (with_reducible repeat (first | apply Kd.Q_alloc | apply Kd.Q_drewN | apply Kd.Q_drew)); exact HO_8.out) hb); have n3_ := jA (jP (g := gb166) (o := .cells #[.bool a0_0, .bool a0_1, .bool a0_2, .bool a0_3, .bool a0_4, .int .i64 a0_5] 23 (0, 0)) (zk BK166) hb); have n4_ := jA (jJ (zb1 HB GE166) hb); clear HO_6; clear HO_7; clear HO_8; clear BK166; clear HB; have HO_6 := n0_; have HO_7 := n1_; have HO_8 := n2_; have BK166 := n3_; have HB := n4_; clear n0_ n1_ n2_ n3_ n4_; (try clear hb); (try clear hb2); (try clear hk); (try clear hi)) | ((with_reducible refine jd (f := 67) rfl ?_); refine goesL_ (some 43) rfl rfl Try.func67 zr rfl #[.agg #[.bool t184, .bool t185, .bool t186, .bool t187, .bool t188, .int .i64 t189], .int .i64 (rd l1 x35_2)] rfl zm ?_; (with_reducible refine (impl_giveInput.calls t184 t185 t186 t187 t188 t189 (rd l1 x35_2) t190 t191 t192 t193 t194 t195 t196 _ A33.out).mono ?_); rintro e w69 ⟨rfl, hb⟩; refine ⟨_, rfl, ?_⟩; have n0_ := jA (Kd.S_below (by (with_reducible repeat (first | apply Kd.S_alloc | apply Kd.S_drewN | apply Kd.S_drew)); exact HO_6.out) hb); have n1_ := jA (Kd.R_below (zo HO_7) hb); have n2_ := jA (Kd.Q_below (by (with_reducible repeat (first | apply Kd.Q_alloc | apply Kd.Q_drewN | apply Kd.Q_drew)); exact HO_8.out) hb); have n3_ := jA (jP (g := gb166) (o := .cells #[.bool a0_0, .bool a0_1, .bool a0_2, .bool a0_3, .bool a0_4, .int .i64 a0_5] 23 (0, 0)) (zk BK166) hb); have n4_ := jA (jJ (zb1 HB GE166) hb); clear HO_6; clear HO_7; clear HO_8; clear BK166; clear HB; have HO_6 := n0_; have HO_7 := n1_; have HO_8 := n2_; have BK166 := n3_; have HB := n4_; clear n0_ n1_ n2_ n3_ n4_; (try clear hb); (try clear hb2); (try clear hk); (try clear hi)) | ((with_reducible refine jO (N := 12) rfl ?_); refine jN ?hg (N := 12) ?hd (cs := #[.bool false, .bool false, .bool false, .bool false, .bool false, .int .i64 0]) (t := 23) ?hr ?_; (case hd => rfl); (case hg => rfl); (case hr => first | (go_simp; done) | (go_simp; rfl)); intro gb197 hg w70 hbox hb; have n0_ := jA (Kd.S_below (by (with_reducible repeat (first | apply Kd.S_alloc | apply Kd.S_drewN | apply Kd.S_drew)); exact HO_6.out) hb); have n1_ := jA (Kd.R_below (zo HO_7) hb); have n2_ := jA (Kd.Q_below (by (with_reducible repeat (first | apply Kd.Q_alloc | apply Kd.Q_drewN | apply Kd.Q_drew)); exact HO_8.out) hb); have n3_ := jA (jP (g := gb166) (o := .cells #[.bool a0_0, .bool a0_1, .bool a0_2, .bool a0_3, .bool a0_4, .int .i64 a0_5] 23 (0, 0)) (zk BK166) hb); have n4_ := jA (jJ (zb1 HB GE166) hb); have n5_ := jA (hbox); have n6_ := jA ((by rw [hg]; exact (jG (zb1 HB GE166)) : w.heap.size ≤ gb197)); have n7_ := jA ((by rw [hg]; exact (jG (zb1 HB GE166)) : w.heap.size ≤ gb197)); have n8_ := jA ((by rw [hg]; exact jM (blk_lt (g := gb166) (o := .cells #[.bool a0_0, .bool a0_1, .bool a0_2, .bool a0_3, .bool a0_4, .int .i64 a0_5] 23 (0, 0)) (zk BK166)) : gb166 ≠ gb197)); have n9_ := jA n8_.out.symm; clear HO_6; clear HO_7; clear HO_8; clear BK166; clear HB; have HO_6 := n0_; have HO_7 := n1_; have HO_8 := n2_; have BK166 := n3_; have HB := n4_; have BK197 := n5_; have GW197 := n6_; have GE197 := n7_; have NB166_197 := n8_; have NB197_166 := n9_; clear n0_ n1_ n2_ n3_ n4_ n5_ n6_ n7_ n8_ n9_; clear hb hbox hg; have hnb71 := NB197_166.out; have hnc71 := NB166_197.out; have hcz72_0 : w70.cell? ⟨gb197, 0, none⟩ = some (.bool false) := (jC BK197.out 0).trans rfl; have hcz72_1 : w70.cell? ⟨gb197, 1, none⟩ = some (.bool false) := (jC BK197.out 1).trans rfl; have hcz72_2 : w70.cell? ⟨gb197, 2, none⟩ = some (.bool false) := (jC BK197.out 2).trans rfl; have hcz72_3 : w70.cell? ⟨gb197, 3, none⟩ = some (.bool false) := (jC BK197.out 3).trans rfl; have hcz72_4 : w70.cell? ⟨gb197, 4, none⟩ = some (.bool false) := (jC BK197.out 4).trans rfl; have hcz72_5 : w70.cell? ⟨gb197, 5, none⟩ = some (.int .i64 0) := (jC BK197.out 5).trans rfl; have hfz72_0 := jB BK197.out 0; have hfz72_1 := jB BK197.out 1; have hfz72_2 := jB BK197.out 2; have hfz72_3 := jB BK197.out 3; have hfz72_4 := jB BK197.out 4; have hfz72_5 := jB BK197.out 5) | ((with_reducible refine jd (f := 53) rfl ?_); refine goesL_ (some 47) rfl rfl Try.func53 zr rfl #[.agg #[.bool t190, .bool t191, .bool t192, .bool t193, .bool t194, .int .i64 t195]] rfl zm ?_; (with_reducible refine (impl_numberOf.calls t190 t191 t192 t193 t194 t195 t198 _ A34.out).mono ?_); rintro e w73 ⟨rfl, hb⟩; refine ⟨_, rfl, ?_⟩; have n0_ := jA (Kd.S_below (by (with_reducible repeat (first | apply Kd.S_alloc | apply Kd.S_drewN | apply Kd.S_drew)); exact (Kd.S_mono (Kd.S_far (p := ⟨gb197, 5, none⟩) (Kd.S_far (p := ⟨gb197, 4, none⟩) (Kd.S_far (p := ⟨gb197, 3, none⟩) (Kd.S_far (p := ⟨gb197, 2, none⟩) (Kd.S_far (p := ⟨gb197, 1, none⟩) (Kd.S_far (p := ⟨gb197, 0, none⟩) (Kd.S_types HO_6.out BK197.out (by decide)) (fun _ hk => hk.2) (.bool t190)) (fun _ hk => hk.2) (.bool t191)) (fun _ hk => hk.2) (.bool t192)) (fun _ hk => hk.2) (.bool t193)) (fun _ hk => hk.2) (.bool t194)) (fun _ hk => hk.2) (.int .i64 t195)) (fun _ h_ => h_.1))) hb); have n1_ := jA (Kd.R_below (by (with_reducible repeat (first | apply ja | apply jZ | apply jc)); exact (Kd.R_mono (Kd.R_far (p := ⟨gb197, 5, none⟩) (Kd.R_far (p := ⟨gb197, 4, none⟩) (Kd.R_far (p := ⟨gb197, 3, none⟩) (Kd.R_far (p := ⟨gb197, 2, none⟩) (Kd.R_far (p := ⟨gb197, 1, none⟩) (Kd.R_far (p := ⟨gb197, 0, none⟩) (Kd.R_types HO_7.out BK197.out (by decide)) (fun _ hk => hk.2) (.bool t190)) (fun _ hk => hk.2) (.bool t191)) (fun _ hk => hk.2) (.bool t192)) (fun _ hk => hk.2) (.bool t193)) (fun _ hk => hk.2) (.bool t194)) (fun _ hk => hk.2) (.int .i64 t195)) (fun _ h_ => h_.1))) hb); have n2_ := jA (Kd.Q_below (by (with_reducible repeat (first | apply Kd.Q_alloc | apply Kd.Q_drewN | apply Kd.Q_drew)); exact (Kd.Q_mono (Kd.Q_far (p := ⟨gb197, 5, none⟩) (Kd.Q_far (p := ⟨gb197, 4, none⟩) (Kd.Q_far (p := ⟨gb197, 3, none⟩) (Kd.Q_far (p := ⟨gb197, 2, none⟩) (Kd.Q_far (p := ⟨gb197, 1, none⟩) (Kd.Q_far (p := ⟨gb197, 0, none⟩) (Kd.Q_types HO_8.out BK197.out (by decide)) (fun _ hk => hk.2) (.bool t190)) (fun _ hk => hk.2) (.bool t191)) (fun _ hk => hk.2) (.bool t192)) (fun _ hk => hk.2) (.bool t193)) (fun _ hk => hk.2) (.bool t194)) (fun _ hk => hk.2) (.int .i64 t195)) (fun _ h_ => h_.1))) hb); have n3_ := jA (jP (g := gb166) (o := .cells #[.bool a0_0, .bool a0_1, .bool a0_2, .bool a0_3, .bool a0_4, .int .i64 a0_5] 23 (0, 0)) (by (with_reducible repeat (first | refine jD ?_ _ | refine jF ?_ | refine jE ?_ _)); refine jX ?_ NB166_197.out _; (with_reducible repeat (first | refine jD ?_ _ | refine jF ?_ | refine jE ?_ _)); refine jX ?_ NB166_197.out _; (with_reducible repeat (first | refine jD ?_ _ | refine jF ?_ | refine jE ?_ _)); refine jX ?_ NB166_197.out _; (with_reducible repeat (first | refine jD ?_ _ | refine jF ?_ | refine jE ?_ _)); refine jX ?_ NB166_197.out _; (with_reducible repeat (first | refine jD ?_ _ | refine jF ?_ | refine jE ?_ _)); refine jX ?_ NB166_197.out _; (with_reducible repeat (first | refine jD ?_ _ | refine jF ?_ | refine jE ?_ _)); refine jX ?_ NB166_197.out _; (with_reducible repeat (first | refine jD ?_ _ | refine jF ?_ | refine jE ?_ _)); exact BK166.out) hb); have n4_ := jA (jP (g := gb197) (o := .cells #[.bool t190, .bool t191, .bool t192, .bool t193, .bool t194, .int .i64 t195] 23 (0, 0)) (by (with_reducible repeat (first | refine jD ?_ _ | refine jF ?_ | refine jE ?_ _)); refine jI (cs := #[.bool t190, .bool t191, .bool t192, .bool t193, .bool t194, .int .i64 0]) ?_ 5 _ rfl; (with_reducible repeat (first | refine jD ?_ _ | refine jF ?_ | refine jE ?_ _)); refine jI (cs := #[.bool t190, .bool t191, .bool t192, .bool t193, .bool false, .int .i64 0]) ?_ 4 _ rfl; (with_reducible repeat (first | refine jD ?_ _ | refine jF ?_ | refine jE ?_ _)); refine jI (cs := #[.bool t190, .bool t191, .bool t192, .bool false, .bool false, .int .i64 0]) ?_ 3 _ rfl; (with_reducible repeat (first | refine jD ?_ _ | refine jF ?_ | refine jE ?_ _)); refine jI (cs := #[.bool t190, .bool t191, .bool false, .bool false, .bool false, .int .i64 0]) ?_ 2 _ rfl; (with_reducible repeat (first | refine jD ?_ _ | refine jF ?_ | refine jE ?_ _)); refine jI (cs := #[.bool t190, .bool false, .bool false, .bool false, .bool false, .int .i64 0]) ?_ 1 _ rfl; (with_reducible repeat (first | refine jD ?_ _ | refine jF ?_ | refine jE ?_ _)); refine jI (cs := #[.bool false, .bool false, .bool false, .bool false, .bool false, .int .i64 0]) ?_ 0 _ rfl; (with_reducible repeat (first | refine jD ?_ _ | refine jF ?_ | refine jE ?_ _)); exact BK197.out) hb); have n5_ := jA (jJ (zb2 HB GE166 GE197) hb); clear HO_6; clear HO_7; clear HO_8; clear BK166; clear BK197; clear HB; have HO_6 := n0_; have HO_7 := n1_; have HO_8 := n2_; have BK166 := n3_; have BK197 := n4_; have HB := n5_; clear n0_ n1_ n2_ n3_ n4_ n5_; (try clear hb); (try clear hb2); (try clear hk); (try clear hi)))
                 (try simp only [← hl7_2])
                 go_roundg k2
                 case measure => have := HK1.out; have := HK2.out; omega
                 case rel => exact ⟨(x6_2), (x7_2), (x8_2), (wrap64 (x35_2 + 1)), zz, H', ⟨by have := HK1.out; have := HK2.out; omega⟩, ⟨by (try simp only [hl7_1]); (try simp only [hl7_2]); (with_reducible repeat (first | apply Kd.S_alloc | apply Kd.S_drewN | apply Kd.S_drew)); exact HO_6.out⟩, ⟨by (try simp only [hl7_1]); (try simp only [hl7_2]); (with_reducible repeat (first | apply ja | apply jZ | apply jc)); exact HO_7.out⟩, ⟨by (try simp only [hl7_1]); (try simp only [hl7_2]); (with_reducible repeat (first | apply Kd.Q_alloc | apply Kd.Q_drewN | apply Kd.Q_drew)); exact HO_8.out⟩, ⟨by (try simp only [hl7_1]); (try simp only [hl7_2]); (with_reducible repeat (first | refine jD ?_ _ | refine jF ?_ | refine jE ?_ _)); exact BK166.out⟩, ⟨zb2 HB GE166 GE197⟩⟩
               ·rw [if_neg c31] at H
                exact absurd H (by simp)
              ·rw [if_neg c30] at H
               exact absurd H (by simp)
             ·rw [if_neg c29] at H
              have c29b0 : decide (x35_2 < (l1.length : Int)) = false := decide_eq_false c29
              clear c29
              have H' := jA H
              clear H
              go_wp2
              (try simp only [← hl7_1, ← hl7_2])
              go_roundg k2
              case measure => have := HK1.out; have := HK2.out; omega
              case rel => exact ⟨(x6_2), (x7_2), (x8_2), H', ⟨by have := HK1.out; have := HK2.out; omega⟩, ⟨by (try simp only [hl7_1]); (try simp only [hl7_2]); (with_reducible repeat (first | apply Kd.S_alloc | apply Kd.S_drewN | apply Kd.S_drew)); exact HO_6.out⟩, ⟨by (try simp only [hl7_1]); (try simp only [hl7_2]); (with_reducible repeat (first | apply ja | apply jZ | apply jc)); exact HO_7.out⟩, ⟨by (try simp only [hl7_1]); (try simp only [hl7_2]); (with_reducible repeat (first | apply Kd.Q_alloc | apply Kd.Q_drewN | apply Kd.Q_drew)); exact HO_8.out⟩, ⟨by (try simp only [hl7_1]); (try simp only [hl7_2]); (with_reducible repeat (first | refine jD ?_ _ | refine jF ?_ | refine jE ?_ _)); exact BK166.out⟩, ⟨zb1 HB GE166⟩⟩
          ·rw [if_neg c26] at H
           exact absurd H (by simp)
         ·rw [if_neg c25] at H
          exact absurd H (by simp)
        ·rw [if_neg c24] at H
         have c24b0 : decide (0 < (x8_1.length : Int)) = false := decide_eq_false c24
         have c24b1 : decide (0 < x8_1.length) = false := decide_eq_false (by omega)
         clear c24
         simp only [jS, jY] at H
         obtain ⟨rfl, rfl⟩ := H
         obtain ⟨Ao74, co74, eo74, _⟩ := Kd.Q_slice HO_8.out
         subst eo74
         go_wp2
         go_ret2
         exact ⟨_, _, by first | rfl | (simp [errW_none, errW_some] <;> rfl) | (simp [*, errW_none, errW_some] <;> rfl), by (with_reducible repeat (first | apply Kd.S_alloc | apply Kd.S_drewN | apply Kd.S_drew)); exact Kd.S_mono HO_6.out (fun _ hk => trivial), by (with_reducible repeat (first | apply ja | apply jZ | apply jc)); exact HO_7.out, zb1 HB GE166⟩
     ·rw [if_neg c8] at H
      exact absurd H (by simp)
    ·rw [if_neg c7] at H
     exact absurd H (by simp)
   ·rw [if_neg c6] at H
    exact absurd H (by simp)
  ·rw [if_neg c4] at H
   exact absurd H (by simp)
 ·rw [if_neg c3] at H
  exact absurd H (by simp)

end Go.Proofs.Ythieppjmjgijfaa.PFnExactShortestInputs
