/- Functions and contracts that FnDepots reaches (5 of 11). -/
import Derived.Test.YtmhnkhealidjjaaQFnDepotsx3
namespace Go.Proofs.Ytmhnkhealidjjaa.PFnDepots
open Go.RowKit Go.Proofs.YtmhnkhealidjjaaW.PrintWords Go.Proofs.YtmhnkhealidjjaaW.PrintLast Go.Proofs.YtmhnkhealidjjaaW.PrintMore
attribute [local go_sem] max2_int min2_int max_two min_two max_three min_three max_four min_four   -- for this text's walks alone
set_option linter.unusedVariables false
set_option linter.unusedSimpArgs false

/-! ### impl_closePairs: function 77 -/
mutual
def impl_closePairs.l0 : Nat → List (S51) → Int → List (List Int) → List (S51) → Int → Int → Option ((List (List Int)))
 | 0, _, _, _, _, _, _ => none
 | k + 1, x0, x1, x5, x9, x10, x11 => if x11 < x10 then (if 0 ≤ x11 then (if x11 < (x9.length : Int) then (impl_closePairs.l1 k x0 x1 x5 x11 (wrap64 (x11 + 1)) x9 x10 x11 ((rd_T51 x9 x11).f0) ((rd_T51 x9 x11).f1) ((rd_T51 x9 x11).f2)) else (none)) else (none)) else (some x5)
def impl_closePairs.l1 : Nat → List (S51) → Int → List (List Int) → Int → Int → List (S51) → Int → Int → Int → Int → Int → Option ((List (List Int)))
 | 0, _, _, _, _, _, _, _, _, _, _, _ => none
 | k + 1, x0, x1, x5, x6, x8, x9, x10, x11, x181000, x181001, x181002 => if x8 < (x0.length : Int) then (if 0 ≤ x8 then ((impl_areClose.f k x181000 x181001 x181002 ((rd_T51 x0 x8).f0) ((rd_T51 x0 x8).f1) ((rd_T51 x0 x8).f2) x1).bind fun t182 => (if t182 = true then (if x5.length < 5864062014805 then (impl_closePairs.l1 k x0 x1 (x5 ++ [(([x6, x8] : List Int))]) x6 (wrap64 (x8 + 1)) x9 x10 x11 x181000 x181001 x181002) else (none)) else (impl_closePairs.l1 k x0 x1 x5 x6 (wrap64 (x8 + 1)) x9 x10 x11 x181000 x181001 x181002))) else (none)) else (impl_closePairs.l0 k x0 x1 x5 x9 x10 (wrap64 (x11 + 1)))
end
def impl_closePairs.f (k : Nat) (l0 : List (S51)) (a1 : Int) : Option ((List (List Int))) := impl_closePairs.l0 k l0 a1 ([] : List (List Int)) l0 (l0.length : Int) 0
theorem impl_closePairs.mono_l : ∀ k, (∀ y0 y1 y2 y3 y4 y5, LeO (impl_closePairs.l0 k y0 y1 y2 y3 y4 y5) (impl_closePairs.l0 (k + 1) y0 y1 y2 y3 y4 y5)) ∧ (∀ y0 y1 y2 y3 y4 y5 y6 y7 y8 y9 y10, LeO (impl_closePairs.l1 k y0 y1 y2 y3 y4 y5 y6 y7 y8 y9 y10) (impl_closePairs.l1 (k + 1) y0 y1 y2 y3 y4 y5 y6 y7 y8 y9 y10))
 | 0 => ⟨fun _ _ _ _ _ _ r h => by simp [impl_closePairs.l0] at h, fun _ _ _ _ _ _ _ _ _ _ _ r h => by simp [impl_closePairs.l1] at h⟩
 | k + 1 => by
  obtain ⟨ih0, ih1⟩ := impl_closePairs.mono_l k
  refine ⟨?_, ?_⟩
  ·intro y0 y1 y2 y3 y4 y5
   unfold impl_closePairs.l0
   repeat' first
   | (with_reducible exact ih0 _ _ _ _ _ _)
   | (with_reducible exact ih1 _ _ _ _ _ _ _ _ _ _ _)
   | (with_reducible exact impl_areClose.mono _ _ _ _ _ _ _ _)
   | (with_reducible exact LeO.refl _)
   | (with_reducible exact LeO.none _)
   | (with_reducible refine LeO.ite ?_ ?_)
   | (with_reducible refine LeO.bind ?_ (fun _ => ?_))
   | exact ih0 _ _ _ _ _ _
   | exact ih1 _ _ _ _ _ _ _ _ _ _ _
   | exact impl_areClose.mono _ _ _ _ _ _ _ _
   | exact LeO.none _
   | refine LeO.ite ?_ ?_
   | refine LeO.bind ?_ (fun _ => ?_)
  ·intro y0 y1 y2 y3 y4 y5 y6 y7 y8 y9 y10
   unfold impl_closePairs.l1
   repeat' first
   | (with_reducible exact ih0 _ _ _ _ _ _)
   | (with_reducible exact ih1 _ _ _ _ _ _ _ _ _ _ _)
   | (with_reducible exact impl_areClose.mono _ _ _ _ _ _ _ _)
   | (with_reducible exact LeO.refl _)
   | (with_reducible exact LeO.none _)
   | (with_reducible refine LeO.ite ?_ ?_)
   | (with_reducible refine LeO.bind ?_ (fun _ => ?_))
   | exact ih0 _ _ _ _ _ _
   | exact ih1 _ _ _ _ _ _ _ _ _ _ _
   | exact impl_areClose.mono _ _ _ _ _ _ _ _
   | exact LeO.none _
   | refine LeO.ite ?_ ?_
   | refine LeO.bind ?_ (fun _ => ?_)
theorem impl_closePairs.mono : ∀ a0 a1 k, LeO (impl_closePairs.f k a0 a1) (impl_closePairs.f (k + 1) a0 a1) := by
 intro a0 a1 k
 obtain ⟨ih0, ih1⟩ := impl_closePairs.mono_l k
 unfold impl_closePairs.f
 repeat' first
   | (with_reducible exact ih0 _ _ _ _ _ _)
   | (with_reducible exact ih1 _ _ _ _ _ _ _ _ _ _ _)
   | (with_reducible exact impl_areClose.mono _ _ _ _ _ _ _ _)
   | (with_reducible exact LeO.refl _)
   | (with_reducible exact LeO.none _)
   | (with_reducible refine LeO.ite ?_ ?_)
   | (with_reducible refine LeO.bind ?_ (fun _ => ?_))
   | exact ih0 _ _ _ _ _ _
   | exact ih1 _ _ _ _ _ _ _ _ _ _ _
   | exact impl_areClose.mono _ _ _ _ _ _ _ _
   | exact LeO.none _
   | refine LeO.ite ?_ ?_
   | refine LeO.bind ?_ (fun _ => ?_)
set_option maxHeartbeats 8000000 in
set_option maxRecDepth 100000 in
theorem impl_closePairs.calls (k : Nat) (A0 : Option Addr) (c0 : Nat) (l0 : List (S51)) (a1 : Int) (r : List (List Int)) (w : World) (hr0 : Kd.C k51 w A0 l0.length l0) (hc0 : l0.length ≤ c0) (h : impl_closePairs.f k l0 a1 = some r) :
  Calls Try.prog 77 #[.slice A0 l0.length c0, .int .i64 a1] w fun e w' => ∃ v0_ : Value, e = .returned (v0_) ∧ Kd.S (Kd.slice 2 (Kd.int .i64)) 59 w' w.heap.size (fun _ => True) v0_ r ∧ Below w.heap.size w w' := by
 have hu51 := Try.underlying51
 have HR0 := jA hr0
 have HC0 := jA hc0
 clear hr0 hc0
 have HB := jA (Below.refl w.heap.size w)
 have H : (impl_closePairs.l0 k l0 a1 ([] : List (List Int)) l0 (l0.length : Int) 0) = some r := h
 clear h
 have H' := jA H
 clear H
 go_enter Try.func77, Try.ntmps77
 go_wp2
 go_loopg [5, 11] k (fun kq v5 v11 w' => ∃ (x5_1 : List (List Int)) (x11_1 : Int), v11 = .int .i64 x11_1 ∧ Aside0 (impl_closePairs.l0 kq l0 a1 x5_1 l0 (l0.length : Int) x11_1 = some r) ∧ Aside0 (kq ≤ k) ∧ Aside0 (Kd.S (Kd.slice 2 (Kd.int .i64)) 59 w' w.heap.size (fun _ => True) v5 x5_1) ∧ Aside0 (Below w.heap.size w w'))
 case atStart => exact ⟨(([] : List (List Int))), (0), zz, H', ⟨Nat.le_refl _⟩, ⟨by first | exact Kd.S_nil _ _ _ _ _ | exact Kd.N_nil _ _ _ _ _ | exact Kd.V_nil _ _ _ _ _ | exact Kd.Q_nil _ _ _ _ _ | exact Kd.R_nil _ _ _ _ _⟩, ⟨zb0 HB⟩⟩
 case round =>
  clear H'
  try clear p2
  obtain ⟨x5_1, x11_1, rfl, HA, HK1, HO_5, HB⟩ := hrel
  cases gk with
  | zero => exact absurd HA.out (by simp [impl_closePairs.l0])
  | succ k1 =>
   have H := HA.out
   clear HA
   simp only [impl_closePairs.l0] at H
   by_cases c3 : x11_1 < (l0.length : Int)
   ·rw [if_pos c3] at H
    have c3b0 : decide (x11_1 < (l0.length : Int)) = true := jG c3
    clear c3
    by_cases c4 : 0 ≤ x11_1
    ·rw [if_pos c4] at H
     have c4b0 : decide (0 ≤ x11_1) = true := jG c4
     clear c4
     by_cases c5 : x11_1 < (l0.length : Int)
     ·rw [if_pos c5] at H
      have c5b0 : decide (x11_1 < (l0.length : Int)) = true := jG c5
      clear c5
      have H' := jA H
      clear H
      have p179 : 0 ≤ (x11_1 : Int) := jB za
      have q179 : x11_1 < (l0.length : Int) := jB za
      obtain ⟨ad179, e179, hx179_0, hx179_1, hx179_2⟩ := at_T51 HR0.out x11_1 p179 q179
      cases e179
      replace hx179_0 := (HB.out.cell (jC w _ hx179_0)).trans hx179_0
      replace hx179_1 := (HB.out.cell (jC w _ hx179_1)).trans hx179_1
      replace hx179_2 := (HB.out.cell (jC w _ hx179_2)).trans hx179_2
      replace p179 := eq_true p179
      replace q179 := eq_true q179
      go_wp2_with (first | ((with_reducible refine gate_dst (N := 7) rfl ?_); refine box_event ?hg (N := 7) ?hd (cs := #[.int .i64 0, .int .i64 0, .int .i64 0]) (t := 51) ?hr ?_; (case hd => rfl); (case hg => rfl); (case hr => first | (go_simp; done) | (go_simp; rfl)); intro gb180 hg w6 hbox hb; have n0_ := jA (Kd.S_below (by (with_reducible repeat (first | apply Kd.S_alloc | apply Kd.S_drewN | apply Kd.S_drew)); exact HO_5.out) hb); have n1_ := jA (jT (zb0 HB) hb); have n2_ := jA (hbox); have n3_ := jA ((by rw [hg]; exact (jW (zb0 HB)) : w.heap.size ≤ gb180)); have n4_ := jA ((by rw [hg]; exact (jW (zb0 HB)) : w.heap.size ≤ gb180)); clear HO_5; clear HB; have HO_5 := n0_; have HB := n1_; have BK180 := n2_; have GW180 := n3_; have GE180 := n4_; clear n0_ n1_ n2_ n3_ n4_; clear hb hbox hg; have hcz7_0 : w6.cell? ⟨gb180, 0, none⟩ = some (.int .i64 0) := (jR BK180.out 0).trans rfl; have hcz7_1 : w6.cell? ⟨gb180, 1, none⟩ = some (.int .i64 0) := (jR BK180.out 1).trans rfl; have hcz7_2 : w6.cell? ⟨gb180, 2, none⟩ = some (.int .i64 0) := (jR BK180.out 2).trans rfl; have hfz7_0 := jV BK180.out 0; have hfz7_1 := jV BK180.out 1; have hfz7_2 := jV BK180.out 2))
      go_loopg [5, 8] k1 (fun kq v5 v8 w' => ∃ (x5_2 : List (List Int)) (x8_2 : Int), v8 = .int .i64 x8_2 ∧ Aside0 (impl_closePairs.l1 kq l0 a1 x5_2 x11_1 x8_2 l0 (l0.length : Int) x11_1 ((rd_T51 l0 x11_1).f0) ((rd_T51 l0 x11_1).f1) ((rd_T51 l0 x11_1).f2) = some r) ∧ Aside0 (kq ≤ k1) ∧ Aside0 (Kd.S (Kd.slice 2 (Kd.int .i64)) 59 w' w.heap.size (fun _ => True) v5 x5_2) ∧ Aside0 (w'.heap[gb180]? = some (.cells #[.int .i64 ((rd_T51 l0 x11_1).f0), .int .i64 ((rd_T51 l0 x11_1).f1), .int .i64 ((rd_T51 l0 x11_1).f2)] 51 (0, 0))) ∧ Aside0 (Below w.heap.size w w'))
      case atStart => exact ⟨(x5_1), (wrap64 (x11_1 + 1)), zz, H', ⟨Nat.le_refl _⟩, ⟨by (with_reducible repeat (first | apply Kd.S_alloc | apply Kd.S_drewN | apply Kd.S_drew)); exact Kd.S_mono (Kd.S_far (p := ⟨gb180, 2, none⟩) (Kd.S_far (p := ⟨gb180, 1, none⟩) (Kd.S_far (p := ⟨gb180, 0, none⟩) (Kd.S_types HO_5.out BK180.out (by decide)) (fun _ hk => hk.2) (.int .i64 ((rd_T51 l0 x11_1).f0))) (fun _ hk => hk.2) (.int .i64 ((rd_T51 l0 x11_1).f1))) (fun _ hk => hk.2) (.int .i64 ((rd_T51 l0 x11_1).f2))) (fun _ hk => trivial)⟩, ⟨by (with_reducible repeat (first | refine jc ?_ _ | refine blk_drew ?_ | refine jd ?_ _)); refine blk_put (cs := #[.int .i64 ((rd_T51 l0 x11_1).f0), .int .i64 ((rd_T51 l0 x11_1).f1), .int .i64 0]) ?_ 2 _ rfl; (with_reducible repeat (first | refine jc ?_ _ | refine blk_drew ?_ | refine jd ?_ _)); refine blk_put (cs := #[.int .i64 ((rd_T51 l0 x11_1).f0), .int .i64 0, .int .i64 0]) ?_ 1 _ rfl; (with_reducible repeat (first | refine jc ?_ _ | refine blk_drew ?_ | refine jd ?_ _)); refine blk_put (cs := #[.int .i64 0, .int .i64 0, .int .i64 0]) ?_ 0 _ rfl; (with_reducible repeat (first | refine jc ?_ _ | refine blk_drew ?_ | refine jd ?_ _)); exact BK180.out⟩, ⟨zb1 HB GE180⟩⟩
      case round =>
       clear H'
       try clear p1
       try clear q1
       try clear hx1
       try clear p2
       try clear c3
       try clear c3b0
       try clear c4
       try clear c4b0
       try clear c5
       try clear c5b0
       try clear p6
       try clear c7
       try clear hcz7_0
       try clear hcz7_1
       try clear hcz7_2
       try clear hfz7_0
       try clear hfz7_1
       try clear hfz7_2
       try clear hx179_0
       try clear hx179_1
       try clear hx179_2
       try clear p179
       try clear p2
       try clear q179
       obtain ⟨x5_2, x8_2, rfl, HA, HK2, HO_5, BK180, HB⟩ := hrel
       cases gk with
       | zero => exact absurd HA.out (by simp [impl_closePairs.l1])
       | succ k2 =>
        have H := HA.out
        clear HA
        simp only [impl_closePairs.l1] at H
        by_cases c8 : x8_2 < (l0.length : Int)
        ·rw [if_pos c8] at H
         have c8b0 : decide (x8_2 < (l0.length : Int)) = true := jG c8
         clear c8
         by_cases c9 : 0 ≤ x8_2
         ·rw [if_pos c9] at H
          have c9b0 : decide (0 ≤ x8_2) = true := jG c9
          clear c9
          replace H := jD.mp H
          obtain ⟨t182, A100, H⟩ := H
          replace H : (if t182 = true then (if x5_2.length < 5864062014805 then (impl_closePairs.l1 k2 l0 a1 (x5_2 ++ [(([x11_1, x8_2] : List Int))]) x11_1 (wrap64 (x8_2 + 1)) l0 (l0.length : Int) x11_1 ((rd_T51 l0 x11_1).f0) ((rd_T51 l0 x11_1).f1) ((rd_T51 l0 x11_1).f2)) else (none)) else (impl_closePairs.l1 k2 l0 a1 x5_2 x11_1 (wrap64 (x8_2 + 1)) l0 (l0.length : Int) x11_1 ((rd_T51 l0 x11_1).f0) ((rd_T51 l0 x11_1).f1) ((rd_T51 l0 x11_1).f2))) = some r := H
          have A10 := jA A100
          clear A100
          by_cases c11 : t182 = true
          ·subst c11
           have H1 : (if x5_2.length < 5864062014805 then (impl_closePairs.l1 k2 l0 a1 (x5_2 ++ [(([x11_1, x8_2] : List Int))]) x11_1 (wrap64 (x8_2 + 1)) l0 (l0.length : Int) x11_1 ((rd_T51 l0 x11_1).f0) ((rd_T51 l0 x11_1).f1) ((rd_T51 l0 x11_1).f2)) else (none)) = some r := by rw [if_pos rfl] at H; exact H
           clear H
           have H := H1
           clear H1
           obtain ⟨y183, hy183⟩ : ∃ y_ : List Int, y_ = (([x11_1, x8_2] : List Int)) := ⟨_, rfl⟩
           replace H : (if x5_2.length < 5864062014805 then (impl_closePairs.l1 k2 l0 a1 (x5_2 ++ [y183]) x11_1 (wrap64 (x8_2 + 1)) l0 (l0.length : Int) x11_1 ((rd_T51 l0 x11_1).f0) ((rd_T51 l0 x11_1).f1) ((rd_T51 l0 x11_1).f2)) else (none)) = some r := by first | (rw [hy183]; with_reducible exact H) | (have H2_ := (Option.bind_some _ _).symm.trans H; rw [hy183]; with_reducible exact H2_) | (have H2_ := (Option.bind_some _ _).symm.trans H; with_reducible exact H2_) | with_reducible exact H | (rw [hy183]; exact H) | exact H
           have Ny183 := jA hy183
           clear hy183
           by_cases c12 : x5_2.length < 5864062014805
           ·rw [if_pos c12] at H
            have LMc12 := jA c12
            clear c12
            obtain ⟨y186, hy186⟩ : ∃ y_ : List (List Int), y_ = (x5_2 ++ [y183]) := ⟨_, rfl⟩
            replace H : (impl_closePairs.l1 k2 l0 a1 y186 x11_1 (wrap64 (x8_2 + 1)) l0 (l0.length : Int) x11_1 ((rd_T51 l0 x11_1).f0) ((rd_T51 l0 x11_1).f1) ((rd_T51 l0 x11_1).f2)) = some r := by first | (rw [hy186]; with_reducible exact H) | (have H2_ := (Option.bind_some _ _).symm.trans H; rw [hy186]; with_reducible exact H2_) | (have H2_ := (Option.bind_some _ _).symm.trans H; with_reducible exact H2_) | with_reducible exact H | (rw [hy186]; exact H) | exact H
            have Ny186 := jA hy186
            clear hy186
            have H' := jA H
            clear H
            try go_wp2
            have n0_ := jA (Kd.S_drew HO_5.out)
            have n1_ := jA (blk_drew BK180.out)
            have n2_ := jA (jL HB.out)
            clear HO_5
            clear BK180
            clear HB
            have HO_5 := n0_
            have BK180 := n1_
            have HB := n2_
            clear n0_ n1_ n2_
            have p181 : 0 ≤ (x8_2 : Int) := jB za
            have q181 : x8_2 < (l0.length : Int) := jB za
            obtain ⟨ad181, e181, hx181_0, hx181_1, hx181_2⟩ := at_T51 HR0.out x8_2 p181 q181
            have hw181_2 := hx181_2
            have hw181_1 := hx181_1
            have hw181_0 := hx181_0
            obtain rfl : ad179 = ad181 := (by injection e181)
            replace hx181_0 := (HB.out.cell (jC w _ hx181_0)).trans hx181_0
            replace hx181_1 := (HB.out.cell (jC w _ hx181_1)).trans hx181_1
            replace hx181_2 := (HB.out.cell (jC w _ hx181_2)).trans hx181_2
            replace p181 := eq_true p181
            replace q181 := eq_true q181
            refine start_ (n := 7) (S := fun w' => w'.cell? ⟨gb180, 0, none⟩ = some (.int .i64 ((rd_T51 l0 x11_1).f0)) ∧ w'.cell? ⟨gb180, 1, none⟩ = some (.int .i64 ((rd_T51 l0 x11_1).f1)) ∧ w'.cell? ⟨gb180, 2, none⟩ = some (.int .i64 ((rd_T51 l0 x11_1).f2)) ∧ w'.cell? (ad179.add ((x8_2).toNat * 3)) = some (.int .i64 ((rd_T51 l0 x8_2).f0)) ∧ w'.cell? ⟨(ad179.add ((x8_2).toNat * 3)).block, (ad179.add ((x8_2).toNat * 3)).off + 1, none⟩ = some (.int .i64 ((rd_T51 l0 x8_2).f1)) ∧ w'.cell? ⟨(ad179.add ((x8_2).toNat * 3)).block, (ad179.add ((x8_2).toNat * 3)).off + 2, none⟩ = some (.int .i64 ((rd_T51 l0 x8_2).f2))) (ds := []) m7_0 zr rfl rfl ⟨(jR BK180.out 0).trans rfl, (jR BK180.out 1).trans rfl, (jR BK180.out 2).trans rfl, ((HB.out.cell (jC w _ hw181_0)).trans hw181_0), ((HB.out.cell (jC w _ hw181_1)).trans hw181_1), ((HB.out.cell (jC w _ hw181_2)).trans hw181_2)⟩ (fun hHeld => ?_)
            generalize wr.drew = w13 at HO_5 BK180 HB hx181_0 hx181_1 hx181_2 hHeld ⊢
            refine pure_ (i := 1) (N := some 25) (v := ?_) (a' := ?_) m7_20 rfl rfl zr (fun _ _ _ h => h) (Or.inl ⟨by rfl, ?_⟩) ?_ ?_
            rotate_left
            ·intro w'
             go_simp
             with_reducible rfl
            rotate_left
            ·simp only [Act.put, jE, jI, jJ, i64_w, i32_w]
             rfl
            refine pure_ (i := 2) (N := some 26) (v := ?_) (a' := ?_) m7_30 rfl rfl zr (fun _ _ _ h => h) (Or.inl ⟨by rfl, ?_⟩) ?_ ?_
            rotate_left
            ·intro w'
             go_simp
             with_reducible rfl
            rotate_left
            ·simp only [Act.put, jE, jI, jJ, i64_w, i32_w]
             rfl
            refine pure_ (i := 3) (N := some 27) (v := ?_) (a' := ?_) m7_38 rfl rfl zr (fun _ _ _ h => h) (Or.inl ⟨by rfl, ?_⟩) ?_ ?_
            rotate_left
            ·intro w'
             go_simp
             with_reducible rfl
            rotate_left
            ·simp only [Act.put, jE, jI, jJ, i64_w, i32_w]
             rfl
            refine pure_ (i := 5) (N := some 29) (v := ?_) (a' := ?_) m7_3a rfl rfl zr (fun _ _ _ h => h) (Or.inl ⟨by rfl, ?_⟩) ?_ ?_
            rotate_left
            ·intro w'
             go_simp
             with_reducible rfl
            rotate_left
            ·simp only [Act.put, jE, jI, jJ, i64_w, i32_w]
             rfl
            refine take_ (i := 0) (N := some 24) (v := ?_) (a' := ?_) m7_7a rfl rfl zr (fun _ _ _ h => h) (Or.inl ⟨by rfl, ?_⟩) hHeld ?_ ?_
            rotate_left
            ·rintro w' ⟨s0, s1, s2, s3, s4, s5⟩
             go_simp
             with_reducible rfl
            rotate_left
            ·simp only [Act.put, jE, jI, jJ, i64_w, i32_w]
             rfl
            refine take_ (i := 4) (N := some 28) (v := ?_) (a' := ?_) m7_7e rfl rfl zr (fun _ _ _ h => h) (Or.inl ⟨by rfl, ?_⟩) hHeld ?_ ?_
            rotate_left
            ·rintro w' ⟨s0, s1, s2, s3, s4, s5⟩
             go_simp
             with_reducible rfl
            rotate_left
            ·simp only [Act.put, jE, jI, jJ, i64_w, i32_w]
             rfl
            refine one_ (i := 6) (N := some 30) m7_7f rfl rfl zr (by decide) (fun K hK => ?_)
            refine goes_ Try.func81 zr rfl #[.agg #[.int .i64 ((rd_T51 l0 x11_1).f0), .int .i64 ((rd_T51 l0 x11_1).f1), .int .i64 ((rd_T51 l0 x11_1).f2)], .agg #[.int .i64 ((rd_T51 l0 x8_2).f0), .int .i64 ((rd_T51 l0 x8_2).f1), .int .i64 ((rd_T51 l0 x8_2).f2)], .int .i64 a1] (by rfl) rfl rfl zm ?_
            with_reducible refine (impl_areClose.calls k2 ((rd_T51 l0 x11_1).f0) ((rd_T51 l0 x11_1).f1) ((rd_T51 l0 x11_1).f2) ((rd_T51 l0 x8_2).f0) ((rd_T51 l0 x8_2).f1) ((rd_T51 l0 x8_2).f2) a1 true _ A10.out).mono ?_
            rintro e w14 ⟨rfl, hb⟩
            refine ⟨_, rfl, ?_⟩
            have n0_ := jA (Kd.S_below (by (with_reducible repeat (first | apply Kd.S_alloc | apply Kd.S_drewN | apply Kd.S_drew)); exact HO_5.out) hb)
            have n1_ := jA (blk_below (g := gb180) (o := .cells #[.int .i64 ((rd_T51 l0 x11_1).f0), .int .i64 ((rd_T51 l0 x11_1).f1), .int .i64 ((rd_T51 l0 x11_1).f2)] 51 (0, 0)) (zk BK180) hb)
            have n2_ := jA (jT (zb1 HB GE180) hb)
            clear HO_5
            clear BK180
            clear HB
            have HO_5 := n0_
            have BK180 := n1_
            have HB := n2_
            clear n0_ n1_ n2_
            (try clear hb)
            (try clear hb2)
            (try clear hk)
            (try clear hi)
            refine hK.out _ _ ⟨(jR BK180.out 0).trans rfl, (jR BK180.out 1).trans rfl, (jR BK180.out 2).trans rfl, ((HB.out.cell (jC w _ hw181_0)).trans hw181_0), ((HB.out.cell (jC w _ hw181_1)).trans hw181_1), ((HB.out.cell (jC w _ hw181_2)).trans hw181_2)⟩ (fun hHeld => ?_)
            clear hK K
            refine norm_ (a' := ?_) ?_ ?_
            rotate_left
            ·show Act.put _ (some 30) _ = _
             simp only [Act.put, jE, jI, jJ, i64_w, i32_w]
             rfl
            refine done_ zr ?_
            try go_wp2_with (first | ((with_reducible refine gate_dst (N := 34) rfl ?_); refine Kd.R_lit (Kd.int .i64) _ 2 ?hg (N := 34) ?hd (xs := ([x11_1, x8_2] : List Int)) (inner := [.int .i64 x11_1, .int .i64 x8_2]) (ok := fun _ => True) (okp := fun _ => True) ?hr ?hp (fun _ hk => hk) trivial (Below.refl _ _) (Nat.le_refl _) (by simp) ?_; (case hd => rfl); (case hg => rfl); (case hr => first | (go_simp; done) | (go_simp; rfl)); (case hp => exact (Reps.one (show Kd.M (Kd.int .i64) _ _ _ x11_1 [.int .i64 x11_1] from rfl) (Reps.one (show Kd.M (Kd.int .i64) _ _ _ x8_2 [.int .i64 x8_2] from rfl) (Reps.none _ _)))); intro v184 w15 ho16 hb hg_ hnew_; clear hg_ hnew_; (first | rw [← Ny183.out] at ho16 | (simp only [Int.reduceToNat] at ho16; rw [← Ny183.out] at ho16)); have n0_ := jA (Kd.S_elder' (by (with_reducible repeat (first | apply Kd.S_alloc | apply Kd.S_drewN | apply Kd.S_drew)); exact HO_5.out) (Kd.R_base ho16) hb); have n1_ := jA (Kd.R_lower ho16 (jW (zb1 HB GE180))); have n2_ := jA (blk_below (g := gb180) (o := .cells #[.int .i64 ((rd_T51 l0 x11_1).f0), .int .i64 ((rd_T51 l0 x11_1).f1), .int .i64 ((rd_T51 l0 x11_1).f2)] 51 (0, 0)) (zk BK180) hb); have n3_ := jA (jT (zb1 HB GE180) hb); clear HO_5; clear BK180; clear HB; have HO_5 := n0_; have HO185 := n1_; have BK180 := n2_; have HB := n3_; clear n0_ n1_ n2_ n3_; clear hb ho16; obtain ⟨Ao18, co18, eo18⟩ := Kd.R_slice HO185.out; subst eo18) | ((with_reducible refine gate_builtin (b := .append) (xs := #[.tmp 31, .tmp 35]) rfl ?_); at_builtin; refine Kd.S_append (Kd.slice 2 (Kd.int .i64)) (w0 := w) w.heap.size rfl (.tmp 31) (.tmp 35) 53 59 (.slice none 0 0) 24 rfl Try.underlying53 info59 rfl (by decide) (by omega) u5 x5_2 y183 [.slice Ao18 y183.length co18] (fun _ => True) (fun k_ => some k_ = (.slice Ao18 y183.length co18 : Value).ownBlock) rfl rfl ?aP (fun k_ hk_ => ((Kd.R_mono (ok' := fun k_ => ((fun _ => True)) k_ ∧ some k_ ≠ (u5 : Value).ownBlock) (Kd.R_apart' (HO185.out) (Kd.S_typed HO_5.out) (by decide)) (fun k_ hk => ⟨trivial, hk.2⟩))).1 k_ hk_.symm) ?aF ?aO ?aB ?aS ?aL ?_; (case aP => exact Kd.M_row (Kd.R_mono (Kd.R_tight rfl (Kd.R_mono (ok' := fun k_ => ((fun _ => True)) k_ ∧ some k_ ≠ (u5 : Value).ownBlock) (Kd.R_apart' (HO185.out) (Kd.S_typed HO_5.out) (by decide)) (fun k_ hk => ⟨trivial, hk.2⟩))) (fun _ h_ => h_))); (case aB => exact (zb1 HB GE180)); (case aF => exact (fun _ _ => trivial)); (case aO => exact (by (with_reducible repeat (first | apply Kd.S_alloc | apply Kd.S_drewN | apply Kd.S_drew)); exact Kd.S_mono HO_5.out (fun k_ hk => ⟨trivial, fun e_ => hk.2 e_⟩))); (case aS => exact (jW (zb1 HB GE180))); (case aL => have := LMc12.out; omega); intro v187 w17 ho hb hg hat; rw [← Ny186.out] at ho; have n0_ := jA (blk_grown (g := gb180) (o := .cells #[.int .i64 ((rd_T51 l0 x11_1).f0), .int .i64 ((rd_T51 l0 x11_1).f1), .int .i64 ((rd_T51 l0 x11_1).f2)] 51 (0, 0)) (zk BK180) hg (Kd.S_ne HO_5.out BK180.out (by decide))); have n1_ := jA (hb); have n2_ := jA (ho); clear BK180; clear HB; clear HO_5; clear HO185; have BK180 := n0_; have HB := n1_; have HO188 := n2_; clear n0_ n1_ n2_; clear ho hb hg hat))
            go_roundg k2
            case measure => have := HK1.out; have := HK2.out; omega
            case rel => exact ⟨(y186), (wrap64 (x8_2 + 1)), zz, H', ⟨by have := HK1.out; have := HK2.out; omega⟩, ⟨by (with_reducible repeat (first | apply Kd.S_alloc | apply Kd.S_drewN | apply Kd.S_drew)); exact HO188.out⟩, ⟨by (with_reducible repeat (first | refine jc ?_ _ | refine blk_drew ?_ | refine jd ?_ _)); exact BK180.out⟩, ⟨zb1 HB GE180⟩⟩
           ·rw [if_neg c12] at H
            exact absurd H (by simp)
          ·replace c11 := Bool.eq_false_iff.mpr c11
           subst c11
           have H1 : (impl_closePairs.l1 k2 l0 a1 x5_2 x11_1 (wrap64 (x8_2 + 1)) l0 (l0.length : Int) x11_1 ((rd_T51 l0 x11_1).f0) ((rd_T51 l0 x11_1).f1) ((rd_T51 l0 x11_1).f2)) = some r := by rw [if_neg (show ¬ (false = true) by decide)] at H; exact H
           clear H
           have H := H1
           clear H1
           have H' := jA H
           clear H
           try go_wp2
           have n0_ := jA (Kd.S_drew HO_5.out)
           have n1_ := jA (blk_drew BK180.out)
           have n2_ := jA (jL HB.out)
           clear HO_5
           clear BK180
           clear HB
           have HO_5 := n0_
           have BK180 := n1_
           have HB := n2_
           clear n0_ n1_ n2_
           have p181 : 0 ≤ (x8_2 : Int) := jB za
           have q181 : x8_2 < (l0.length : Int) := jB za
           obtain ⟨ad181, e181, hx181_0, hx181_1, hx181_2⟩ := at_T51 HR0.out x8_2 p181 q181
           have hw181_2 := hx181_2
           have hw181_1 := hx181_1
           have hw181_0 := hx181_0
           obtain rfl : ad179 = ad181 := (by injection e181)
           replace hx181_0 := (HB.out.cell (jC w _ hx181_0)).trans hx181_0
           replace hx181_1 := (HB.out.cell (jC w _ hx181_1)).trans hx181_1
           replace hx181_2 := (HB.out.cell (jC w _ hx181_2)).trans hx181_2
           replace p181 := eq_true p181
           replace q181 := eq_true q181
           refine start_ (n := 7) (S := fun w' => w'.cell? ⟨gb180, 0, none⟩ = some (.int .i64 ((rd_T51 l0 x11_1).f0)) ∧ w'.cell? ⟨gb180, 1, none⟩ = some (.int .i64 ((rd_T51 l0 x11_1).f1)) ∧ w'.cell? ⟨gb180, 2, none⟩ = some (.int .i64 ((rd_T51 l0 x11_1).f2)) ∧ w'.cell? (ad179.add ((x8_2).toNat * 3)) = some (.int .i64 ((rd_T51 l0 x8_2).f0)) ∧ w'.cell? ⟨(ad179.add ((x8_2).toNat * 3)).block, (ad179.add ((x8_2).toNat * 3)).off + 1, none⟩ = some (.int .i64 ((rd_T51 l0 x8_2).f1)) ∧ w'.cell? ⟨(ad179.add ((x8_2).toNat * 3)).block, (ad179.add ((x8_2).toNat * 3)).off + 2, none⟩ = some (.int .i64 ((rd_T51 l0 x8_2).f2))) (ds := []) m7_0 zr rfl rfl ⟨(jR BK180.out 0).trans rfl, (jR BK180.out 1).trans rfl, (jR BK180.out 2).trans rfl, ((HB.out.cell (jC w _ hw181_0)).trans hw181_0), ((HB.out.cell (jC w _ hw181_1)).trans hw181_1), ((HB.out.cell (jC w _ hw181_2)).trans hw181_2)⟩ (fun hHeld => ?_)
           generalize wr.drew = w19 at HO_5 BK180 HB hx181_0 hx181_1 hx181_2 hHeld ⊢
           refine pure_ (i := 1) (N := some 25) (v := ?_) (a' := ?_) m7_20 rfl rfl zr (fun _ _ _ h => h) (Or.inl ⟨by rfl, ?_⟩) ?_ ?_
           rotate_left
           ·intro w'
            go_simp
            with_reducible rfl
           rotate_left
           ·simp only [Act.put, jE, jI, jJ, i64_w, i32_w]
            rfl
           refine pure_ (i := 2) (N := some 26) (v := ?_) (a' := ?_) m7_30 rfl rfl zr (fun _ _ _ h => h) (Or.inl ⟨by rfl, ?_⟩) ?_ ?_
           rotate_left
           ·intro w'
            go_simp
            with_reducible rfl
           rotate_left
           ·simp only [Act.put, jE, jI, jJ, i64_w, i32_w]
            rfl
           refine pure_ (i := 3) (N := some 27) (v := ?_) (a' := ?_) m7_38 rfl rfl zr (fun _ _ _ h => h) (Or.inl ⟨by rfl, ?_⟩) ?_ ?_
           rotate_left
           ·intro w'
            go_simp
            with_reducible rfl
           rotate_left
           ·simp only [Act.put, jE, jI, jJ, i64_w, i32_w]
            rfl
           refine pure_ (i := 5) (N := some 29) (v := ?_) (a' := ?_) m7_3a rfl rfl zr (fun _ _ _ h => h) (Or.inl ⟨by rfl, ?_⟩) ?_ ?_
           rotate_left
           ·intro w'
            go_simp
            with_reducible rfl
           rotate_left
           ·simp only [Act.put, jE, jI, jJ, i64_w, i32_w]
            rfl
           refine take_ (i := 0) (N := some 24) (v := ?_) (a' := ?_) m7_7a rfl rfl zr (fun _ _ _ h => h) (Or.inl ⟨by rfl, ?_⟩) hHeld ?_ ?_
           rotate_left
           ·rintro w' ⟨s0, s1, s2, s3, s4, s5⟩
            go_simp
            with_reducible rfl
           rotate_left
           ·simp only [Act.put, jE, jI, jJ, i64_w, i32_w]
            rfl
           refine take_ (i := 4) (N := some 28) (v := ?_) (a' := ?_) m7_7e rfl rfl zr (fun _ _ _ h => h) (Or.inl ⟨by rfl, ?_⟩) hHeld ?_ ?_
           rotate_left
           ·rintro w' ⟨s0, s1, s2, s3, s4, s5⟩
            go_simp
            with_reducible rfl
           rotate_left
           ·simp only [Act.put, jE, jI, jJ, i64_w, i32_w]
            rfl
           refine one_ (i := 6) (N := some 30) m7_7f rfl rfl zr (by decide) (fun K hK => ?_)
           refine goes_ Try.func81 zr rfl #[.agg #[.int .i64 ((rd_T51 l0 x11_1).f0), .int .i64 ((rd_T51 l0 x11_1).f1), .int .i64 ((rd_T51 l0 x11_1).f2)], .agg #[.int .i64 ((rd_T51 l0 x8_2).f0), .int .i64 ((rd_T51 l0 x8_2).f1), .int .i64 ((rd_T51 l0 x8_2).f2)], .int .i64 a1] (by rfl) rfl rfl zm ?_
           with_reducible refine (impl_areClose.calls k2 ((rd_T51 l0 x11_1).f0) ((rd_T51 l0 x11_1).f1) ((rd_T51 l0 x11_1).f2) ((rd_T51 l0 x8_2).f0) ((rd_T51 l0 x8_2).f1) ((rd_T51 l0 x8_2).f2) a1 false _ A10.out).mono ?_
           rintro e w20 ⟨rfl, hb⟩
           refine ⟨_, rfl, ?_⟩
           have n0_ := jA (Kd.S_below (by (with_reducible repeat (first | apply Kd.S_alloc | apply Kd.S_drewN | apply Kd.S_drew)); exact HO_5.out) hb)
           have n1_ := jA (blk_below (g := gb180) (o := .cells #[.int .i64 ((rd_T51 l0 x11_1).f0), .int .i64 ((rd_T51 l0 x11_1).f1), .int .i64 ((rd_T51 l0 x11_1).f2)] 51 (0, 0)) (zk BK180) hb)
           have n2_ := jA (jT (zb1 HB GE180) hb)
           clear HO_5
           clear BK180
           clear HB
           have HO_5 := n0_
           have BK180 := n1_
           have HB := n2_
           clear n0_ n1_ n2_
           (try clear hb)
           (try clear hb2)
           (try clear hk)
           (try clear hi)
           refine hK.out _ _ ⟨(jR BK180.out 0).trans rfl, (jR BK180.out 1).trans rfl, (jR BK180.out 2).trans rfl, ((HB.out.cell (jC w _ hw181_0)).trans hw181_0), ((HB.out.cell (jC w _ hw181_1)).trans hw181_1), ((HB.out.cell (jC w _ hw181_2)).trans hw181_2)⟩ (fun hHeld => ?_)
           clear hK K
           refine norm_ (a' := ?_) ?_ ?_
           rotate_left
           ·show Act.put _ (some 30) _ = _
            simp only [Act.put, jE, jI, jJ, i64_w, i32_w]
            rfl
           refine done_ zr ?_
           try go_wp2
           go_roundg k2
           case measure => have := HK1.out; have := HK2.out; omega
           case rel => exact ⟨(x5_2), (wrap64 (x8_2 + 1)), zz, H', ⟨by have := HK1.out; have := HK2.out; omega⟩, ⟨by (with_reducible repeat (first | apply Kd.S_alloc | apply Kd.S_drewN | apply Kd.S_drew)); exact HO_5.out⟩, ⟨by (with_reducible repeat (first | refine jc ?_ _ | refine blk_drew ?_ | refine jd ?_ _)); exact BK180.out⟩, ⟨zb1 HB GE180⟩⟩
         ·rw [if_neg c9] at H
          exact absurd H (by simp)
        ·rw [if_neg c8] at H
         have c8b0 : decide (x8_2 < (l0.length : Int)) = false := jb c8
         clear c8
         have H' := jA H
         clear H
         go_wp2
         go_roundg k2
         case measure => have := HK1.out; have := HK2.out; omega
         case rel => exact ⟨(x5_2), (wrap64 (x11_1 + 1)), zz, H', ⟨by have := HK1.out; have := HK2.out; omega⟩, ⟨by (with_reducible repeat (first | apply Kd.S_alloc | apply Kd.S_drewN | apply Kd.S_drew)); exact HO_5.out⟩, ⟨zb1 HB GE180⟩⟩
     ·rw [if_neg c5] at H
      exact absurd H (by simp)
    ·rw [if_neg c4] at H
     exact absurd H (by simp)
   ·rw [if_neg c3] at H
    have c3b0 : decide (x11_1 < (l0.length : Int)) = false := jb c3
    clear c3
    obtain rfl := jM H
    go_wp2
    go_ret
    exact ⟨_, by first | rfl | (simp [errW_none, errW_some] <;> rfl) | (simp [*, errW_none, errW_some] <;> rfl), by (with_reducible repeat (first | apply Kd.S_alloc | apply Kd.S_drewN | apply Kd.S_drew)); exact HO_5.out, zb0 HB⟩

/-! ### impl_GreatestFactor: function 41 -/
def impl_GreatestFactor.l0 : Nat → List (S51) → Int → Option (Int × Int)
 | 0, _, _ => none
 | k + 1, x0, x4 => (impl_closePairs.f k x0 x4).bind fun t190 => (if (t190.length : Int) > 0 then (impl_GreatestFactor.l0 k x0 (wrap64 (x4 - 1))) else (some (x4, 0)))
def impl_GreatestFactor.f (k : Nat) (l0 : List (S51)) : Option (Int × Int) := (impl_AreDepots.f k l0).bind fun t189 => (if t189 = true then (impl_GreatestFactor.l0 k l0 500) else (some (0, 1)))
theorem impl_GreatestFactor.mono_l : ∀ k, (∀ y0 y1, LeO (impl_GreatestFactor.l0 k y0 y1) (impl_GreatestFactor.l0 (k + 1) y0 y1))
 | 0 => fun _ _ r h => by simp [impl_GreatestFactor.l0] at h
 | k + 1 => by
  have ih0 := impl_GreatestFactor.mono_l k
  ·intro y0 y1
   unfold impl_GreatestFactor.l0
   repeat' first
   | (with_reducible exact ih0 _ _)
   | (with_reducible exact impl_AreDepots.mono _ _)
   | (with_reducible exact impl_closePairs.mono _ _ _)
   | (with_reducible exact LeO.refl _)
   | (with_reducible exact LeO.none _)
   | (with_reducible refine LeO.ite ?_ ?_)
   | (with_reducible refine LeO.bind ?_ (fun _ => ?_))
   | exact ih0 _ _
   | exact impl_AreDepots.mono _ _
   | exact impl_closePairs.mono _ _ _
   | exact LeO.none _
   | refine LeO.ite ?_ ?_
   | refine LeO.bind ?_ (fun _ => ?_)
theorem impl_GreatestFactor.mono : ∀ a0 k, LeO (impl_GreatestFactor.f k a0) (impl_GreatestFactor.f (k + 1) a0) := by
 intro a0 k
 have ih0 := impl_GreatestFactor.mono_l k
 unfold impl_GreatestFactor.f
 repeat' first
   | (with_reducible exact ih0 _ _)
   | (with_reducible exact impl_AreDepots.mono _ _)
   | (with_reducible exact impl_closePairs.mono _ _ _)
   | (with_reducible exact LeO.refl _)
   | (with_reducible exact LeO.none _)
   | (with_reducible refine LeO.ite ?_ ?_)
   | (with_reducible refine LeO.bind ?_ (fun _ => ?_))
   | exact ih0 _ _
   | exact impl_AreDepots.mono _ _
   | exact impl_closePairs.mono _ _ _
   | exact LeO.none _
   | refine LeO.ite ?_ ?_
   | refine LeO.bind ?_ (fun _ => ?_)
set_option maxHeartbeats 8000000 in
set_option maxRecDepth 100000 in
theorem impl_GreatestFactor.calls (k : Nat) (A0 : Option Addr) (c0 : Nat) (l0 : List (S51)) (r1 : Int) (r2 : Int) (w : World) (hr0 : Kd.C k51 w A0 l0.length l0) (hc0 : l0.length ≤ c0) (h : impl_GreatestFactor.f k l0 = some (r1, r2)) :
  Calls Try.prog 41 #[.slice A0 l0.length c0] w fun e w' => e = .returned (.tuple #[.int .i64 r1, .int .i64 r2]) ∧ Below w.heap.size w w' := by
 have HR0 := jA hr0
 have HC0 := jA hc0
 clear hr0 hc0
 have HB := jA (Below.refl w.heap.size w)
 have H : ((impl_AreDepots.f k l0).bind fun t189 => (if t189 = true then (impl_GreatestFactor.l0 k l0 500) else (some (0, 1)))) = some (r1, r2) := h
 clear h
 replace H := jD.mp H
 obtain ⟨t189, A20, H⟩ := H
 replace H : (if t189 = true then (impl_GreatestFactor.l0 k l0 500) else (some (0, 1))) = some (r1, r2) := H
 have A2 := jA A20
 clear A20
 by_cases c3 : t189 = true
 ·subst c3
  have H1 : (impl_GreatestFactor.l0 k l0 500) = some (r1, r2) := by rw [if_pos rfl] at H; exact H
  clear H
  have H := H1
  clear H1
  have H' := jA H
  clear H
  go_enter Try.func41, Try.ntmps41
  go_wp2_with (first | ((with_reducible refine jH (f := 22) rfl ?_); refine goesL_ (some 6) rfl rfl Try.func22 zr rfl #[.slice A0 l0.length c0] rfl zm ?_; (with_reducible refine (impl_AreDepots.calls k _ _ l0 true _ ?side1 ?side2 A2.out).mono ?_); (case side1 => repeat (first | exact HR0.out | (with_reducible refine jO ?_ _) | (with_reducible refine jN ?_ _) | (with_reducible refine jS ?_))); (case side2 => exact HC0.out); rintro e w4 ⟨rfl, hb⟩; refine ⟨_, rfl, ?_⟩; have n0_ := jA (jT (zb0 HB) hb); clear HB; have HB := n0_; clear n0_; (try clear hb); (try clear hb2); (try clear hk); (try clear hi)))
  go_loopg [4] k (fun kq v4 w' => ∃ (x4_1 : Int), v4 = .int .i64 x4_1 ∧ Aside0 (impl_GreatestFactor.l0 kq l0 x4_1 = some (r1, r2)) ∧ Aside0 (kq ≤ k) ∧ Aside0 (Below w.heap.size w w'))
  case atStart => exact ⟨(500), zz, H', ⟨Nat.le_refl _⟩, ⟨zb0 HB⟩⟩
  case round =>
   clear H'
   try clear c2
   try clear p2
   try clear c3
   try clear c4
   obtain ⟨x4_1, rfl, HA, HK1, HB⟩ := hrel
   cases gk with
   | zero => exact absurd HA.out (by simp [impl_GreatestFactor.l0])
   | succ k1 =>
    have H := HA.out
    clear HA
    simp only [impl_GreatestFactor.l0] at H
    replace H := jD.mp H
    obtain ⟨t190, A50, H⟩ := H
    replace H : (if (t190.length : Int) > 0 then (impl_GreatestFactor.l0 k1 l0 (wrap64 (x4_1 - 1))) else (some (x4_1, 0))) = some (r1, r2) := H
    have A5 := jA A50
    clear A50
    by_cases c6 : (t190.length : Int) > 0
    ·rw [if_pos c6] at H
     have c6b0 : decide (0 < (t190.length : Int)) = true := jG c6
     have c6b1 : decide (0 < t190.length) = true := jG (by omega)
     clear c6
     have H' := jA H
     clear H
     go_wp2_with (first | ((with_reducible refine jH (f := 77) rfl ?_); refine goesL_ (some 10) rfl rfl Try.func77 zr rfl #[.slice A0 l0.length c0, .int .i64 x4_1] rfl zm ?_; (with_reducible refine (impl_closePairs.calls k1 _ _ l0 x4_1 t190 _ ?side1 ?side2 A5.out).mono ?_); (case side1 => exact zs HR0 HB); (case side2 => exact HC0.out); rintro e w7 ⟨v191, rfl, ho0, hb⟩; refine ⟨_, rfl, ?_⟩; have n0_ := jA (Kd.S_lower ho0 (jW (zb0 HB))); have n1_ := jA (jT (zb0 HB) hb); clear HB; have HO192 := n0_; have HB := n1_; clear n0_ n1_; (try clear hb); (try clear hb2); (try clear hk); (try clear hi); (try clear ho0); obtain ⟨Ao8, co8, eo8⟩ := Kd.S_slice HO192.out; subst eo8))
     go_roundg k1
     case measure => have := HK1.out; omega
     case rel => exact ⟨(wrap64 (x4_1 - 1)), zz, H', ⟨by have := HK1.out; omega⟩, ⟨zb0 HB⟩⟩
    ·rw [if_neg c6] at H
     have c6b0 : decide (0 < (t190.length : Int)) = false := jb c6
     have c6b1 : decide (0 < t190.length) = false := jb (by omega)
     clear c6
     simp only [jU, jY] at H
     obtain ⟨rfl, rfl⟩ := H
     go_wp2_with (first | ((with_reducible refine jH (f := 77) rfl ?_); refine goesL_ (some 10) rfl rfl Try.func77 zr rfl #[.slice A0 l0.length c0, .int .i64 x4_1] rfl zm ?_; (with_reducible refine (impl_closePairs.calls k1 _ _ l0 x4_1 t190 _ ?side1 ?side2 A5.out).mono ?_); (case side1 => exact zs HR0 HB); (case side2 => exact HC0.out); rintro e w9 ⟨v191, rfl, ho0, hb⟩; refine ⟨_, rfl, ?_⟩; have n0_ := jA (Kd.S_lower ho0 (jW (zb0 HB))); have n1_ := jA (jT (zb0 HB) hb); clear HB; have HO192 := n0_; have HB := n1_; clear n0_ n1_; (try clear hb); (try clear hb2); (try clear hk); (try clear hi); (try clear ho0); obtain ⟨Ao10, co10, eo10⟩ := Kd.S_slice HO192.out; subst eo10))
     go_ret2
     exact ⟨by first | rfl | (simp [errW_none, errW_some] <;> rfl) | (simp [*, errW_none, errW_some] <;> rfl), zb0 HB⟩
 ·replace c3 := Bool.eq_false_iff.mpr c3
  subst c3
  have H1 : (some (0, 1)) = some (r1, r2) := by rw [if_neg (show ¬ (false = true) by decide)] at H; exact H
  clear H
  have H := H1
  clear H1
  simp only [jU, jY] at H
  obtain ⟨rfl, rfl⟩ := H
  go_enter Try.func41, Try.ntmps41
  go_wp2_with (first | ((with_reducible refine jH (f := 22) rfl ?_); refine goesL_ (some 6) rfl rfl Try.func22 zr rfl #[.slice A0 l0.length c0] rfl zm ?_; (with_reducible refine (impl_AreDepots.calls k _ _ l0 false _ ?side1 ?side2 A2.out).mono ?_); (case side1 => repeat (first | exact HR0.out | (with_reducible refine jO ?_ _) | (with_reducible refine jN ?_ _) | (with_reducible refine jS ?_))); (case side2 => exact HC0.out); rintro e w11 ⟨rfl, hb⟩; refine ⟨_, rfl, ?_⟩; have n0_ := jA (jT (zb0 HB) hb); clear HB; have HB := n0_; clear n0_; (try clear hb); (try clear hb2); (try clear hk); (try clear hi)))
  go_ret2
  exact ⟨by first | rfl | (simp [errW_none, errW_some] <;> rfl) | (simp [*, errW_none, errW_some] <;> rfl), zb0 HB⟩

/-! ### spec_l27Grams: function 55 -/
def spec_l27Grams.f (a0 : Int) (a1 : Int) : Option (Int) := if a0 = 0 then (some 100000000) else ((spec_l27Cube.f a1).bind fun t193 => ((spec_l27Cube.f a0).bind fun t194 => (if t194 = 0 then (none) else (some (mn 100000000 (wrap64 (Int.tdiv t193 t194)))))))
set_option maxHeartbeats 8000000 in
set_option maxRecDepth 100000 in
theorem spec_l27Grams.calls (a0 : Int) (a1 : Int) (r : Int) (w : World) (h : spec_l27Grams.f a0 a1 = some r) :
  Calls Try.prog 55 #[.int .i64 a0, .int .i64 a1] w fun e w' => e = .returned (.int .i64 r) ∧ Below w.heap.size w w' := by
 have HB := jA (Below.refl w.heap.size w)
 have H : (if a0 = 0 then (some 100000000) else ((spec_l27Cube.f a1).bind fun t193 => ((spec_l27Cube.f a0).bind fun t194 => (if t194 = 0 then (none) else (some (mn 100000000 (wrap64 (Int.tdiv t193 t194)))))))) = some r := h
 clear h
 by_cases c3 : a0 = 0
 ·rw [if_pos c3] at H
  have c3b0 : (a0 == 0) = true := beq_iff_eq.mpr c3
  have c3b1 : (a0 != 0) = false := bne_eq_false_iff_eq.mpr c3
  clear c3
  obtain rfl := jM H
  go_enter Try.func55, Try.ntmps55
  go_wp2
  go_ret
  exact ⟨by first | rfl | (simp [errW_none, errW_some] <;> rfl) | (simp [*, errW_none, errW_some] <;> rfl), zb0 HB⟩
 ·rw [if_neg c3] at H
  have c3b0 : (a0 == 0) = false := beq_eq_false_iff_ne.mpr c3
  have c3b1 : (a0 != 0) = true := bne_iff_ne.mpr c3
  replace H := jD.mp H
  obtain ⟨t193, A40, H⟩ := H
  replace H : ((spec_l27Cube.f a0).bind fun t194 => (if t194 = 0 then (none) else (some (mn 100000000 (wrap64 (Int.tdiv t193 t194)))))) = some r := H
  have A4 := jA A40
  clear A40
  replace H := jD.mp H
  obtain ⟨t194, A50, H⟩ := H
  replace H : (if t194 = 0 then (none) else (some (mn 100000000 (wrap64 (Int.tdiv t193 t194))))) = some r := H
  have A5 := jA A50
  clear A50
  by_cases c6 : t194 = 0
  ·rw [if_pos c6] at H
   exact absurd H (by simp)
  ·rw [if_neg c6] at H
   have c6b0 : (t194 == 0) = false := beq_eq_false_iff_ne.mpr c6
   have c6b1 : (t194 != 0) = true := bne_iff_ne.mpr c6
   obtain ⟨ji7, hji7⟩ : ∃ j_ : Int, (mn 100000000 (wrap64 (Int.tdiv t193 t194))) = j_ := ⟨_, rfl⟩
   replace H : (some ji7) = some r := by first | (rw [hji7] at H; exact H) | (simp only [hji7] at H ⊢; exact H)
   (try rw [hji7] at A4)
   (try rw [hji7] at A5)
   (try (have hji7h : ji7 ≤ 100000000 := by (rw [← hji7]; unfold mn; (repeat' split) <;> omega)))
   (try (have hji7g : ji7 ≤ 64 := by omega))
   have hji7_ : (if (wrap64 (Int.tdiv t193 t194)) < 100000000 then (wrap64 (Int.tdiv t193 t194)) else 100000000) = ji7 := hji7
   obtain rfl := jM H
   go_enter Try.func55, Try.ntmps55
   go_wp2_with (first | ((with_reducible refine jH (f := 86) rfl ?_); refine goesL_ (some 8) rfl rfl Try.func86 zr rfl #[.int .i64 a1] rfl zm ?_; (with_reducible refine (spec_l27Cube.calls a1 t193 _ A4.out).mono ?_); rintro e w' ⟨rfl, ⟨nd, rfl⟩⟩; refine ⟨_, rfl, ?_⟩) | ((with_reducible refine jH (f := 86) rfl ?_); refine goesL_ (some 10) rfl rfl Try.func86 zr rfl #[.int .i64 a0] rfl zm ?_; (with_reducible refine (spec_l27Cube.calls a0 t194 _ A5.out).mono ?_); rintro e w' ⟨rfl, ⟨nd, rfl⟩⟩; refine ⟨_, rfl, ?_⟩))
   go_ret
   exact ⟨by first | rfl | (simp [errW_none, errW_some] <;> rfl) | (simp only [← hji7]; first | rfl | (simp [errW_none, errW_some] <;> rfl)) | (simp [*, errW_none, errW_some] <;> rfl), zb0 HB⟩

/-! ### spec_l27Root: function 79 -/
def spec_l27Root.l0 : Nat → Int → Int → Int → Option (Int)
 | 0, _, _, _ => none
 | k + 1, x0, x3, x4 => if (wrap64 (x3 + 1)) < x4 then (if (wrap64 ((wrap64 (Int.tdiv (wrap64 (x3 + x4)) 2)) * (wrap64 (Int.tdiv (wrap64 (x3 + x4)) 2)))) ≤ x0 then (spec_l27Root.l0 k x0 (wrap64 (Int.tdiv (wrap64 (x3 + x4)) 2)) x4) else (spec_l27Root.l0 k x0 x3 (wrap64 (Int.tdiv (wrap64 (x3 + x4)) 2)))) else (some x3)
def spec_l27Root.f (k : Nat) (a0 : Int) : Option (Int) := spec_l27Root.l0 k a0 0 150000
theorem spec_l27Root.mono_l : ∀ k, (∀ y0 y1 y2, LeO (spec_l27Root.l0 k y0 y1 y2) (spec_l27Root.l0 (k + 1) y0 y1 y2))
 | 0 => fun _ _ _ r h => by simp [spec_l27Root.l0] at h
 | k + 1 => by
  have ih0 := spec_l27Root.mono_l k
  ·intro y0 y1 y2
   unfold spec_l27Root.l0
   repeat' first
   | (with_reducible exact ih0 _ _ _)
   | (with_reducible exact LeO.refl _)
   | (with_reducible exact LeO.none _)
   | (with_reducible refine LeO.ite ?_ ?_)
   | (with_reducible refine LeO.bind ?_ (fun _ => ?_))
   | exact ih0 _ _ _
   | exact LeO.none _
   | refine LeO.ite ?_ ?_
   | refine LeO.bind ?_ (fun _ => ?_)
theorem spec_l27Root.mono : ∀ a0 k, LeO (spec_l27Root.f k a0) (spec_l27Root.f (k + 1) a0) := by
 intro a0 k
 have ih0 := spec_l27Root.mono_l k
 unfold spec_l27Root.f
 repeat' first
   | (with_reducible exact ih0 _ _ _)
   | (with_reducible exact LeO.refl _)
   | (with_reducible exact LeO.none _)
   | (with_reducible refine LeO.ite ?_ ?_)
   | (with_reducible refine LeO.bind ?_ (fun _ => ?_))
   | exact ih0 _ _ _
   | exact LeO.none _
   | refine LeO.ite ?_ ?_
   | refine LeO.bind ?_ (fun _ => ?_)
set_option maxHeartbeats 8000000 in
set_option maxRecDepth 100000 in
theorem spec_l27Root.calls (k : Nat) (a0 : Int) (r : Int) (w : World) (h : spec_l27Root.f k a0 = some r) :
  Calls Try.prog 79 #[.int .i64 a0] w fun e w' => e = .returned (.int .i64 r) ∧ Drawn0 w w' := by
 have H : (spec_l27Root.l0 k a0 0 150000) = some r := h
 clear h
 have H' := jA H
 clear H
 go_enter Try.func79, Try.ntmps79
 go_wp2
 go_loopg [3, 4] k (fun kq v3 v4 w' => ∃ (x3_1 : Int) (x4_1 : Int), v3 = .int .i64 x3_1 ∧ v4 = .int .i64 x4_1 ∧ Aside0 (spec_l27Root.l0 kq a0 x3_1 x4_1 = some r) ∧ Aside0 (kq ≤ k) ∧ Drawn0 w w')
 case atStart => exact ⟨(0), (150000), zz, zz, H', ⟨Nat.le_refl _⟩, by repeat (first | exact Drawn0.refl _ | apply Drawn0.step)⟩
 case round =>
  clear H'
  obtain ⟨x3_1, x4_1, rfl, rfl, HA, HK1, ⟨m1, rfl⟩⟩ := hrel
  cases gk with
  | zero => exact absurd HA.out (by simp [spec_l27Root.l0])
  | succ k1 =>
   have H := HA.out
   clear HA
   simp only [spec_l27Root.l0] at H
   by_cases c2 : (wrap64 (x3_1 + 1)) < x4_1
   ·rw [if_pos c2] at H
    have c2b0 : decide ((wrap64 (x3_1 + 1)) < x4_1) = true := jG c2
    clear c2
    by_cases c3 : (wrap64 ((wrap64 (Int.tdiv (wrap64 (x3_1 + x4_1)) 2)) * (wrap64 (Int.tdiv (wrap64 (x3_1 + x4_1)) 2)))) ≤ a0
    ·rw [if_pos c3] at H
     have c3b0 : decide ((wrap64 ((wrap64 (Int.tdiv (wrap64 (x3_1 + x4_1)) 2)) * (wrap64 (Int.tdiv (wrap64 (x3_1 + x4_1)) 2)))) ≤ a0) = true := jG c3
     clear c3
     have H' := jA H
     clear H
     go_wp2
     go_roundg k1
     case measure => have := HK1.out; omega
     case rel => exact ⟨(wrap64 (Int.tdiv (wrap64 (x3_1 + x4_1)) 2)), (x4_1), zz, zz, H', ⟨by have := HK1.out; omega⟩, by repeat (first | exact Drawn0.refl _ | apply Drawn0.step)⟩
    ·rw [if_neg c3] at H
     have c3b0 : decide ((wrap64 ((wrap64 (Int.tdiv (wrap64 (x3_1 + x4_1)) 2)) * (wrap64 (Int.tdiv (wrap64 (x3_1 + x4_1)) 2)))) ≤ a0) = false := jb c3
     clear c3
     have H' := jA H
     clear H
     go_wp2
     go_roundg k1
     case measure => have := HK1.out; omega
     case rel => exact ⟨(x3_1), (wrap64 (Int.tdiv (wrap64 (x3_1 + x4_1)) 2)), zz, zz, H', ⟨by have := HK1.out; omega⟩, by repeat (first | exact Drawn0.refl _ | apply Drawn0.step)⟩
   ·rw [if_neg c2] at H
    have c2b0 : decide ((wrap64 (x3_1 + 1)) < x4_1) = false := jb c2
    clear c2
    obtain rfl := jM H
    go_wp2
    go_ret
    exact ⟨by first | rfl | (simp; done) | (simp [*]; done), by repeat (first | exact Drawn0.refl _ | apply Drawn0.step)⟩

end Go.Proofs.Ytmhnkhealidjjaa.PFnDepots
