/- Functions and contracts that FnDepots reaches (7 of 11). -/
import Derived.Test.YtmhnkhealidjjaaQFnDepotsx5
namespace Go.Proofs.Ytmhnkhealidjjaa.PFnDepots
open Go.RowKit Go.Proofs.YtmhnkhealidjjaaW.PrintWords Go.Proofs.YtmhnkhealidjjaaW.PrintLast Go.Proofs.YtmhnkhealidjjaaW.PrintMore
attribute [local go_sem] max2_int min2_int max_two min_two max_three min_three max_four min_four   -- for this text's walks alone
set_option linter.unusedVariables false
set_option linter.unusedSimpArgs false

/-! ### impl_LimitOf: function 43 -/
mutual
def impl_LimitOf.j0 : Nat → List (S51) → Int → Int → Bool → Option (Int × Int)
 | 0, _, _, _, _ => none
 | k + 1, x0, x1, x2, x27 => if x27 = true then (some (0, 2)) else (impl_LimitOf.l0 k x0 x1 x2 (-1) 100000000)
def impl_LimitOf.l0 : Nat → List (S51) → Int → Int → Int → Int → Option (Int × Int)
 | 0, _, _, _, _, _ => none
 | k + 1, x0, x1, x2, x8, x9 => if x8 < x9 then ((impl_floorDiv.f (wrap64 ((wrap64 (x8 + x9)) + 1)) 2).bind fun t211 => (if 0 ≤ x2 then (if x2 < (x0.length : Int) then (impl_LimitOf.l1 k x0 x1 x2 x8 x9 t211 false x0 (x0.length : Int) 0 ((rd_T51 x0 x2).f0) ((rd_T51 x0 x2).f1) t211) else (none)) else (none))) else (if x8 < 0 then (some (0, 4)) else (some (x8, 0)))
def impl_LimitOf.l1 : Nat → List (S51) → Int → Int → Int → Int → Int → Bool → List (S51) → Int → Int → Int → Int → Int → Option (Int × Int)
 | 0, _, _, _, _, _, _, _, _, _, _, _, _, _ => none
 | k + 1, x0, x1, x2, x8, x9, x10, x12, x42, x43, x44, x214000, x214001, x214002 => if x44 < x43 then (if 0 ≤ x44 then (if x44 < (x42.length : Int) then (if x44 = x2 then (impl_LimitOf.l1 k x0 x1 x2 x8 x9 x10 x12 x42 x43 (wrap64 (x44 + 1)) x214000 x214001 x214002) else ((impl_areClose.f k x214000 x214001 x214002 ((rd_T51 x42 x44).f0) ((rd_T51 x42 x44).f1) ((rd_T51 x42 x44).f2) x1).bind fun t216 => (if t216 = true then (impl_LimitOf.l1 k x0 x1 x2 x8 x9 x10 true x42 x43 (wrap64 (x44 + 1)) x214000 x214001 x214002) else (impl_LimitOf.l1 k x0 x1 x2 x8 x9 x10 x12 x42 x43 (wrap64 (x44 + 1)) x214000 x214001 x214002)))) else (none)) else (none)) else (if x12 = true then (impl_LimitOf.l0 k x0 x1 x2 x8 (wrap64 (x10 - 1))) else (impl_LimitOf.l0 k x0 x1 x2 x10 x9))
end
def impl_LimitOf.f (k : Nat) (l0 : List (S51)) (a1 : Int) (a2 : Int) : Option (Int × Int) := (impl_AreDepots.f k l0).bind fun t208 => (if t208 = true then ((impl_isFactor.f a1).bind fun t209 => (if t209 = true then ((impl_isIndex.f a2 (l0.length : Int)).bind fun t210 => (impl_LimitOf.j0 k l0 a1 a2 (!t210))) else (impl_LimitOf.j0 k l0 a1 a2 true))) else (some (0, 1)))
theorem impl_LimitOf.mono_l : ∀ k, (∀ y0 y1 y2 y3, LeO (impl_LimitOf.j0 k y0 y1 y2 y3) (impl_LimitOf.j0 (k + 1) y0 y1 y2 y3)) ∧ (∀ y0 y1 y2 y3 y4, LeO (impl_LimitOf.l0 k y0 y1 y2 y3 y4) (impl_LimitOf.l0 (k + 1) y0 y1 y2 y3 y4)) ∧ (∀ y0 y1 y2 y3 y4 y5 y6 y7 y8 y9 y10 y11 y12, LeO (impl_LimitOf.l1 k y0 y1 y2 y3 y4 y5 y6 y7 y8 y9 y10 y11 y12) (impl_LimitOf.l1 (k + 1) y0 y1 y2 y3 y4 y5 y6 y7 y8 y9 y10 y11 y12))
 | 0 => ⟨fun _ _ _ _ r h => by simp [impl_LimitOf.j0] at h, fun _ _ _ _ _ r h => by simp [impl_LimitOf.l0] at h, fun _ _ _ _ _ _ _ _ _ _ _ _ _ r h => by simp [impl_LimitOf.l1] at h⟩
 | k + 1 => by
  obtain ⟨ih0, ih1, ih2⟩ := impl_LimitOf.mono_l k
  refine ⟨?_, ?_, ?_⟩
  ·intro y0 y1 y2 y3
   unfold impl_LimitOf.j0
   repeat' first
   | (with_reducible exact ih0 _ _ _ _)
   | (with_reducible exact ih1 _ _ _ _ _)
   | (with_reducible exact ih2 _ _ _ _ _ _ _ _ _ _ _ _ _)
   | (with_reducible exact impl_AreDepots.mono _ _)
   | (with_reducible exact impl_areClose.mono _ _ _ _ _ _ _ _)
   | (with_reducible exact LeO.refl _)
   | (with_reducible exact LeO.none _)
   | (with_reducible refine LeO.ite ?_ ?_)
   | (with_reducible refine LeO.bind ?_ (fun _ => ?_))
   | exact ih0 _ _ _ _
   | exact ih1 _ _ _ _ _
   | exact ih2 _ _ _ _ _ _ _ _ _ _ _ _ _
   | exact impl_AreDepots.mono _ _
   | exact impl_areClose.mono _ _ _ _ _ _ _ _
   | exact LeO.none _
   | refine LeO.ite ?_ ?_
   | refine LeO.bind ?_ (fun _ => ?_)
  ·intro y0 y1 y2 y3 y4
   unfold impl_LimitOf.l0
   repeat' first
   | (with_reducible exact ih0 _ _ _ _)
   | (with_reducible exact ih1 _ _ _ _ _)
   | (with_reducible exact ih2 _ _ _ _ _ _ _ _ _ _ _ _ _)
   | (with_reducible exact impl_AreDepots.mono _ _)
   | (with_reducible exact impl_areClose.mono _ _ _ _ _ _ _ _)
   | (with_reducible exact LeO.refl _)
   | (with_reducible exact LeO.none _)
   | (with_reducible refine LeO.ite ?_ ?_)
   | (with_reducible refine LeO.bind ?_ (fun _ => ?_))
   | exact ih0 _ _ _ _
   | exact ih1 _ _ _ _ _
   | exact ih2 _ _ _ _ _ _ _ _ _ _ _ _ _
   | exact impl_AreDepots.mono _ _
   | exact impl_areClose.mono _ _ _ _ _ _ _ _
   | exact LeO.none _
   | refine LeO.ite ?_ ?_
   | refine LeO.bind ?_ (fun _ => ?_)
  ·intro y0 y1 y2 y3 y4 y5 y6 y7 y8 y9 y10 y11 y12
   unfold impl_LimitOf.l1
   repeat' first
   | (with_reducible exact ih0 _ _ _ _)
   | (with_reducible exact ih1 _ _ _ _ _)
   | (with_reducible exact ih2 _ _ _ _ _ _ _ _ _ _ _ _ _)
   | (with_reducible exact impl_AreDepots.mono _ _)
   | (with_reducible exact impl_areClose.mono _ _ _ _ _ _ _ _)
   | (with_reducible exact LeO.refl _)
   | (with_reducible exact LeO.none _)
   | (with_reducible refine LeO.ite ?_ ?_)
   | (with_reducible refine LeO.bind ?_ (fun _ => ?_))
   | exact ih0 _ _ _ _
   | exact ih1 _ _ _ _ _
   | exact ih2 _ _ _ _ _ _ _ _ _ _ _ _ _
   | exact impl_AreDepots.mono _ _
   | exact impl_areClose.mono _ _ _ _ _ _ _ _
   | exact LeO.none _
   | refine LeO.ite ?_ ?_
   | refine LeO.bind ?_ (fun _ => ?_)
theorem impl_LimitOf.mono : ∀ a0 a1 a2 k, LeO (impl_LimitOf.f k a0 a1 a2) (impl_LimitOf.f (k + 1) a0 a1 a2) := by
 intro a0 a1 a2 k
 obtain ⟨ih0, ih1, ih2⟩ := impl_LimitOf.mono_l k
 unfold impl_LimitOf.f
 repeat' first
   | (with_reducible exact ih0 _ _ _ _)
   | (with_reducible exact ih1 _ _ _ _ _)
   | (with_reducible exact ih2 _ _ _ _ _ _ _ _ _ _ _ _ _)
   | (with_reducible exact impl_AreDepots.mono _ _)
   | (with_reducible exact impl_areClose.mono _ _ _ _ _ _ _ _)
   | (with_reducible exact LeO.refl _)
   | (with_reducible exact LeO.none _)
   | (with_reducible refine LeO.ite ?_ ?_)
   | (with_reducible refine LeO.bind ?_ (fun _ => ?_))
   | exact ih0 _ _ _ _
   | exact ih1 _ _ _ _ _
   | exact ih2 _ _ _ _ _ _ _ _ _ _ _ _ _
   | exact impl_AreDepots.mono _ _
   | exact impl_areClose.mono _ _ _ _ _ _ _ _
   | exact LeO.none _
   | refine LeO.ite ?_ ?_
   | refine LeO.bind ?_ (fun _ => ?_)
set_option maxHeartbeats 8000000 in
set_option maxRecDepth 100000 in
theorem impl_LimitOf.calls (k : Nat) (A0 : Option Addr) (c0 : Nat) (l0 : List (S51)) (a1 : Int) (a2 : Int) (r1 : Int) (r2 : Int) (w : World) (hr0 : Kd.C k51 w A0 l0.length l0) (hc0 : l0.length ≤ c0) (h : impl_LimitOf.f k l0 a1 a2 = some (r1, r2)) :
  Calls Try.prog 43 #[.slice A0 l0.length c0, .int .i64 a1, .int .i64 a2] w fun e w' => e = .returned (.tuple #[.int .i64 r1, .int .i64 r2]) ∧ Below w.heap.size w w' := by
 have hu51 := Try.underlying51
 have HR0 := jA hr0
 have HC0 := jA hc0
 clear hr0 hc0
 have HB := jA (Below.refl w.heap.size w)
 have H : ((impl_AreDepots.f k l0).bind fun t208 => (if t208 = true then ((impl_isFactor.f a1).bind fun t209 => (if t209 = true then ((impl_isIndex.f a2 (l0.length : Int)).bind fun t210 => (impl_LimitOf.j0 k l0 a1 a2 (!t210))) else (impl_LimitOf.j0 k l0 a1 a2 true))) else (some (0, 1)))) = some (r1, r2) := h
 clear h
 replace H := jD.mp H
 obtain ⟨t208, A40, H⟩ := H
 replace H : (if t208 = true then ((impl_isFactor.f a1).bind fun t209 => (if t209 = true then ((impl_isIndex.f a2 (l0.length : Int)).bind fun t210 => (impl_LimitOf.j0 k l0 a1 a2 (!t210))) else (impl_LimitOf.j0 k l0 a1 a2 true))) else (some (0, 1))) = some (r1, r2) := H
 have A4 := jA A40
 clear A40
 by_cases c5 : t208 = true
 ·subst c5
  have H1 : ((impl_isFactor.f a1).bind fun t209 => (if t209 = true then ((impl_isIndex.f a2 (l0.length : Int)).bind fun t210 => (impl_LimitOf.j0 k l0 a1 a2 (!t210))) else (impl_LimitOf.j0 k l0 a1 a2 true))) = some (r1, r2) := by rw [if_pos rfl] at H; exact H
  clear H
  have H := H1
  clear H1
  have HC6 := jA H
  clear H
  go_enter Try.func43, Try.ntmps43
  go_upto_region 3 with (first | ((with_reducible refine jH (f := 22) rfl ?_); refine goesL_ (some 16) rfl rfl Try.func22 zr rfl #[.slice A0 l0.length c0] rfl zm ?_; (with_reducible refine (impl_AreDepots.calls k _ _ l0 true _ ?side1 ?side2 A4.out).mono ?_); (case side1 => repeat (first | exact HR0.out | (with_reducible refine jO ?_ _) | (with_reducible refine jN ?_ _) | (with_reducible refine jS ?_))); (case side2 => exact HC0.out); rintro e w7 ⟨rfl, hb⟩; refine ⟨_, rfl, ?_⟩; have n0_ := jA (jT (zb0 HB) hb); clear HB; have HB := n0_; clear n0_; (try clear hb); (try clear hb2); (try clear hk); (try clear hi)))
  (try simp only [Act.put, jE, jI, jJ])
  go_cut [27] (fun v27 wc => ∃ (kq : Nat) (x27_5 : Bool), v27 = .bool x27_5 ∧ Aside0 (impl_LimitOf.j0 kq l0 a1 a2 x27_5 = some (r1, r2)) ∧ Aside0 (kq ≤ k) ∧ Aside0 (Below w.heap.size w wc))
  case first =>
   have H := HC6.out
   clear HC6
   replace H := jD.mp H
   obtain ⟨t209, A80, H⟩ := H
   replace H : (if t209 = true then ((impl_isIndex.f a2 (l0.length : Int)).bind fun t210 => (impl_LimitOf.j0 k l0 a1 a2 (!t210))) else (impl_LimitOf.j0 k l0 a1 a2 true)) = some (r1, r2) := H
   have A8 := jA A80
   clear A80
   by_cases c9 : t209 = true
   ·subst c9
    have H1 : ((impl_isIndex.f a2 (l0.length : Int)).bind fun t210 => (impl_LimitOf.j0 k l0 a1 a2 (!t210))) = some (r1, r2) := by rw [if_pos rfl] at H; exact H
    clear H
    have H := H1
    clear H1
    replace H := jD.mp H
    obtain ⟨t210, A100, H⟩ := H
    replace H : (impl_LimitOf.j0 k l0 a1 a2 (!t210)) = some (r1, r2) := H
    have A10 := jA A100
    clear A100
    have H' := jA H
    clear H
    go_wp2_with (first | ((with_reducible refine jH (f := 56) rfl ?_); refine goesL_ (some 19) rfl rfl Try.func56 zr rfl #[.int .i64 a1] rfl zm ?_; (with_reducible refine (impl_isFactor.calls a1 true _ A8.out).mono ?_); rintro e w' ⟨rfl, ⟨nd, rfl⟩⟩; refine ⟨_, rfl, ?_⟩) | (go_at_call 73; (with_reducible refine (impl_isIndex.calls a2 (l0.length : Int) t210 _ A10.out).mono ?_); rintro e w' ⟨rfl, ⟨nd, rfl⟩⟩))
    go_meet
    case rel => exact ⟨_, (!t210), zz, H', ⟨by first | omega | exact Nat.le_refl _⟩, ⟨zb0 HB⟩⟩
   ·replace c9 := Bool.eq_false_iff.mpr c9
    subst c9
    have H1 : (impl_LimitOf.j0 k l0 a1 a2 true) = some (r1, r2) := by rw [if_neg (show ¬ (false = true) by decide)] at H; exact H
    clear H
    have H := H1
    clear H1
    have H' := jA H
    clear H
    go_wp2_with (first | ((with_reducible refine jH (f := 56) rfl ?_); refine goesL_ (some 19) rfl rfl Try.func56 zr rfl #[.int .i64 a1] rfl zm ?_; (with_reducible refine (impl_isFactor.calls a1 false _ A8.out).mono ?_); rintro e w' ⟨rfl, ⟨nd, rfl⟩⟩; refine ⟨_, rfl, ?_⟩))
    go_meet
    case rel => exact ⟨_, (true), zz, H', ⟨by first | omega | exact Nat.le_refl _⟩, ⟨zb0 HB⟩⟩
  case rest =>
   clear HC6
   try clear c2
   try clear p2
   try clear c4
   try clear c5
   try clear c9
   obtain ⟨kq, x27_5, rfl, HA, HJ5, HB⟩ := hcut
   cases kq with
   | zero => exact absurd HA.out (by simp [impl_LimitOf.j0])
   | succ kj5 =>
    have H := HA.out
    clear HA
    simp only [impl_LimitOf.j0] at H
    by_cases c11 : x27_5 = true
    ·subst c11
     have H1 : (some (0, 2)) = some (r1, r2) := by rw [if_pos rfl] at H; exact H
     clear H
     have H := H1
     clear H1
     simp only [jU, jY] at H
     obtain ⟨rfl, rfl⟩ := H
     go_wp2
     go_ret2
     exact ⟨by first | rfl | (simp [errW_none, errW_some] <;> rfl) | (simp [*, errW_none, errW_some] <;> rfl), zb0 HB⟩
    ·replace c11 := Bool.eq_false_iff.mpr c11
     subst c11
     have H1 : (impl_LimitOf.l0 kj5 l0 a1 a2 (-1) 100000000) = some (r1, r2) := by rw [if_neg (show ¬ (false = true) by decide)] at H; exact H
     clear H
     have H := H1
     clear H1
     have H' := jA H
     clear H
     go_wp2
     go_loopg [8, 9] kj5 (fun kq v8 v9 w' => ∃ (x8_2 : Int) (x9_2 : Int), v8 = .int .i64 x8_2 ∧ v9 = .int .i64 x9_2 ∧ Aside0 (impl_LimitOf.l0 kq l0 a1 a2 x8_2 x9_2 = some (r1, r2)) ∧ Aside0 (kq ≤ kj5) ∧ Aside0 (Below w.heap.size w w'))
     case atStart => exact ⟨((-1)), (100000000), zz, zz, H', ⟨Nat.le_refl _⟩, ⟨zb0 HB⟩⟩
     case round =>
      clear H'
      try clear c1
      try clear c2
      try clear p2
      try clear c4
      try clear c5
      try clear c9
      try clear c11
      try clear p2
      obtain ⟨x8_2, x9_2, rfl, rfl, HA, HK2, HB⟩ := hrel
      cases gk with
      | zero => exact absurd HA.out (by simp [impl_LimitOf.l0])
      | succ k2 =>
       have H := HA.out
       clear HA
       simp only [impl_LimitOf.l0] at H
       by_cases c12 : x8_2 < x9_2
       ·rw [if_pos c12] at H
        have c12b0 : decide (x8_2 < x9_2) = true := jG c12
        clear c12
        replace H := jD.mp H
        obtain ⟨t211, A130, H⟩ := H
        replace H : (if 0 ≤ a2 then (if a2 < (l0.length : Int) then (impl_LimitOf.l1 k2 l0 a1 a2 x8_2 x9_2 t211 false l0 (l0.length : Int) 0 ((rd_T51 l0 a2).f0) ((rd_T51 l0 a2).f1) t211) else (none)) else (none)) = some (r1, r2) := H
        have A13 := jA A130
        clear A130
        by_cases c14 : 0 ≤ a2
        ·rw [if_pos c14] at H
         have c14b0 : decide (0 ≤ a2) = true := jG c14
         clear c14
         by_cases c15 : a2 < (l0.length : Int)
         ·rw [if_pos c15] at H
          have c15b0 : decide (a2 < (l0.length : Int)) = true := jG c15
          clear c15
          have H' := jA H
          clear H
          go_wp2_with (first | ((with_reducible refine jH (f := 80) rfl ?_); refine goesL_ (some 35) rfl rfl Try.func80 zr rfl #[.int .i64 (wrap64 ((wrap64 (x8_2 + x9_2)) + 1)), .int .i64 2] rfl zm ?_; (with_reducible refine (impl_floorDiv.calls (wrap64 ((wrap64 (x8_2 + x9_2)) + 1)) 2 t211 _ A13.out).mono ?_); rintro e w' ⟨rfl, ⟨nd, rfl⟩⟩; refine ⟨_, rfl, ?_⟩; (try (rw [drewN_self wr]; generalize hq_ : World.drewN wr _ = wr; have n0_ : Aside0 (Below w.heap.size w wr) := ⟨by rw [← hq_]; exact (zb0 HB)⟩; clear HB hq_; have HB := n0_; clear n0_)); have p212 : 0 ≤ (a2 : Int) := jB za; have q212 : a2 < (l0.length : Int) := jB za; obtain ⟨ad212, e212, hx212_0, hx212_1, hx212_2⟩ := at_T51 HR0.out a2 p212 q212; cases e212; replace hx212_0 := (HB.out.cell (jC w _ hx212_0)).trans hx212_0; replace hx212_1 := (HB.out.cell (jC w _ hx212_1)).trans hx212_1; replace hx212_2 := (HB.out.cell (jC w _ hx212_2)).trans hx212_2; replace p212 := eq_true p212; replace q212 := eq_true q212) | ((with_reducible refine gate_dst (N := 11) rfl ?_); (try (refine gate_guard (by rfl) ?_; dsimp only)); refine box_event ?hg (N := 11) ?hd (cs := #[.int .i64 0, .int .i64 0, .int .i64 0]) (t := 51) ?hr ?_; (case hd => rfl); (case hg => rfl); (case hr => first | (go_simp; done) | (go_simp; rfl)); intro gb213 hg w16 hbox hb; have n0_ := jA (jT (zb0 HB) hb); have n1_ := jA (hbox); have n2_ := jA ((by rw [hg]; exact (jW (zb0 HB)) : w.heap.size ≤ gb213)); have n3_ := jA ((by rw [hg]; exact (jW (zb0 HB)) : w.heap.size ≤ gb213)); clear HB; have HB := n0_; have BK213 := n1_; have GW213 := n2_; have GE213 := n3_; clear n0_ n1_ n2_ n3_; clear hb hbox hg; have hcz17_0 : w16.cell? ⟨gb213, 0, none⟩ = some (.int .i64 0) := (jR BK213.out 0).trans rfl; have hcz17_1 : w16.cell? ⟨gb213, 1, none⟩ = some (.int .i64 0) := (jR BK213.out 1).trans rfl; have hcz17_2 : w16.cell? ⟨gb213, 2, none⟩ = some (.int .i64 0) := (jR BK213.out 2).trans rfl; have hfz17_0 := jV BK213.out 0; have hfz17_1 := jV BK213.out 1; have hfz17_2 := jV BK213.out 2))
          go_loopg [12, 44] k2 (fun kq v12 v44 w' => ∃ (x12_3 : Bool) (x44_3 : Int), v12 = .bool x12_3 ∧ v44 = .int .i64 x44_3 ∧ Aside0 (impl_LimitOf.l1 kq l0 a1 a2 x8_2 x9_2 t211 x12_3 l0 (l0.length : Int) x44_3 ((rd_T51 l0 a2).f0) ((rd_T51 l0 a2).f1) t211 = some (r1, r2)) ∧ Aside0 (kq ≤ k2) ∧ Aside0 (w'.heap[gb213]? = some (.cells #[.int .i64 ((rd_T51 l0 a2).f0), .int .i64 ((rd_T51 l0 a2).f1), .int .i64 t211] 51 (0, 0))) ∧ Aside0 (Below w.heap.size w w'))
          case atStart => exact ⟨(false), (0), zz, zz, H', ⟨Nat.le_refl _⟩, ⟨by (with_reducible repeat (first | refine jc ?_ _ | refine blk_drew ?_ | refine jd ?_ _)); refine blk_put (cs := #[.int .i64 ((rd_T51 l0 a2).f0), .int .i64 ((rd_T51 l0 a2).f1), .int .i64 ((rd_T51 l0 a2).f2)]) ?_ 2 _ rfl; (with_reducible repeat (first | refine jc ?_ _ | refine blk_drew ?_ | refine jd ?_ _)); refine blk_put (cs := #[.int .i64 ((rd_T51 l0 a2).f0), .int .i64 ((rd_T51 l0 a2).f1), .int .i64 0]) ?_ 2 _ rfl; (with_reducible repeat (first | refine jc ?_ _ | refine blk_drew ?_ | refine jd ?_ _)); refine blk_put (cs := #[.int .i64 ((rd_T51 l0 a2).f0), .int .i64 0, .int .i64 0]) ?_ 1 _ rfl; (with_reducible repeat (first | refine jc ?_ _ | refine blk_drew ?_ | refine jd ?_ _)); refine blk_put (cs := #[.int .i64 0, .int .i64 0, .int .i64 0]) ?_ 0 _ rfl; (with_reducible repeat (first | refine jc ?_ _ | refine blk_drew ?_ | refine jd ?_ _)); exact BK213.out⟩, ⟨zb1 HB GE213⟩⟩
          case round =>
           clear H'
           try clear c1
           try clear c2
           try clear p2
           try clear q2
           try clear hx2
           try clear c4
           try clear c5
           try clear p6
           try clear c8
           try clear c9
           try clear c11
           try clear c12
           try clear c12b0
           try clear c14
           try clear c14b0
           try clear c15
           try clear c15b0
           try clear hcz17_0
           try clear hcz17_1
           try clear hcz17_2
           try clear hfz17_0
           try clear hfz17_1
           try clear hfz17_2
           try clear hx212_0
           try clear hx212_1
           try clear hx212_2
           try clear p2
           try clear p212
           try clear q212
           obtain ⟨x12_3, x44_3, rfl, rfl, HA, HK3, BK213, HB⟩ := hrel
           cases gk with
           | zero => exact absurd HA.out (by simp [impl_LimitOf.l1])
           | succ k3 =>
            have H := HA.out
            clear HA
            simp only [impl_LimitOf.l1] at H
            by_cases c18 : x44_3 < (l0.length : Int)
            ·rw [if_pos c18] at H
             have c18b0 : decide (x44_3 < (l0.length : Int)) = true := jG c18
             clear c18
             by_cases c19 : 0 ≤ x44_3
             ·rw [if_pos c19] at H
              have c19b0 : decide (0 ≤ x44_3) = true := jG c19
              clear c19
              by_cases c20 : x44_3 < (l0.length : Int)
              ·rw [if_pos c20] at H
               have c20b0 : decide (x44_3 < (l0.length : Int)) = true := jG c20
               clear c20
               by_cases c21 : x44_3 = a2
               ·rw [if_pos c21] at H
                have c21b0 : (x44_3 == a2) = true := beq_iff_eq.mpr c21
                have c21b1 : (x44_3 != a2) = false := bne_eq_false_iff_eq.mpr c21
                clear c21
                have H' := jA H
                clear H
                have p214 : 0 ≤ (x44_3 : Int) := jB za
                have q214 : x44_3 < (l0.length : Int) := jB za
                obtain ⟨ad214, e214, hx214_0, hx214_1, hx214_2⟩ := at_T51 HR0.out x44_3 p214 q214
                obtain rfl : ad212 = ad214 := (by injection e214)
                replace hx214_0 := (HB.out.cell (jC w _ hx214_0)).trans hx214_0
                replace hx214_1 := (HB.out.cell (jC w _ hx214_1)).trans hx214_1
                replace hx214_2 := (HB.out.cell (jC w _ hx214_2)).trans hx214_2
                replace p214 := eq_true p214
                replace q214 := eq_true q214
                go_wp2_with (first | ((with_reducible refine gate_dst (N := 14) rfl ?_); (try (refine gate_guard (by rfl) ?_; dsimp only)); refine box_event ?hg (N := 14) ?hd (cs := #[.int .i64 0, .int .i64 0, .int .i64 0]) (t := 51) ?hr ?_; (case hd => rfl); (case hg => rfl); (case hr => first | (go_simp; done) | (go_simp; rfl)); intro gb215 hg w22 hbox hb; have n0_ := jA (blk_below (g := gb213) (o := .cells #[.int .i64 ((rd_T51 l0 a2).f0), .int .i64 ((rd_T51 l0 a2).f1), .int .i64 t211] 51 (0, 0)) (zk BK213) hb); have n1_ := jA (jT (zb1 HB GE213) hb); have n2_ := jA (hbox); have n3_ := jA ((by rw [hg]; exact (jW (zb1 HB GE213)) : w.heap.size ≤ gb215)); have n4_ := jA ((by rw [hg]; exact (jW (zb1 HB GE213)) : w.heap.size ≤ gb215)); have n5_ := jA ((by rw [hg]; exact Nat.ne_of_lt (blk_lt (g := gb213) (o := .cells #[.int .i64 ((rd_T51 l0 a2).f0), .int .i64 ((rd_T51 l0 a2).f1), .int .i64 t211] 51 (0, 0)) (zk BK213)) : gb213 ≠ gb215)); have n6_ := jA n5_.out.symm; clear BK213; clear HB; have BK213 := n0_; have HB := n1_; have BK215 := n2_; have GW215 := n3_; have GE215 := n4_; have NB213_215 := n5_; have NB215_213 := n6_; clear n0_ n1_ n2_ n3_ n4_ n5_ n6_; clear hb hbox hg; have hnb23 := NB215_213.out; have hnc23 := NB213_215.out; have hcz24_0 : w22.cell? ⟨gb215, 0, none⟩ = some (.int .i64 0) := (jR BK215.out 0).trans rfl; have hcz24_1 : w22.cell? ⟨gb215, 1, none⟩ = some (.int .i64 0) := (jR BK215.out 1).trans rfl; have hcz24_2 : w22.cell? ⟨gb215, 2, none⟩ = some (.int .i64 0) := (jR BK215.out 2).trans rfl; have hfz24_0 := jV BK215.out 0; have hfz24_1 := jV BK215.out 1; have hfz24_2 := jV BK215.out 2))
                go_roundg k3
                case measure => have := HJ5.out; have := HK2.out; have := HK3.out; omega
                case rel => exact ⟨(x12_3), (wrap64 (x44_3 + 1)), zz, zz, H', ⟨by have := HJ5.out; have := HK2.out; have := HK3.out; omega⟩, ⟨by (with_reducible repeat (first | refine jc ?_ _ | refine blk_drew ?_ | refine jd ?_ _)); refine blk_far ?_ NB213_215.out _; (with_reducible repeat (first | refine jc ?_ _ | refine blk_drew ?_ | refine jd ?_ _)); refine blk_far ?_ NB213_215.out _; (with_reducible repeat (first | refine jc ?_ _ | refine blk_drew ?_ | refine jd ?_ _)); refine blk_far ?_ NB213_215.out _; (with_reducible repeat (first | refine jc ?_ _ | refine blk_drew ?_ | refine jd ?_ _)); exact BK213.out⟩, ⟨zb2 HB GE213 GE215⟩⟩
               ·rw [if_neg c21] at H
                have c21b0 : (x44_3 == a2) = false := beq_eq_false_iff_ne.mpr c21
                have c21b1 : (x44_3 != a2) = true := bne_iff_ne.mpr c21
                replace H := jD.mp H
                obtain ⟨t216, A250, H⟩ := H
                replace H : (if t216 = true then (impl_LimitOf.l1 k3 l0 a1 a2 x8_2 x9_2 t211 true l0 (l0.length : Int) (wrap64 (x44_3 + 1)) ((rd_T51 l0 a2).f0) ((rd_T51 l0 a2).f1) t211) else (impl_LimitOf.l1 k3 l0 a1 a2 x8_2 x9_2 t211 x12_3 l0 (l0.length : Int) (wrap64 (x44_3 + 1)) ((rd_T51 l0 a2).f0) ((rd_T51 l0 a2).f1) t211)) = some (r1, r2) := H
                have A25 := jA A250
                clear A250
                by_cases c26 : t216 = true
                ·subst c26
                 have H1 : (impl_LimitOf.l1 k3 l0 a1 a2 x8_2 x9_2 t211 true l0 (l0.length : Int) (wrap64 (x44_3 + 1)) ((rd_T51 l0 a2).f0) ((rd_T51 l0 a2).f1) t211) = some (r1, r2) := by rw [if_pos rfl] at H; exact H
                 clear H
                 have H := H1
                 clear H1
                 have H' := jA H
                 clear H
                 have p214 : 0 ≤ (x44_3 : Int) := jB za
                 have q214 : x44_3 < (l0.length : Int) := jB za
                 obtain ⟨ad214, e214, hx214_0, hx214_1, hx214_2⟩ := at_T51 HR0.out x44_3 p214 q214
                 obtain rfl : ad212 = ad214 := (by injection e214)
                 replace hx214_0 := (HB.out.cell (jC w _ hx214_0)).trans hx214_0
                 replace hx214_1 := (HB.out.cell (jC w _ hx214_1)).trans hx214_1
                 replace hx214_2 := (HB.out.cell (jC w _ hx214_2)).trans hx214_2
                 replace p214 := eq_true p214
                 replace q214 := eq_true q214
                 go_wp2_with (first | ((with_reducible refine gate_dst (N := 14) rfl ?_); (try (refine gate_guard (by rfl) ?_; dsimp only)); refine box_event ?hg (N := 14) ?hd (cs := #[.int .i64 0, .int .i64 0, .int .i64 0]) (t := 51) ?hr ?_; (case hd => rfl); (case hg => rfl); (case hr => first | (go_simp; done) | (go_simp; rfl)); intro gb215 hg w27 hbox hb; have n0_ := jA (blk_below (g := gb213) (o := .cells #[.int .i64 ((rd_T51 l0 a2).f0), .int .i64 ((rd_T51 l0 a2).f1), .int .i64 t211] 51 (0, 0)) (zk BK213) hb); have n1_ := jA (jT (zb1 HB GE213) hb); have n2_ := jA (hbox); have n3_ := jA ((by rw [hg]; exact (jW (zb1 HB GE213)) : w.heap.size ≤ gb215)); have n4_ := jA ((by rw [hg]; exact (jW (zb1 HB GE213)) : w.heap.size ≤ gb215)); have n5_ := jA ((by rw [hg]; exact Nat.ne_of_lt (blk_lt (g := gb213) (o := .cells #[.int .i64 ((rd_T51 l0 a2).f0), .int .i64 ((rd_T51 l0 a2).f1), .int .i64 t211] 51 (0, 0)) (zk BK213)) : gb213 ≠ gb215)); have n6_ := jA n5_.out.symm; clear BK213; clear HB; have BK213 := n0_; have HB := n1_; have BK215 := n2_; have GW215 := n3_; have GE215 := n4_; have NB213_215 := n5_; have NB215_213 := n6_; clear n0_ n1_ n2_ n3_ n4_ n5_ n6_; clear hb hbox hg; have hnb28 := NB215_213.out; have hnc28 := NB213_215.out; have hcz29_0 : w27.cell? ⟨gb215, 0, none⟩ = some (.int .i64 0) := (jR BK215.out 0).trans rfl; have hcz29_1 : w27.cell? ⟨gb215, 1, none⟩ = some (.int .i64 0) := (jR BK215.out 1).trans rfl; have hcz29_2 : w27.cell? ⟨gb215, 2, none⟩ = some (.int .i64 0) := (jR BK215.out 2).trans rfl; have hfz29_0 := jV BK215.out 0; have hfz29_1 := jV BK215.out 1; have hfz29_2 := jV BK215.out 2; have hcz30_0 : w27.cell? ⟨gb213, 0, none⟩ = some (.int .i64 ((rd_T51 l0 a2).f0)) := (jR BK213.out 0).trans rfl; have hcz30_1 : w27.cell? ⟨gb213, 1, none⟩ = some (.int .i64 ((rd_T51 l0 a2).f1)) := (jR BK213.out 1).trans rfl; have hcz30_2 : w27.cell? ⟨gb213, 2, none⟩ = some (.int .i64 t211) := (jR BK213.out 2).trans rfl; have hfz30_0 := jV BK213.out 0; have hfz30_1 := jV BK213.out 1; have hfz30_2 := jV BK213.out 2) | (go_at_call 81; (with_reducible refine (impl_areClose.calls k3 ((rd_T51 l0 a2).f0) ((rd_T51 l0 a2).f1) t211 ((rd_T51 l0 x44_3).f0) ((rd_T51 l0 x44_3).f1) ((rd_T51 l0 x44_3).f2) a1 true _ A25.out).mono ?_); rintro e w31 ⟨rfl, hb⟩; have n0_ := jA (blk_below (g := gb213) (o := .cells #[.int .i64 ((rd_T51 l0 a2).f0), .int .i64 ((rd_T51 l0 a2).f1), .int .i64 t211] 51 (0, 0)) (by (with_reducible repeat (first | refine jc ?_ _ | refine blk_drew ?_ | refine jd ?_ _)); refine blk_far ?_ NB213_215.out _; (with_reducible repeat (first | refine jc ?_ _ | refine blk_drew ?_ | refine jd ?_ _)); refine blk_far ?_ NB213_215.out _; (with_reducible repeat (first | refine jc ?_ _ | refine blk_drew ?_ | refine jd ?_ _)); refine blk_far ?_ NB213_215.out _; (with_reducible repeat (first | refine jc ?_ _ | refine blk_drew ?_ | refine jd ?_ _)); exact BK213.out) hb); have n1_ := jA (blk_below (g := gb215) (o := .cells #[.int .i64 ((rd_T51 l0 x44_3).f0), .int .i64 ((rd_T51 l0 x44_3).f1), .int .i64 ((rd_T51 l0 x44_3).f2)] 51 (0, 0)) (by (with_reducible repeat (first | refine jc ?_ _ | refine blk_drew ?_ | refine jd ?_ _)); refine blk_put (cs := #[.int .i64 ((rd_T51 l0 x44_3).f0), .int .i64 ((rd_T51 l0 x44_3).f1), .int .i64 0]) ?_ 2 _ rfl; (with_reducible repeat (first | refine jc ?_ _ | refine blk_drew ?_ | refine jd ?_ _)); refine blk_put (cs := #[.int .i64 ((rd_T51 l0 x44_3).f0), .int .i64 0, .int .i64 0]) ?_ 1 _ rfl; (with_reducible repeat (first | refine jc ?_ _ | refine blk_drew ?_ | refine jd ?_ _)); refine blk_put (cs := #[.int .i64 0, .int .i64 0, .int .i64 0]) ?_ 0 _ rfl; (with_reducible repeat (first | refine jc ?_ _ | refine blk_drew ?_ | refine jd ?_ _)); exact BK215.out) hb); have n2_ := jA (jT (zb2 HB GE213 GE215) hb); clear BK213; clear BK215; clear HB; have BK213 := n0_; have BK215 := n1_; have HB := n2_; clear n0_ n1_ n2_; (try clear hb); (try clear hb2); (try clear hk); (try clear hi)))
                 go_roundg k3
                 case measure => have := HJ5.out; have := HK2.out; have := HK3.out; omega
                 case rel => exact ⟨(true), (wrap64 (x44_3 + 1)), zz, zz, H', ⟨by have := HJ5.out; have := HK2.out; have := HK3.out; omega⟩, ⟨by (with_reducible repeat (first | refine jc ?_ _ | refine blk_drew ?_ | refine jd ?_ _)); exact BK213.out⟩, ⟨zb2 HB GE213 GE215⟩⟩
                ·replace c26 := Bool.eq_false_iff.mpr c26
                 subst c26
                 have H1 : (impl_LimitOf.l1 k3 l0 a1 a2 x8_2 x9_2 t211 x12_3 l0 (l0.length : Int) (wrap64 (x44_3 + 1)) ((rd_T51 l0 a2).f0) ((rd_T51 l0 a2).f1) t211) = some (r1, r2) := by rw [if_neg (show ¬ (false = true) by decide)] at H; exact H
                 clear H
                 have H := H1
                 clear H1
                 have H' := jA H
                 clear H
                 have p214 : 0 ≤ (x44_3 : Int) := jB za
                 have q214 : x44_3 < (l0.length : Int) := jB za
                 obtain ⟨ad214, e214, hx214_0, hx214_1, hx214_2⟩ := at_T51 HR0.out x44_3 p214 q214
                 obtain rfl : ad212 = ad214 := (by injection e214)
                 replace hx214_0 := (HB.out.cell (jC w _ hx214_0)).trans hx214_0
                 replace hx214_1 := (HB.out.cell (jC w _ hx214_1)).trans hx214_1
                 replace hx214_2 := (HB.out.cell (jC w _ hx214_2)).trans hx214_2
                 replace p214 := eq_true p214
                 replace q214 := eq_true q214
                 go_wp2_with (first | ((with_reducible refine gate_dst (N := 14) rfl ?_); (try (refine gate_guard (by rfl) ?_; dsimp only)); refine box_event ?hg (N := 14) ?hd (cs := #[.int .i64 0, .int .i64 0, .int .i64 0]) (t := 51) ?hr ?_; (case hd => rfl); (case hg => rfl); (case hr => first | (go_simp; done) | (go_simp; rfl)); intro gb215 hg w32 hbox hb; have n0_ := jA (blk_below (g := gb213) (o := .cells #[.int .i64 ((rd_T51 l0 a2).f0), .int .i64 ((rd_T51 l0 a2).f1), .int .i64 t211] 51 (0, 0)) (zk BK213) hb); have n1_ := jA (jT (zb1 HB GE213) hb); have n2_ := jA (hbox); have n3_ := jA ((by rw [hg]; exact (jW (zb1 HB GE213)) : w.heap.size ≤ gb215)); have n4_ := jA ((by rw [hg]; exact (jW (zb1 HB GE213)) : w.heap.size ≤ gb215)); have n5_ := jA ((by rw [hg]; exact Nat.ne_of_lt (blk_lt (g := gb213) (o := .cells #[.int .i64 ((rd_T51 l0 a2).f0), .int .i64 ((rd_T51 l0 a2).f1), .int .i64 t211] 51 (0, 0)) (zk BK213)) : gb213 ≠ gb215)); have n6_ := jA n5_.out.symm; clear BK213; clear HB; have BK213 := n0_; have HB := n1_; have BK215 := n2_; have GW215 := n3_; have GE215 := n4_; have NB213_215 := n5_; have NB215_213 := n6_; clear n0_ n1_ n2_ n3_ n4_ n5_ n6_; clear hb hbox hg; have hnb33 := NB215_213.out; have hnc33 := NB213_215.out; have hcz34_0 : w32.cell? ⟨gb215, 0, none⟩ = some (.int .i64 0) := (jR BK215.out 0).trans rfl; have hcz34_1 : w32.cell? ⟨gb215, 1, none⟩ = some (.int .i64 0) := (jR BK215.out 1).trans rfl; have hcz34_2 : w32.cell? ⟨gb215, 2, none⟩ = some (.int .i64 0) := (jR BK215.out 2).trans rfl; have hfz34_0 := jV BK215.out 0; have hfz34_1 := jV BK215.out 1; have hfz34_2 := jV BK215.out 2; have hcz35_0 : w32.cell? ⟨gb213, 0, none⟩ = some (.int .i64 ((rd_T51 l0 a2).f0)) := (jR BK213.out 0).trans rfl; have hcz35_1 : w32.cell? ⟨gb213, 1, none⟩ = some (.int .i64 ((rd_T51 l0 a2).f1)) := (jR BK213.out 1).trans rfl; have hcz35_2 : w32.cell? ⟨gb213, 2, none⟩ = some (.int .i64 t211) := (jR BK213.out 2).trans rfl; have hfz35_0 := jV BK213.out 0; have hfz35_1 := jV BK213.out 1; have hfz35_2 := jV BK213.out 2) | (go_at_call 81; (with_reducible refine (impl_areClose.calls k3 ((rd_T51 l0 a2).f0) ((rd_T51 l0 a2).f1) t211 ((rd_T51 l0 x44_3).f0) ((rd_T51 l0 x44_3).f1) ((rd_T51 l0 x44_3).f2) a1 false _ A25.out).mono ?_); rintro e w36 ⟨rfl, hb⟩; have n0_ := jA (blk_below (g := gb213) (o := .cells #[.int .i64 ((rd_T51 l0 a2).f0), .int .i64 ((rd_T51 l0 a2).f1), .int .i64 t211] 51 (0, 0)) (by (with_reducible repeat (first | refine jc ?_ _ | refine blk_drew ?_ | refine jd ?_ _)); refine blk_far ?_ NB213_215.out _; (with_reducible repeat (first | refine jc ?_ _ | refine blk_drew ?_ | refine jd ?_ _)); refine blk_far ?_ NB213_215.out _; (with_reducible repeat (first | refine jc ?_ _ | refine blk_drew ?_ | refine jd ?_ _)); refine blk_far ?_ NB213_215.out _; (with_reducible repeat (first | refine jc ?_ _ | refine blk_drew ?_ | refine jd ?_ _)); exact BK213.out) hb); have n1_ := jA (blk_below (g := gb215) (o := .cells #[.int .i64 ((rd_T51 l0 x44_3).f0), .int .i64 ((rd_T51 l0 x44_3).f1), .int .i64 ((rd_T51 l0 x44_3).f2)] 51 (0, 0)) (by (with_reducible repeat (first | refine jc ?_ _ | refine blk_drew ?_ | refine jd ?_ _)); refine blk_put (cs := #[.int .i64 ((rd_T51 l0 x44_3).f0), .int .i64 ((rd_T51 l0 x44_3).f1), .int .i64 0]) ?_ 2 _ rfl; (with_reducible repeat (first | refine jc ?_ _ | refine blk_drew ?_ | refine jd ?_ _)); refine blk_put (cs := #[.int .i64 ((rd_T51 l0 x44_3).f0), .int .i64 0, .int .i64 0]) ?_ 1 _ rfl; (with_reducible repeat (first | refine jc ?_ _ | refine blk_drew ?_ | refine jd ?_ _)); refine blk_put (cs := #[.int .i64 0, .int .i64 0, .int .i64 0]) ?_ 0 _ rfl; (with_reducible repeat (first | refine jc ?_ _ | refine blk_drew ?_ | refine jd ?_ _)); exact BK215.out) hb); have n2_ := jA (jT (zb2 HB GE213 GE215) hb); clear BK213; clear BK215; clear HB; have BK213 := n0_; have BK215 := n1_; have HB := n2_; clear n0_ n1_ n2_; (try clear hb); (try clear hb2); (try clear hk); (try clear hi)))
                 go_roundg k3
                 case measure => have := HJ5.out; have := HK2.out; have := HK3.out; omega
                 case rel => exact ⟨(x12_3), (wrap64 (x44_3 + 1)), zz, zz, H', ⟨by have := HJ5.out; have := HK2.out; have := HK3.out; omega⟩, ⟨by (with_reducible repeat (first | refine jc ?_ _ | refine blk_drew ?_ | refine jd ?_ _)); exact BK213.out⟩, ⟨zb2 HB GE213 GE215⟩⟩
              ·rw [if_neg c20] at H
               exact absurd H (by simp)
             ·rw [if_neg c19] at H
              exact absurd H (by simp)
            ·rw [if_neg c18] at H
             have c18b0 : decide (x44_3 < (l0.length : Int)) = false := jb c18
             clear c18
             by_cases c37 : x12_3 = true
             ·subst c37
              have H1 : (impl_LimitOf.l0 k3 l0 a1 a2 x8_2 (wrap64 (t211 - 1))) = some (r1, r2) := by rw [if_pos rfl] at H; exact H
              clear H
              have H := H1
              clear H1
              have H' := jA H
              clear H
              go_wp2
              go_roundg k3
              case measure => have := HJ5.out; have := HK2.out; have := HK3.out; omega
              case rel => exact ⟨(x8_2), (wrap64 (t211 - 1)), zz, zz, H', ⟨by have := HJ5.out; have := HK2.out; have := HK3.out; omega⟩, ⟨zb1 HB GE213⟩⟩
             ·replace c37 := Bool.eq_false_iff.mpr c37
              subst c37
              have H1 : (impl_LimitOf.l0 k3 l0 a1 a2 t211 x9_2) = some (r1, r2) := by rw [if_neg (show ¬ (false = true) by decide)] at H; exact H
              clear H
              have H := H1
              clear H1
              have H' := jA H
              clear H
              go_wp2
              go_roundg k3
              case measure => have := HJ5.out; have := HK2.out; have := HK3.out; omega
              case rel => exact ⟨(t211), (x9_2), zz, zz, H', ⟨by have := HJ5.out; have := HK2.out; have := HK3.out; omega⟩, ⟨zb1 HB GE213⟩⟩
         ·rw [if_neg c15] at H
          exact absurd H (by simp)
        ·rw [if_neg c14] at H
         exact absurd H (by simp)
       ·rw [if_neg c12] at H
        have c12b0 : decide (x8_2 < x9_2) = false := jb c12
        clear c12
        by_cases c38 : x8_2 < 0
        ·rw [if_pos c38] at H
         have c38b0 : decide (x8_2 < 0) = true := jG c38
         clear c38
         simp only [jU, jY] at H
         obtain ⟨rfl, rfl⟩ := H
         go_wp2
         go_ret2
         exact ⟨by first | rfl | (simp [errW_none, errW_some] <;> rfl) | (simp [*, errW_none, errW_some] <;> rfl), zb0 HB⟩
        ·rw [if_neg c38] at H
         have c38b0 : decide (x8_2 < 0) = false := jb c38
         clear c38
         simp only [jU, jY] at H
         obtain ⟨rfl, rfl⟩ := H
         go_wp2
         go_ret2
         exact ⟨by first | rfl | (simp [errW_none, errW_some] <;> rfl) | (simp [*, errW_none, errW_some] <;> rfl), zb0 HB⟩
 ·replace c5 := Bool.eq_false_iff.mpr c5
  subst c5
  have H1 : (some (0, 1)) = some (r1, r2) := by rw [if_neg (show ¬ (false = true) by decide)] at H; exact H
  clear H
  have H := H1
  clear H1
  simp only [jU, jY] at H
  obtain ⟨rfl, rfl⟩ := H
  go_enter Try.func43, Try.ntmps43
  go_wp2_with (first | ((with_reducible refine jH (f := 22) rfl ?_); refine goesL_ (some 16) rfl rfl Try.func22 zr rfl #[.slice A0 l0.length c0] rfl zm ?_; (with_reducible refine (impl_AreDepots.calls k _ _ l0 false _ ?side1 ?side2 A4.out).mono ?_); (case side1 => repeat (first | exact HR0.out | (with_reducible refine jO ?_ _) | (with_reducible refine jN ?_ _) | (with_reducible refine jS ?_))); (case side2 => exact HC0.out); rintro e w39 ⟨rfl, hb⟩; refine ⟨_, rfl, ?_⟩; have n0_ := jA (jT (zb0 HB) hb); clear HB; have HB := n0_; clear n0_; (try clear hb); (try clear hb2); (try clear hk); (try clear hi)))
  go_ret2
  exact ⟨by first | rfl | (simp [errW_none, errW_some] <;> rfl) | (simp [*, errW_none, errW_some] <;> rfl), zb0 HB⟩

/-! ### impl_TooClose: function 45 -/
def impl_TooClose.f (k : Nat) (l0 : List (S51)) (a1 : Int) : Option ((List (List Int)) × Int) := (impl_AreDepots.f k l0).bind fun t217 => (if t217 = true then ((impl_isFactor.f a1).bind fun t218 => (if t218 = true then ((impl_closePairs.f k l0 a1).bind fun t219 => (some (t219, 0))) else (some (([] : List (List Int)), 2)))) else (some (([] : List (List Int)), 1)))
theorem impl_TooClose.mono : ∀ a0 a1 k, LeO (impl_TooClose.f k a0 a1) (impl_TooClose.f (k + 1) a0 a1) := by
 intro a0 a1 k
 unfold impl_TooClose.f
 repeat' first
   | (with_reducible exact impl_AreDepots.mono _ _)
   | (with_reducible exact impl_closePairs.mono _ _ _)
   | (with_reducible exact LeO.refl _)
   | (with_reducible exact LeO.none _)
   | (with_reducible refine LeO.ite ?_ ?_)
   | (with_reducible refine LeO.bind ?_ (fun _ => ?_))
   | exact impl_AreDepots.mono _ _
   | exact impl_closePairs.mono _ _ _
   | exact LeO.none _
   | refine LeO.ite ?_ ?_
   | refine LeO.bind ?_ (fun _ => ?_)
set_option maxHeartbeats 8000000 in
set_option maxRecDepth 100000 in
theorem impl_TooClose.calls (k : Nat) (A0 : Option Addr) (c0 : Nat) (l0 : List (S51)) (a1 : Int) (r1 : List (List Int)) (r2 : Int) (w : World) (hr0 : Kd.C k51 w A0 l0.length l0) (hc0 : l0.length ≤ c0) (h : impl_TooClose.f k l0 a1 = some (r1, r2)) :
  Calls Try.prog 45 #[.slice A0 l0.length c0, .int .i64 a1] w fun e w' => ∃ v0_ : Value, e = .returned (.tuple #[v0_, .int .i64 r2]) ∧ Kd.S (Kd.slice 2 (Kd.int .i64)) 59 w' w.heap.size (fun _ => True) v0_ r1 ∧ Below w.heap.size w w' := by
 have HR0 := jA hr0
 have HC0 := jA hc0
 clear hr0 hc0
 have HB := jA (Below.refl w.heap.size w)
 have H : ((impl_AreDepots.f k l0).bind fun t217 => (if t217 = true then ((impl_isFactor.f a1).bind fun t218 => (if t218 = true then ((impl_closePairs.f k l0 a1).bind fun t219 => (some (t219, 0))) else (some (([] : List (List Int)), 2)))) else (some (([] : List (List Int)), 1)))) = some (r1, r2) := h
 clear h
 replace H := jD.mp H
 obtain ⟨t217, A30, H⟩ := H
 replace H : (if t217 = true then ((impl_isFactor.f a1).bind fun t218 => (if t218 = true then ((impl_closePairs.f k l0 a1).bind fun t219 => (some (t219, 0))) else (some (([] : List (List Int)), 2)))) else (some (([] : List (List Int)), 1))) = some (r1, r2) := H
 have A3 := jA A30
 clear A30
 by_cases c4 : t217 = true
 ·subst c4
  have H1 : ((impl_isFactor.f a1).bind fun t218 => (if t218 = true then ((impl_closePairs.f k l0 a1).bind fun t219 => (some (t219, 0))) else (some (([] : List (List Int)), 2)))) = some (r1, r2) := by rw [if_pos rfl] at H; exact H
  clear H
  have H := H1
  clear H1
  replace H := jD.mp H
  obtain ⟨t218, A50, H⟩ := H
  replace H : (if t218 = true then ((impl_closePairs.f k l0 a1).bind fun t219 => (some (t219, 0))) else (some (([] : List (List Int)), 2))) = some (r1, r2) := H
  have A5 := jA A50
  clear A50
  by_cases c6 : t218 = true
  ·subst c6
   have H1 : ((impl_closePairs.f k l0 a1).bind fun t219 => (some (t219, 0))) = some (r1, r2) := by rw [if_pos rfl] at H; exact H
   clear H
   have H := H1
   clear H1
   replace H := jD.mp H
   obtain ⟨t219, A70, H⟩ := H
   replace H : (some (t219, 0)) = some (r1, r2) := H
   have A7 := jA A70
   clear A70
   simp only [jU, jY] at H
   obtain ⟨rfl, rfl⟩ := H
   go_enter Try.func45, Try.ntmps45
   go_wp2_with (first | ((with_reducible refine jH (f := 22) rfl ?_); refine goesL_ (some 7) rfl rfl Try.func22 zr rfl #[.slice A0 l0.length c0] rfl zm ?_; (with_reducible refine (impl_AreDepots.calls k _ _ l0 true _ ?side1 ?side2 A3.out).mono ?_); (case side1 => repeat (first | exact HR0.out | (with_reducible refine jO ?_ _) | (with_reducible refine jN ?_ _) | (with_reducible refine jS ?_))); (case side2 => exact HC0.out); rintro e w8 ⟨rfl, hb⟩; refine ⟨_, rfl, ?_⟩; have n0_ := jA (jT (zb0 HB) hb); clear HB; have HB := n0_; clear n0_; (try clear hb); (try clear hb2); (try clear hk); (try clear hi)) | ((with_reducible refine jH (f := 56) rfl ?_); refine goesL_ (some 10) rfl rfl Try.func56 zr rfl #[.int .i64 a1] rfl zm ?_; (with_reducible refine (impl_isFactor.calls a1 true _ A5.out).mono ?_); rintro e w' ⟨rfl, ⟨nd, rfl⟩⟩; refine ⟨_, rfl, ?_⟩) | ((with_reducible refine jH (f := 77) rfl ?_); refine goesL_ (some 14) rfl rfl Try.func77 zr rfl #[.slice A0 l0.length c0, .int .i64 a1] rfl zm ?_; (with_reducible refine (impl_closePairs.calls k _ _ l0 a1 t219 _ ?side1 ?side2 A7.out).mono ?_); (case side1 => repeat (first | exact HR0.out | exact (Kd.C_below HR0.out (zb0 HB)) | (with_reducible refine jO ?_ _) | (with_reducible refine jN ?_ _) | (with_reducible refine jS ?_))); (case side2 => exact HC0.out); rintro e w9 ⟨v220, rfl, ho0, hb⟩; refine ⟨_, rfl, ?_⟩; have n0_ := jA (Kd.S_lower ho0 (jW (zb0 HB))); have n1_ := jA (jT (zb0 HB) hb); clear HB; have HO221 := n0_; have HB := n1_; clear n0_ n1_; (try clear hb); (try clear hb2); (try clear hk); (try clear hi); (try clear ho0)))
   go_ret2
   exact ⟨_, by first | rfl | (simp [errW_none, errW_some] <;> rfl) | (simp [*, errW_none, errW_some] <;> rfl), by (with_reducible repeat (first | apply Kd.S_alloc | apply Kd.S_drewN | apply Kd.S_drew)); exact HO221.out, zb0 HB⟩
  ·replace c6 := Bool.eq_false_iff.mpr c6
   subst c6
   have H1 : (some (([] : List (List Int)), 2)) = some (r1, r2) := by rw [if_neg (show ¬ (false = true) by decide)] at H; exact H
   clear H
   have H := H1
   clear H1
   simp only [jU, jY] at H
   obtain ⟨rfl, rfl⟩ := H
   go_enter Try.func45, Try.ntmps45
   go_wp2_with (first | ((with_reducible refine jH (f := 22) rfl ?_); refine goesL_ (some 7) rfl rfl Try.func22 zr rfl #[.slice A0 l0.length c0] rfl zm ?_; (with_reducible refine (impl_AreDepots.calls k _ _ l0 true _ ?side1 ?side2 A3.out).mono ?_); (case side1 => repeat (first | exact HR0.out | (with_reducible refine jO ?_ _) | (with_reducible refine jN ?_ _) | (with_reducible refine jS ?_))); (case side2 => exact HC0.out); rintro e w10 ⟨rfl, hb⟩; refine ⟨_, rfl, ?_⟩; have n0_ := jA (jT (zb0 HB) hb); clear HB; have HB := n0_; clear n0_; (try clear hb); (try clear hb2); (try clear hk); (try clear hi)) | ((with_reducible refine jH (f := 56) rfl ?_); refine goesL_ (some 10) rfl rfl Try.func56 zr rfl #[.int .i64 a1] rfl zm ?_; (with_reducible refine (impl_isFactor.calls a1 false _ A5.out).mono ?_); rintro e w' ⟨rfl, ⟨nd, rfl⟩⟩; refine ⟨_, rfl, ?_⟩))
   go_ret2
   exact ⟨_, by first | rfl | (simp [errW_none, errW_some] <;> rfl) | (simp [*, errW_none, errW_some] <;> rfl), by first | exact Kd.S_nil _ _ _ _ _ | exact Kd.N_nil _ _ _ _ _ | exact Kd.V_nil _ _ _ _ _ | exact Kd.Q_nil _ _ _ _ _ | exact Kd.R_nil _ _ _ _ _, zb0 HB⟩
 ·replace c4 := Bool.eq_false_iff.mpr c4
  subst c4
  have H1 : (some (([] : List (List Int)), 1)) = some (r1, r2) := by rw [if_neg (show ¬ (false = true) by decide)] at H; exact H
  clear H
  have H := H1
  clear H1
  simp only [jU, jY] at H
  obtain ⟨rfl, rfl⟩ := H
  go_enter Try.func45, Try.ntmps45
  go_wp2_with (first | ((with_reducible refine jH (f := 22) rfl ?_); refine goesL_ (some 7) rfl rfl Try.func22 zr rfl #[.slice A0 l0.length c0] rfl zm ?_; (with_reducible refine (impl_AreDepots.calls k _ _ l0 false _ ?side1 ?side2 A3.out).mono ?_); (case side1 => repeat (first | exact HR0.out | (with_reducible refine jO ?_ _) | (with_reducible refine jN ?_ _) | (with_reducible refine jS ?_))); (case side2 => exact HC0.out); rintro e w11 ⟨rfl, hb⟩; refine ⟨_, rfl, ?_⟩; have n0_ := jA (jT (zb0 HB) hb); clear HB; have HB := n0_; clear n0_; (try clear hb); (try clear hb2); (try clear hk); (try clear hi)))
  go_ret2
  exact ⟨_, by first | rfl | (simp [errW_none, errW_some] <;> rfl) | (simp [*, errW_none, errW_some] <;> rfl), by first | exact Kd.S_nil _ _ _ _ _ | exact Kd.N_nil _ _ _ _ _ | exact Kd.V_nil _ _ _ _ _ | exact Kd.Q_nil _ _ _ _ _ | exact Kd.R_nil _ _ _ _ _, zb0 HB⟩

/-- A state of type 86 at block g of W; what its slices lead to came in by w0. -/
def IsS86 (w0 W : World) (g : Nat) (f0 : List Int) (f1 : Int) (f2 : Int) : Prop := ∃ A0 c0, W.heap[g]? = some (.cells #[.slice A0 f0.length c0, .int .i64 f1, .int .i64 f2] 86 (0, 0)) ∧ w0.heap.size ≤ g ∧ Kd.C (Kd.int .u8) w0 A0 f0.length f0
theorem IsS86.grown {w0 W : World} {g : Nat} {f0 : List Int} {f1 : Int} {f2 : Int} {W1 : World} {row : Option Nat} (h : IsS86 w0 W g f0 f1 f2) (hw : W.grownBy W1 row) (hne : some g ≠ row) : IsS86 w0 W1 g f0 f1 f2 := by
 obtain ⟨A0, c0, hb, hg, hr0⟩ := h
 exact ⟨A0, c0, blk_grown hb hw hne, hg, hr0⟩
theorem IsS86.own_neN {w0 W : World} {g : Nat} {f0 : List Int} {f1 : Int} {f2 : Int} {α : Type} {d : Kd α} {e : Nat} {base : Nat} {ok : Nat → Prop} {v : Value} {xs : List α} (h : IsS86 w0 W g f0 f1 f2) (ho : Kd.N d e W base ok v xs) (ht : e ≠ 86) : some g ≠ v.ownBlock := by
 obtain ⟨A0, c0, hb, hg, hr0⟩ := h
 exact Kd.N_ne ho hb ht
theorem IsS86.fresh {w0 W : World} {g : Nat} {f0 : List Int} {f1 : Int} {f2 : Int} (h : IsS86 w0 W g f0 f1 f2) : ∀ k, W.heap.size ≤ k → k ≠ g := by
 obtain ⟨A0, c0, hb, hg, hr0⟩ := h
 exact Kd.freshB hb
theorem IsS86.kept {w0 W : World} {g : Nat} {f0 : List Int} {f1 : Int} {f2 : Int} {W1 : World} {S : Nat → Prop} (h : IsS86 w0 W g f0 f1 f2) (hk : Kept W W1 S) (hne : ¬ S g) : IsS86 w0 W1 g f0 f1 f2 := by
 obtain ⟨A0, c0, hb, hg, hr0⟩ := h
 exact ⟨A0, c0, blk_kept hb hk hne, hg, hr0⟩
theorem IsS86.below {w0 W : World} {g : Nat} {f0 : List Int} {f1 : Int} {f2 : Int} {W1 : World} (h : IsS86 w0 W g f0 f1 f2) (hw : Below W.heap.size W W1) : IsS86 w0 W1 g f0 f1 f2 := h.grown (grown_of_below hw none) (by simp)
theorem IsS86.alloc {w0 W : World} {g : Nat} {f0 : List Int} {f1 : Int} {f2 : Int} (h : IsS86 w0 W g f0 f1 f2) (o : Obj) : IsS86 w0 (W.alloc o) g f0 f1 f2 := h.below (jP (Below.refl _ _) o)
theorem IsS86.drewN {w0 W : World} {g : Nat} {f0 : List Int} {f1 : Int} {f2 : Int} (h : IsS86 w0 W g f0 f1 f2) (m : Nat) : IsS86 w0 (W.drewN m) g f0 f1 f2 := h
theorem IsS86.drew {w0 W : World} {g : Nat} {f0 : List Int} {f1 : Int} {f2 : Int} (h : IsS86 w0 W g f0 f1 f2) : IsS86 w0 W.drew g f0 f1 f2 := h
theorem IsS86.at_ {w0 W : World} {g : Nat} {f0 : List Int} {f1 : Int} {f2 : Int} {w' : World} {m : Nat} (hq : W.drewN m = w') (h : IsS86 w0 W g f0 f1 f2) : IsS86 w0 w' g f0 f1 f2 := by subst hq; exact IsS86.drewN h m
theorem IsS86.apart {w0 W : World} {g : Nat} {f0 : List Int} {f1 : Int} {f2 : Int} {α : Type} {d : Kd α} {e : Nat} {base : Nat} {ok : Nat → Prop} {v : Value} {xs : List α} (h : IsS86 w0 W g f0 f1 f2) (ho : d.R e W base ok v xs) (ht : ∀ q, q ∈ e :: d.E → q ≠ 86) : d.R e W base (fun k => ok k ∧ k ≠ g) v xs := by
 obtain ⟨A0, c0, hb, hg, hr0⟩ := h
 exact Kd.R_types ho hb ht
theorem IsS86.own_ne {w0 W : World} {g : Nat} {f0 : List Int} {f1 : Int} {f2 : Int} {α : Type} {d : Kd α} {e : Nat} {base : Nat} {ok : Nat → Prop} {v : Value} {xs : List α} (h : IsS86 w0 W g f0 f1 f2) (ho : d.R e W base ok v xs) (ht : e ≠ 86) : some g ≠ v.ownBlock := by
 obtain ⟨A0, c0, hb, hg, hr0⟩ := h
 exact Kd.R_ne ho hb ht
theorem IsS86.apartQ {w0 W : World} {g : Nat} {f0 : List Int} {f1 : Int} {f2 : Int} {α : Type} {d : Kd α} {e : Nat} {base : Nat} {ok : Nat → Prop} {v : Value} {xs : List α} (h : IsS86 w0 W g f0 f1 f2) (ho : d.Q e W base ok v xs) (ht : ∀ q, q ∈ e :: d.E → q ≠ 86) : d.Q e W base (fun k => ok k ∧ k ≠ g) v xs := by
 obtain ⟨A0, c0, hb, hg, hr0⟩ := h
 exact Kd.Q_types ho hb ht
theorem IsS86.own_neQ {w0 W : World} {g : Nat} {f0 : List Int} {f1 : Int} {f2 : Int} {α : Type} {d : Kd α} {e : Nat} {base : Nat} {ok : Nat → Prop} {v : Value} {xs : List α} (h : IsS86 w0 W g f0 f1 f2) (ho : d.Q e W base ok v xs) (ht : e ≠ 86) : some g ≠ v.ownBlock := by
 obtain ⟨A0, c0, hb, hg, hr0⟩ := h
 exact Kd.Q_ne ho hb ht
theorem IsS86.apartS {w0 W : World} {g : Nat} {f0 : List Int} {f1 : Int} {f2 : Int} {α : Type} {d : Kd α} {e : Nat} {base : Nat} {ok : Nat → Prop} {v : Value} {xs : List α} (h : IsS86 w0 W g f0 f1 f2) (ho : d.S e W base ok v xs) (ht : ∀ q, q ∈ e :: d.E → q ≠ 86) : d.S e W base (fun k => ok k ∧ k ≠ g) v xs := by
 obtain ⟨A0, c0, hb, hg, hr0⟩ := h
 exact Kd.S_types ho hb ht
theorem IsS86.own_neS {w0 W : World} {g : Nat} {f0 : List Int} {f1 : Int} {f2 : Int} {α : Type} {d : Kd α} {e : Nat} {base : Nat} {ok : Nat → Prop} {v : Value} {xs : List α} (h : IsS86 w0 W g f0 f1 f2) (ho : d.S e W base ok v xs) (ht : e ≠ 86) : some g ≠ v.ownBlock := by
 obtain ⟨A0, c0, hb, hg, hr0⟩ := h
 exact Kd.S_ne ho hb ht
theorem IsS86.lt {w0 W : World} {g : Nat} {f0 : List Int} {f1 : Int} {f2 : Int} (h : IsS86 w0 W g f0 f1 f2) : g < W.heap.size := by
 obtain ⟨A0, c0, hb, hg, hr0⟩ := h
 exact blk_lt hb
theorem IsS86.ge {w0 W : World} {g : Nat} {f0 : List Int} {f1 : Int} {f2 : Int} (h : IsS86 w0 W g f0 f1 f2) : w0.heap.size ≤ g := by
 obtain ⟨A0, c0, hb, hg, hr0⟩ := h
 exact hg
theorem IsS86.ne_blk {w0 W : World} {g : Nat} {f0 : List Int} {f1 : Int} {f2 : Int} {a : Nat} {cs : Array Value} {t : TypeId} {fr : Nat × Nat} (h : IsS86 w0 W g f0 f1 f2) (hb2 : W.heap[a]? = some (.cells cs t fr)) (ht : t ≠ 86) : g ≠ a := by
 obtain ⟨A0, c0, hb, hg, hr0⟩ := h
 rintro rfl
 rw [hb] at hb2
 injection hb2 with hb2
 injection hb2 with _ ht2
 exact ht ht2.symm
theorem IsS86.far {w0 W : World} {g : Nat} {f0 : List Int} {f1 : Int} {f2 : Int} {p : Addr} (h : IsS86 w0 W g f0 f1 f2) (hne : g ≠ p.block) (u : Value) : IsS86 w0 (W.setCell p u) g f0 f1 f2 := by
 obtain ⟨A0, c0, hb, hg, hr0⟩ := h
 exact ⟨A0, c0, blk_far hb hne u, hg, hr0⟩
theorem cellS86_0 {W : World} {g : Nat} {A0 : Option Addr} {c0 : Nat} {f0 : List Int} {f1 : Int} {f2 : Int} (h : W.heap[g]? = some (.cells #[.slice A0 f0.length c0, .int .i64 f1, .int .i64 f2] 86 (0, 0))) : W.cell? ⟨g, 0, none⟩ = some (.slice A0 f0.length c0) := (jR h 0).trans rfl
theorem cellS86_1 {W : World} {g : Nat} {A0 : Option Addr} {c0 : Nat} {f0 : List Int} {f1 : Int} {f2 : Int} (h : W.heap[g]? = some (.cells #[.slice A0 f0.length c0, .int .i64 f1, .int .i64 f2] 86 (0, 0))) : W.cell? ⟨g, 1, none⟩ = some (.int .i64 f1) := (jR h 1).trans rfl
theorem IsS86.set_1 {w0 W : World} {g : Nat} {f0 : List Int} {f1 : Int} {f2 : Int} (h : IsS86 w0 W g f0 f1 f2) (x : Int) : IsS86 w0 (W.setCell ⟨g, 1, none⟩ (.int .i64 x)) g f0 x f2 := by
 obtain ⟨A0, c0, hb, hg, hr0⟩ := h
 exact ⟨A0, c0, by simpa using blk_set hb 1 (.int .i64 x), hg, hr0⟩
theorem cellS86_2 {W : World} {g : Nat} {A0 : Option Addr} {c0 : Nat} {f0 : List Int} {f1 : Int} {f2 : Int} (h : W.heap[g]? = some (.cells #[.slice A0 f0.length c0, .int .i64 f1, .int .i64 f2] 86 (0, 0))) : W.cell? ⟨g, 2, none⟩ = some (.int .i64 f2) := (jR h 2).trans rfl
theorem IsS86.set_2 {w0 W : World} {g : Nat} {f0 : List Int} {f1 : Int} {f2 : Int} (h : IsS86 w0 W g f0 f1 f2) (x : Int) : IsS86 w0 (W.setCell ⟨g, 2, none⟩ (.int .i64 x)) g f0 f1 x := by
 obtain ⟨A0, c0, hb, hg, hr0⟩ := h
 exact ⟨A0, c0, by simpa using blk_set hb 2 (.int .i64 x), hg, hr0⟩
theorem IsS86.new (w0 W : World) (A0 : Option Addr) (c0 : Nat) (f0 : List Int) (f1 : Int) (f2 : Int) (hB : Below w0.heap.size w0 W) (hr0 : Kd.C (Kd.int .u8) w0 A0 f0.length f0) : IsS86 w0 (W.alloc (.cells #[.slice A0 f0.length c0, .int .i64 f1, .int .i64 f2] 86)) W.heap.size f0 f1 f2 := ⟨A0, c0, by simpa using heap_alloc_new W _, hB.size, hr0⟩

/-! ### spec_l01From: function 66 -/
def spec_l01From.l0 : Nat → List Int → Int → List Int → Int → Int → Option (List Int × Int × Int)
 | 0, _, _, _, _, _ => none
 | k + 1, x0, x4, x223000, x223001, x223002 => if x4 < (x0.length : Int) then (if x4 < 64 then (if 0 ≤ x4 then (spec_l01From.l0 k x0 (wrap64 (x4 + 1)) x223000 x223001 (Int.tmod (wrap64 ((wrap64 (x223002 * 83)) + (wrap64 (rd x0 x4)))) 2147483647)) else (none)) else (some (x223000, x223001, x223002))) else (some (x223000, x223001, x223002))
def spec_l01From.f (k : Nat) (l0 : List Int) : Option (List Int × Int × Int) := spec_l01From.l0 k l0 0 l0 0 61043
theorem spec_l01From.mono_l : ∀ k, (∀ y0 y1 y2 y3 y4, LeO (spec_l01From.l0 k y0 y1 y2 y3 y4) (spec_l01From.l0 (k + 1) y0 y1 y2 y3 y4))
 | 0 => fun _ _ _ _ _ r h => by simp [spec_l01From.l0] at h
 | k + 1 => by
  have ih0 := spec_l01From.mono_l k
  ·intro y0 y1 y2 y3 y4
   unfold spec_l01From.l0
   repeat' first
   | (with_reducible exact ih0 _ _ _ _ _)
   | (with_reducible exact LeO.refl _)
   | (with_reducible exact LeO.none _)
   | (with_reducible refine LeO.ite ?_ ?_)
   | (with_reducible refine LeO.bind ?_ (fun _ => ?_))
   | exact ih0 _ _ _ _ _
   | exact LeO.none _
   | refine LeO.ite ?_ ?_
   | refine LeO.bind ?_ (fun _ => ?_)
theorem spec_l01From.mono : ∀ a0 k, LeO (spec_l01From.f k a0) (spec_l01From.f (k + 1) a0) := by
 intro a0 k
 have ih0 := spec_l01From.mono_l k
 unfold spec_l01From.f
 repeat' first
   | (with_reducible exact ih0 _ _ _ _ _)
   | (with_reducible exact LeO.refl _)
   | (with_reducible exact LeO.none _)
   | (with_reducible refine LeO.ite ?_ ?_)
   | (with_reducible refine LeO.bind ?_ (fun _ => ?_))
   | exact ih0 _ _ _ _ _
   | exact LeO.none _
   | refine LeO.ite ?_ ?_
   | refine LeO.bind ?_ (fun _ => ?_)
def spec_l01From.T5 : Bool × List (List Nat × List Nat) := (true, [([], []), ([], []), ([1], [1]), ([2], [2]), ([3], [3]), ([4], [4]), ([], []), ([], []), ([6, 7], [6, 7]), ([8], [8]), ([9], [9]), ([5, 10], [5, 10]), ([11], [11]), ([0, 0, 1, 2, 3, 4, 5, 6, 7, 8, 9, 10, 11, 12], [0]), ([13, 0, 1, 2, 3, 4, 5, 6, 7, 8, 9, 10, 11, 12], [13]), ([14, 12, 0, 1, 2, 3, 4, 5, 6, 7, 8, 9, 10, 11, 12], [12, 14])])
def spec_l01From.B5 : List Nat := [0, 0, 2, 6, 14, 30, 0, 0, 192, 448, 960, 2046, 4094, 8191, 16383, 32767]
theorem spec_l01From.tab5 : rtab .any (opsOf Try.f66 5) = spec_l01From.T5 := by kernel_rfl
theorem spec_l01From.bits5 : waitsOk spec_l01From.T5.2 spec_l01From.B5 = true := by kernel_rfl
set_option maxHeartbeats 8000000 in
set_option maxRecDepth 100000 in
theorem spec_l01From.calls (k : Nat) (A0 : Option Addr) (c0 : Nat) (l0 : List Int) (r1 : List Int) (r2 : Int) (r3 : Int) (w0 w : World) (hB : Below w0.heap.size w0 w) (hr0 : Kd.C (Kd.int .u8) w0 A0 l0.length l0) (hc0 : l0.length ≤ c0) (h : spec_l01From.f k l0 = some (r1, r2, r3)) :
  Calls Try.prog 66 #[.slice A0 l0.length c0] w fun e w' => ∃ g_ : Nat, e = .returned (.pointer (some ⟨g_, 0, none⟩)) ∧ IsS86 w0 w' g_ r1 r2 r3 ∧ Below w0.heap.size w0 w' ∧ Below w.heap.size w w' := by
 have hu86 := Try.underlying86
 have HR0 := jA hr0
 have HC0 := jA hc0
 clear hr0 hc0
 have HBW := jA (Below.refl w.heap.size w)
 have HW0 := jA hB.size
 have HB := jA hB
 clear hB
 have H : (spec_l01From.l0 k l0 0 l0 0 61043) = some (r1, r2, r3) := h
 clear h
 have H' := jA H
 clear H
 go_enter Try.func66, Try.ntmps66
 go_wp2_with (first | ((with_reducible refine gate_dst (N := 7) rfl ?_); refine box_event ?hg (N := 7) ?hd (cs := #[.slice A0 l0.length c0, .int .i64 0, .int .i64 61043]) (t := 86) ?hr ?_; (case hd => rfl); (case hg => rfl); (case hr => first | (go_simp; done) | (go_simp; rfl)); intro gb222 hg w2 hbox hb; have n0_ := jA (jT HBW.out hb); have n1_ := jA (jT (zb0 HB) hb); have n2_ := jA (hbox); have n3_ := jA ((by rw [hg]; exact (jW (by repeat (first | (with_reducible first | exact HBW.out | apply jP | apply jK | apply jL) | exact HBW.out))) : w.heap.size ≤ gb222)); have n4_ := jA ((Nat.le_trans HW0.out (by rw [hg]; exact (jW (by repeat (first | (with_reducible first | exact HBW.out | apply jP | apply jK | apply jL) | exact HBW.out))) : w.heap.size ≤ gb222) : w0.heap.size ≤ gb222)); clear HBW; clear HB; have HBW := n0_; have HB := n1_; have BK222 := n2_; have GW222 := n3_; have GE222 := n4_; clear n0_ n1_ n2_ n3_ n4_; clear hb hbox hg))
 go_loopg [4] k (fun kq v4 w' => ∃ (x4_1 : Int) (x223002_1 : Int), v4 = .int .i64 x4_1 ∧ Aside0 (spec_l01From.l0 kq l0 x4_1 l0 0 x223002_1 = some (r1, r2, r3)) ∧ Aside0 (kq ≤ k) ∧ Aside0 (w'.heap[gb222]? = some (.cells #[(.slice A0 l0.length c0), .int .i64 0, .int .i64 x223002_1] 86 (0, 0))) ∧ Aside0 (Below w0.heap.size w0 w') ∧ Aside0 (Below w.heap.size w w'))
 case atStart => exact ⟨(0), (61043), zz, H', ⟨Nat.le_refl _⟩, ⟨by (with_reducible repeat (first | refine jc ?_ _ | refine blk_drew ?_ | refine jd ?_ _)); exact BK222.out⟩, ⟨zb1 HB GE222⟩, ⟨by repeat (first | (with_reducible first | exact HBW.out | apply jP | apply jK | apply jL | refine jQ ?_ GW222.out) | exact HBW.out)⟩⟩
 case round =>
  clear H'
  try clear p2
  obtain ⟨x4_1, x223002_1, rfl, HA, HK1, BK222, HB, HBW⟩ := hrel
  cases gk with
  | zero => exact absurd HA.out (by simp [spec_l01From.l0])
  | succ k1 =>
   have H := HA.out
   clear HA
   simp only [spec_l01From.l0] at H
   by_cases c3 : x4_1 < (l0.length : Int)
   ·rw [if_pos c3] at H
    have c3b0 : decide (x4_1 < (l0.length : Int)) = true := jG c3
    clear c3
    by_cases c4 : x4_1 < 64
    ·rw [if_pos c4] at H
     have c4b0 : decide (x4_1 < 64) = true := jG c4
     clear c4
     by_cases c5 : 0 ≤ x4_1
     ·rw [if_pos c5] at H
      have c5b0 : decide (0 ≤ x4_1) = true := jG c5
      clear c5
      have H' := jA H
      clear H
      try go_wp2
      have n0_ := jA (blk_drew BK222.out)
      have n1_ := jA (jL HB.out)
      have n2_ := jA (jL HBW.out)
      clear HBW
      have HBW := n2_
      clear n2_
      clear BK222
      clear HB
      have BK222 := n0_
      have HB := n1_
      clear n0_ n1_
      have p223 : 0 ≤ (x4_1 : Int) := jB za
      have q223 : x4_1 < (l0.length : Int) := jB za
      obtain ⟨ad223, e223, hx223_0⟩ := Kd.at_int HR0.out x4_1 p223 q223
      have hw223_0 := hx223_0
      cases e223
      replace hx223_0 := pw_cell_below HB.out hx223_0
      replace p223 := eq_true p223
      replace q223 := eq_true q223
      refine start_ (n := 16) (S := fun w' => w'.cell? ⟨gb222, 0, none⟩ = some (.slice (some ad223) l0.length c0) ∧ w'.cell? ⟨gb222, 1, none⟩ = some (.int .i64 0) ∧ w'.cell? ⟨gb222, 2, none⟩ = some (.int .i64 x223002_1) ∧ w'.cell? (ad223.add (x4_1).toNat) = some (.int .u8 (rd l0 x4_1))) (ds := [15]) #[false, false, false, false, false, false, false, false, false, false, false, false, false, false, false, false] zr rfl rfl ⟨(jR BK222.out 0).trans rfl, (jR BK222.out 1).trans rfl, (jR BK222.out 2).trans rfl, ((HB.out.cell (jC _ _ hw223_0)).trans hw223_0)⟩ (fun hHeld => ?_); refine with_tabW spec_l01From.tab5 spec_l01From.bits5 (fun HT_ HW_ => ?_)
      generalize wr.drew = w6 at BK222 HB HBW hx223_0 hHeld ⊢
      refine zp HT_ 0 18 #[true, false, false, false, false, false, false, false, false, false, false, false, false, false, false, false] ?_
      refine zp HT_ 1 19 #[true, true, false, false, false, false, false, false, false, false, false, false, false, false, false, false] ?_
      refine zp HT_ 2 20 #[true, true, true, false, false, false, false, false, false, false, false, false, false, false, false, false] ?_
      refine zp HT_ 3 21 #[true, true, true, true, false, false, false, false, false, false, false, false, false, false, false, false] ?_
      refine zp HT_ 6 24 #[true, true, true, true, false, false, true, false, false, false, false, false, false, false, false, false] ?_
      refine zp HT_ 7 25 #[true, true, true, true, false, false, true, true, false, false, false, false, false, false, false, false] ?_
      refine zp HT_ 8 26 #[true, true, true, true, false, false, true, true, true, false, false, false, false, false, false, false] ?_
      refine zt4 HT_ HW_ hHeld 4 22 #[true, true, true, true, true, false, true, true, true, false, false, false, false, false, false, false] ?_
      refine zp HT_ 5 23 #[true, true, true, true, true, true, true, true, true, false, false, false, false, false, false, false] ?_
      refine zt4 HT_ HW_ hHeld 9 27 #[true, true, true, true, true, true, true, true, true, true, false, false, false, false, false, false] ?_
      refine zp HT_ 10 28 #[true, true, true, true, true, true, true, true, true, true, true, false, false, false, false, false] ?_
      refine zp HT_ 11 29 #[true, true, true, true, true, true, true, true, true, true, true, true, false, false, false, false] ?_
      refine zp HT_ 12 30 #[true, true, true, true, true, true, true, true, true, true, true, true, true, false, false, false] ?_
      refine zp HT_ 13 31 #[true, true, true, true, true, true, true, true, true, true, true, true, true, true, false, false] ?_
      refine zp HT_ 14 32 #[true, true, true, true, true, true, true, true, true, true, true, true, true, true, true, false] ?_
      refine last_ (i := 15) (N := none) #[true, true, true, true, true, true, true, true, true, true, true, true, true, true, true, true] rfl rfl (one_of HT_.out zr) (by decide) (fun K hK => ?_)
      have hs7 : w6.cell? ⟨gb222, 2, none⟩ = some (.int .i64 x223002_1) := (jR BK222.out 2).trans rfl
      have hfs7 := jV BK222.out 2
      refine skip_ (w1 := ?_) (by rfl) rfl ?_ ?_
      rotate_left
      ·go_simp
       rfl
      refine hK.out _ _ ?_
      clear hK K
      refine done_ (done_of HT_.out zr) ?_
      try go_wp2
      go_roundg k1
      case measure => have := HK1.out; omega
      case rel => exact ⟨(wrap64 (x4_1 + 1)), (Int.tmod (wrap64 ((wrap64 (x223002_1 * 83)) + (wrap64 (rd l0 x4_1)))) 2147483647), zz, H', ⟨by have := HK1.out; omega⟩, ⟨by (with_reducible repeat (first | refine jc ?_ _ | refine blk_drew ?_ | refine jd ?_ _)); refine blk_put (cs := #[.slice (some ad223) l0.length c0, .int .i64 0, .int .i64 x223002_1]) ?_ 2 _ rfl; (with_reducible repeat (first | refine jc ?_ _ | refine blk_drew ?_ | refine jd ?_ _)); exact BK222.out⟩, ⟨zb1 HB GE222⟩, ⟨by repeat (first | (with_reducible first | exact HBW.out | apply jP | apply jK | apply jL | refine jQ ?_ GW222.out) | exact HBW.out)⟩⟩
     ·rw [if_neg c5] at H
      exact absurd H (by simp)
    ·rw [if_neg c4] at H
     have c4b0 : decide (x4_1 < 64) = false := jb c4
     clear c4
     simp only [jU, jY] at H
     obtain ⟨rfl, rfl, rfl⟩ := H
     go_wp2
     go_ret
     exact ⟨_, rfl, (show IsS86 w0 _ gb222 l0 0 x223002_1 from ⟨_, _, by (with_reducible repeat (first | refine jc ?_ _ | refine blk_drew ?_ | refine jd ?_ _)); exact BK222.out, GE222.out, HR0.out⟩), zb1 HB GE222, by repeat (first | (with_reducible first | exact HBW.out | apply jP | apply jK | apply jL | refine jQ ?_ GW222.out) | exact HBW.out)⟩
   ·rw [if_neg c3] at H
    have c3b0 : decide (x4_1 < (l0.length : Int)) = false := jb c3
    clear c3
    simp only [jU, jY] at H
    obtain ⟨rfl, rfl, rfl⟩ := H
    go_wp2
    go_ret
    exact ⟨_, rfl, (show IsS86 w0 _ gb222 l0 0 x223002_1 from ⟨_, _, by (with_reducible repeat (first | refine jc ?_ _ | refine blk_drew ?_ | refine jd ?_ _)); exact BK222.out, GE222.out, HR0.out⟩), zb1 HB GE222, by repeat (first | (with_reducible first | exact HBW.out | apply jP | apply jK | apply jL | refine jQ ?_ GW222.out) | exact HBW.out)⟩

end Go.Proofs.Ytmhnkhealidjjaa.PFnDepots
