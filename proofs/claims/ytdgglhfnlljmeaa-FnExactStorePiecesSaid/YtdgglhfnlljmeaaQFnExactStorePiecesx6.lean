/- Functions and contracts that FnExactStorePieces reaches (7 of 17). -/
import Derived.Test.YtdgglhfnlljmeaaQFnExactStorePiecesx5
namespace Go.Proofs.Ytdgglhfnlljmeaa.PFnExactStorePieces
open Go.RowKit Go.Proofs.YtdgglhfnlljmeaaW.PrintWords Go.Proofs.YtdgglhfnlljmeaaW.PrintLast Go.Proofs.YtdgglhfnlljmeaaW.PrintMore
attribute [local go_sem] max2_int min2_int max_two min_two max_three min_three max_four min_four   -- for this text's walks alone
set_option linter.unusedVariables false
set_option linter.unusedSimpArgs false
open Go.Proofs.YtdgglhfnlljmeaaX

/-! ### laws_markInt64S: function 56 -/
def laws_markInt64S.l0 : Nat → List Int → Int → Int → Option (Int × List Int)
 | 0, _, _, _ => none
 | k + 1, x0, x1, x5 => if x5 < (x0.length : Int) then (if 0 ≤ x5 then (laws_markInt64S.l0 k (x0.set (x5 : Int).toNat x1) (wrap64 (x1 + 1)) (wrap64 (x5 + 1))) else (none)) else (some (x1, x0))
def laws_markInt64S.f (k : Nat) (l0 : List Int) (a1 : Int) : Option (Int × List Int) := laws_markInt64S.l0 k l0 a1 0
theorem laws_markInt64S.mono_l : ∀ k, (∀ y0 y1 y2, LeO (laws_markInt64S.l0 k y0 y1 y2) (laws_markInt64S.l0 (k + 1) y0 y1 y2))
 | 0 => fun _ _ _ r h => by simp [laws_markInt64S.l0] at h
 | k + 1 => by
  have ih0 := laws_markInt64S.mono_l k
  ·intro y0 y1 y2
   unfold laws_markInt64S.l0
   repeat' first
   | (with_reducible exact ih0 _ _ _)
   | (with_reducible exact LeO.refl _)
   | (with_reducible exact LeO.none _)
   | (with_reducible refine LeO.ite ?_ ?_)
   | (with_reducible refine LeO.bind ?_ (fun _ => ?_))
   | exact ih0 _ _ _
   | exact LeO.none _
   | refine LeO.ite ?_ ?_
   | refine LeO.bind ?_ (fun _ => ?_)
theorem laws_markInt64S.mono : ∀ a0 a1 k, LeO (laws_markInt64S.f k a0 a1) (laws_markInt64S.f (k + 1) a0 a1) := by
 intro a0 a1 k
 have ih0 := laws_markInt64S.mono_l k
 unfold laws_markInt64S.f
 repeat' first
   | (with_reducible exact ih0 _ _ _)
   | (with_reducible exact LeO.refl _)
   | (with_reducible exact LeO.none _)
   | (with_reducible refine LeO.ite ?_ ?_)
   | (with_reducible refine LeO.bind ?_ (fun _ => ?_))
   | exact ih0 _ _ _
   | exact LeO.none _
   | refine LeO.ite ?_ ?_
   | refine LeO.bind ?_ (fun _ => ?_)
set_option maxHeartbeats 8000000 in
set_option maxRecDepth 100000 in
theorem laws_markInt64S.calls (k : Nat) (P0_ : Nat → Prop) (u9000_ : Value) (l0 : List Int) (a1 : Int) (r1 : Int) (r2 : List Int) (w0 w : World) (hB : Below w0.heap.size w0 w) (ho0 : Kd.R (Kd.int .i64) 2 w w0.heap.size P0_ u9000_ l0) (h : laws_markInt64S.f k l0 a1 = some (r1, r2)) :
  Calls Try.prog 56 #[u9000_, .int .i64 a1] w fun e w' => e = .returned (.int .i64 r1) ∧ Kd.R (Kd.int .i64) 2 w' w0.heap.size (fun k_ => (P0_ k_ ∨ w.heap.size ≤ k_)) u9000_ r2 ∧ Below w0.heap.size w0 w' ∧ Kept w w' (fun k_ => P0_ k_) := by
 have HO0 := jA (show Kd.R (Kd.int .i64) 2 w w0.heap.size (fun k_ => (P0_ k_ ∨ w.heap.size ≤ k_)) u9000_ l0 from Kd.R_mono ho0 (fun k_ hk => (.inl hk)))
 have HK := jA (Kept.refl w (fun k_ => P0_ k_))
 have HW0 := jA hB.size
 have HB := jA hB
 clear hB
 have H : (laws_markInt64S.l0 k l0 a1 0) = some (r1, r2) := h
 clear h
 have H' := jA H
 clear H
 go_enter Try.func56, Try.ntmps56
 go_wp2
 go_loopg [1, 5] k (fun kq v1 v5 w' => ∃ (x0_1 : List Int) (x1_1 : Int) (x5_1 : Int), v1 = .int .i64 x1_1 ∧ v5 = .int .i64 x5_1 ∧ Aside0 (laws_markInt64S.l0 kq x0_1 x1_1 x5_1 = some (r1, r2)) ∧ Aside0 (kq ≤ k) ∧ Aside0 (Kd.R (Kd.int .i64) 2 w' w0.heap.size (fun k_ => (P0_ k_ ∨ w.heap.size ≤ k_)) u9000_ x0_1) ∧ Aside0 (Kept w w' (fun k_ => P0_ k_)) ∧ Aside0 (Below w0.heap.size w0 w'))
 case atStart => exact ⟨(l0), (a1), (0), zz, zz, H', ⟨Nat.le_refl _⟩, ⟨by (with_reducible repeat (first | apply Kd.R_alloc | apply Kd.R_drewN | apply Kd.R_drew)); exact HO0.out⟩, ⟨by repeat (first | (with_reducible first | exact HK.out | apply Kept.alloc | apply Kept.drewN | apply Kept.drew) | exact HK.out)⟩, ⟨zb0 HB⟩⟩
 case round =>
  clear H'
  try clear p2
  obtain ⟨x0_1, x1_1, x5_1, rfl, rfl, HA, HK1, HO_0, HK, HB⟩ := hrel
  cases gk with
  | zero => exact absurd HA.out (by simp [laws_markInt64S.l0])
  | succ k1 =>
   have H := HA.out
   clear HA
   simp only [laws_markInt64S.l0] at H
   by_cases c3 : x5_1 < (x0_1.length : Int)
   ·rw [if_pos c3] at H
    have c3b0 : decide (x5_1 < (x0_1.length : Int)) = true := jQ c3
    clear c3
    by_cases c4 : 0 ≤ x5_1
    ·rw [if_pos c4] at H
     have c4b0 : decide (0 ≤ x5_1) = true := jQ c4
     clear c4
     obtain ⟨y194, hy194⟩ : ∃ y_ : List Int, y_ = (x0_1.set (x5_1 : Int).toNat x1_1) := ⟨_, rfl⟩
     replace H : (laws_markInt64S.l0 k1 y194 (wrap64 (x1_1 + 1)) (wrap64 (x5_1 + 1))) = some (r1, r2) := by first | (rw [hy194]; with_reducible exact H) | (have H2_ := (Option.bind_some _ _).symm.trans H; rw [hy194]; with_reducible exact H2_) | (have H2_ := (Option.bind_some _ _).symm.trans H; with_reducible exact H2_) | with_reducible exact H | (rw [hy194]; exact H) | exact H
     have Ny194 := jA hy194
     clear hy194
     have H' := jA H
     clear H
     obtain ⟨Ao6, co6, eo6⟩ := Kd.R_slice HO_0.out
     subst eo6
     have p5 : 0 ≤ (x5_1 : Int) := jE za
     have q5 : (x5_1 : Int) < ((x0_1.length : Int) : Int) := jE za
     obtain ⟨go5, co5, eo5, gb5, gl5, cl5, HG5⟩ := Kd.R_form HO_0.out (by omega)
     (first | cases eo5 | (injection eo5 with ea_ en_ ec_; (first | subst ea_ | (injection ea_ with ea_; subst ea_)); subst ec_; clear en_))
     have GB5 := jA gb5
     have GG5 := jA HG5
     clear gb5 gl5 HG5
     have HMgo5 := jA (show (P0_ go5 ∨ w.heap.size ≤ go5) from (HO_0.out.1 _ rfl))
     obtain ⟨hx5_0, hf5_0⟩ := Kd.R_celln 0 HO_0.out (x5_1 : Int) p5 q5
     replace p5 := eq_true p5
     replace q5 := eq_true q5
     have HP7 := Kd.R_putg HO_0.out (x5_1 : Int) x1_1
     go_wp2_with (first | ((with_reducible refine gate_store (t := 2) (p := 15) rfl ?_); refine store_event (t := 2) (p := 15) (v := ?vo_w8) (w1 := (wr.setCell ⟨go5, (x5_1 : Int).toNat, none⟩ (.int .i64 x1_1))) ?hg ?ho ?hn ?hr ?_; (case ho => rfl); (case hg => rfl); (case hn => rfl); (case hr => first | (go_simp; done) | (go_simp; rfl)); intro w8 hw; have hg : wr.grownBy w8 (some go5) := (by rw [hw]; exact HP7.2); have hp_ : Kd.R (Kd.int .i64) 2 w8 w0.heap.size (fun k_ => (P0_ k_ ∨ w.heap.size ≤ k_)) (.slice (some ⟨go5, 0, none⟩) x0_1.length co6) y194 := (by rw [hw, Ny194.out]; exact HP7.1); clear HP7; have n0_ := jA (hp_); have n1_ := jA ((by rw [hw]; exact below_set (HB.out) GB5.out : Below w0.heap.size w0 w8)); have n2_ := jA (Kept.of_grown (S := (fun k_ => P0_ k_)) hg (by repeat (first | (with_reducible first | exact HK.out | apply Kept.alloc | apply Kept.drewN | apply Kept.drew) | exact HK.out)) (fun k_ e_ => (HO_0.out.1 k_ e_))); clear HO_0; clear HB; clear HK; have HO_0 := n0_; have HB := n1_; have HK := n2_; clear n0_ n1_ n2_; clear hg hw hp_))
     go_roundg k1
     case measure => have := HK1.out; omega
     case rel => exact ⟨(y194), (wrap64 (x1_1 + 1)), (wrap64 (x5_1 + 1)), zz, zz, H', ⟨by have := HK1.out; omega⟩, ⟨by (with_reducible repeat (first | apply Kd.R_alloc | apply Kd.R_drewN | apply Kd.R_drew)); exact HO_0.out⟩, ⟨by repeat (first | (with_reducible first | exact HK.out | apply Kept.alloc | apply Kept.drewN | apply Kept.drew) | exact HK.out)⟩, ⟨zb0 HB⟩⟩
    ·rw [if_neg c4] at H
     exact absurd H (by simp)
   ·rw [if_neg c3] at H
    have c3b0 : decide (x5_1 < (x0_1.length : Int)) = false := jY c3
    clear c3
    simp only [Option.some.injEq, Prod.mk.injEq] at H
    obtain ⟨rfl, rfl⟩ := H
    obtain ⟨Ao9, co9, eo9⟩ := Kd.R_slice HO_0.out
    subst eo9
    go_wp2
    go_ret
    exact ⟨by first | rfl | (simp [errW_none, errW_some] <;> rfl) | (simp [*, errW_none, errW_some] <;> rfl), by (with_reducible repeat (first | apply Kd.R_alloc | apply Kd.R_drewN | apply Kd.R_drew)); exact HO_0.out, zb0 HB, by repeat (first | (with_reducible first | exact HK.out | apply Kept.alloc | apply Kept.drewN | apply Kept.drew) | exact HK.out)⟩

/-! ### laws_markMagazine: function 23 -/
def laws_markMagazine.f (k : Nat) (a0_0 : Int) (l0_1 : List Int) (a1 : Int) : Option (Int × List Int) := (laws_markInt64S.f k l0_1 a1).bind fun bt196 => (some (bt196.1, bt196.2))
theorem laws_markMagazine.mono : ∀ a0 a1 a2 k, LeO (laws_markMagazine.f k a0 a1 a2) (laws_markMagazine.f (k + 1) a0 a1 a2) := by
 intro a0 a1 a2 k
 unfold laws_markMagazine.f
 repeat' first
   | (with_reducible exact laws_markInt64S.mono _ _ _)
   | (with_reducible exact LeO.refl _)
   | (with_reducible exact LeO.none _)
   | (with_reducible refine LeO.ite ?_ ?_)
   | (with_reducible refine LeO.bind ?_ (fun _ => ?_))
   | exact laws_markInt64S.mono _ _ _
   | exact LeO.none _
   | refine LeO.ite ?_ ?_
   | refine LeO.bind ?_ (fun _ => ?_)
set_option maxHeartbeats 8000000 in
set_option maxRecDepth 100000 in
theorem laws_markMagazine.calls (k : Nat) (a0_0 : Int) (P0_1_ : Nat → Prop) (u9000_ : Value) (l0_1 : List Int) (a1 : Int) (r1 : Int) (r2 : List Int) (w0 w : World) (hB : Below w0.heap.size w0 w) (ho0_1 : Kd.R (Kd.int .i64) 2 w w0.heap.size P0_1_ u9000_ l0_1) (h : laws_markMagazine.f k a0_0 l0_1 a1 = some (r1, r2)) :
  Calls Try.prog 23 #[.agg #[.int .i64 a0_0, u9000_], .int .i64 a1] w fun e w' => e = .returned (.int .i64 r1) ∧ Kd.R (Kd.int .i64) 2 w' w0.heap.size (fun k_ => (P0_1_ k_ ∨ w.heap.size ≤ k_)) u9000_ r2 ∧ Below w0.heap.size w0 w' ∧ Kept w w' (fun k_ => P0_1_ k_) := by
 have hu28 := Try.underlying28
 have HO0_1 := jA (show Kd.R (Kd.int .i64) 2 w w0.heap.size (fun k_ => (P0_1_ k_ ∨ w.heap.size ≤ k_)) u9000_ l0_1 from Kd.R_mono ho0_1 (fun k_ hk => (.inl hk)))
 have HK := jA (Kept.refl w (fun k_ => P0_1_ k_))
 have HW0 := jA hB.size
 have HB := jA hB
 clear hB
 have H : ((laws_markInt64S.f k l0_1 a1).bind fun bt196 => (some (bt196.1, bt196.2))) = some (r1, r2) := h
 clear h
 replace H := jP.mp H
 obtain ⟨⟨t196, t197⟩, A30, H⟩ := H
 replace H : (some (t196, t197)) = some (r1, r2) := H
 have A3 := jA A30
 clear A30
 simp only [Option.some.injEq, Prod.mk.injEq] at H
 obtain ⟨rfl, rfl⟩ := H
 obtain ⟨Ao4, co4, eo4⟩ := Kd.R_slice HO0_1.out
 subst eo4
 go_enter Try.func23, Try.ntmps23
 go_wp2_with (first | ((with_reducible refine jV (N := 2) rfl ?_); refine jU ?hg (N := 2) ?hd (cs := #[.int .i64 a0_0, .slice Ao4 l0_1.length co4]) (t := 28) ?hr ?_; (case hd => rfl); (case hg => rfl); (case hr => first | (go_simp; done) | (go_simp; rfl)); intro gb195 hg w5 hbox hb; have n0_ := jA (Kd.R_below (by (with_reducible repeat (first | apply Kd.R_alloc | apply Kd.R_drewN | apply Kd.R_drew)); exact HO0_1.out) hb); have n1_ := jA (Kept.below (S := (fun k_ => P0_1_ k_)) (by repeat (first | (with_reducible first | exact HK.out | apply Kept.alloc | apply Kept.drewN | apply Kept.drew) | exact HK.out)) hb); have n2_ := jA (jJ (zb0 HB) hb); have n3_ := jA (hbox); have n4_ := jA ((by rw [hg]; exact (by first | exact HK.out.1 | exact (show Kept w _ (fun k_ => P0_1_ k_) from by repeat (first | (with_reducible first | exact HK.out | apply Kept.alloc | apply Kept.drewN | apply Kept.drew) | exact HK.out)).1) : w.heap.size ≤ gb195)); have n5_ := jA ((by rw [hg]; exact (jF (zb0 HB)) : w0.heap.size ≤ gb195)); clear HO0_1; clear HK; clear HB; have HO0_1 := n0_; have HK := n1_; have HB := n2_; have BK195 := n3_; have GW195 := n4_; have GE195 := n5_; clear n0_ n1_ n2_ n3_ n4_ n5_; clear hb hbox hg; have hcz6_0 : w5.cell? ⟨gb195, 0, none⟩ = some (.int .i64 a0_0) := (jD BK195.out 0).trans rfl; have hcz6_1 : w5.cell? ⟨gb195, 1, none⟩ = some (.slice Ao4 l0_1.length co4) := (jD BK195.out 1).trans rfl; have hfz6_0 := jC BK195.out 0; have hfz6_1 := jC BK195.out 1) | ((with_reducible refine jW (f := 56) rfl ?_); refine goesL_ (some 8) rfl rfl Try.func56 zr rfl #[.slice Ao4 l0_1.length co4, .int .i64 a1] rfl zm ?_; (with_reducible refine (laws_markInt64S.calls k (fun k_ => some k_ = (.slice Ao4 l0_1.length co4 : Value).ownBlock) (.slice Ao4 l0_1.length co4) l0_1 a1 t196 t197 w0 _ ?side1 ?side2 A3.out).mono ?_); (case side1 => repeat (first | (with_reducible first | exact HB.out | apply below_alloc | apply pw_below_drewN | apply below_drew1 | refine below_set ?_ GE195.out) | exact HB.out)); (case side2 => exact Kd.R_tight rfl HO0_1.out); rintro e w7 ⟨rfl, hy0, hb, hkp⟩; refine ⟨_, rfl, ?_⟩; have n0_ := jA (Kd.R_reok rfl hy0 (fun k_ e_ => HO0_1.out.1 k_ e_)); have n1_ := jA (blk_kept (zk BK195) hkp (fun hs_ => (fun e_ => (Kd.R_ne HO0_1.out BK195.out (by decide)) e_) hs_)); have n2_ := jA (Kept.then_ (S := (fun k_ => P0_1_ k_)) (by repeat (first | (with_reducible first | exact HK.out | apply Kept.alloc | apply Kept.drewN | apply Kept.drew | refine Kept.setCell ?_ (.inr GW195.out) _) | exact HK.out)) hkp (fun k_ hs_ => (fun e_ => (HO0_1.out.1 k_ e_.symm)) hs_)); have n3_ := jA (hb); clear HO0_1; clear BK195; clear HK; clear HB; have HO0_1 := n0_; have BK195 := n1_; have HK := n2_; have HB := n3_; clear n0_ n1_ n2_ n3_; (try clear hb); (try clear hkp); (try clear hy0)))
 go_ret
 exact ⟨by first | rfl | (simp [errW_none, errW_some] <;> rfl) | (simp [*, errW_none, errW_some] <;> rfl), by (with_reducible repeat (first | apply Kd.R_alloc | apply Kd.R_drewN | apply Kd.R_drew)); exact HO0_1.out, zb1 HB GE195, by repeat (first | (with_reducible first | exact HK.out | apply Kept.alloc | apply Kept.drewN | apply Kept.drew | refine Kept.setCell ?_ (.inr GW195.out) _) | exact HK.out)⟩

/-! ### laws_heldInt64S: function 57 -/
def laws_heldInt64S.l0 : Nat → List Int → Int → Int → Option (Int)
 | 0, _, _, _ => none
 | k + 1, x0, x1, x5 => if x5 < (x0.length : Int) then (if 0 ≤ x5 then (if (rd x0 x5) = x1 then (laws_heldInt64S.l0 k x0 (wrap64 (x1 + 1)) (wrap64 (x5 + 1))) else (some (-1))) else (none)) else (some x1)
def laws_heldInt64S.f (k : Nat) (l0 : List Int) (a1 : Int) : Option (Int) := laws_heldInt64S.l0 k l0 a1 0
theorem laws_heldInt64S.mono_l : ∀ k, (∀ y0 y1 y2, LeO (laws_heldInt64S.l0 k y0 y1 y2) (laws_heldInt64S.l0 (k + 1) y0 y1 y2))
 | 0 => fun _ _ _ r h => by simp [laws_heldInt64S.l0] at h
 | k + 1 => by
  have ih0 := laws_heldInt64S.mono_l k
  ·intro y0 y1 y2
   unfold laws_heldInt64S.l0
   repeat' first
   | (with_reducible exact ih0 _ _ _)
   | (with_reducible exact LeO.refl _)
   | (with_reducible exact LeO.none _)
   | (with_reducible refine LeO.ite ?_ ?_)
   | (with_reducible refine LeO.bind ?_ (fun _ => ?_))
   | exact ih0 _ _ _
   | exact LeO.none _
   | refine LeO.ite ?_ ?_
   | refine LeO.bind ?_ (fun _ => ?_)
theorem laws_heldInt64S.mono : ∀ a0 a1 k, LeO (laws_heldInt64S.f k a0 a1) (laws_heldInt64S.f (k + 1) a0 a1) := by
 intro a0 a1 k
 have ih0 := laws_heldInt64S.mono_l k
 unfold laws_heldInt64S.f
 repeat' first
   | (with_reducible exact ih0 _ _ _)
   | (with_reducible exact LeO.refl _)
   | (with_reducible exact LeO.none _)
   | (with_reducible refine LeO.ite ?_ ?_)
   | (with_reducible refine LeO.bind ?_ (fun _ => ?_))
   | exact ih0 _ _ _
   | exact LeO.none _
   | refine LeO.ite ?_ ?_
   | refine LeO.bind ?_ (fun _ => ?_)
set_option maxHeartbeats 8000000 in
set_option maxRecDepth 100000 in
theorem laws_heldInt64S.calls (k : Nat) (A0 : Option Addr) (c0 : Nat) (l0 : List Int) (a1 : Int) (r : Int) (w : World) (hr0 : Kd.C (Kd.int .i64) w A0 l0.length l0) (hc0 : l0.length ≤ c0) (h : laws_heldInt64S.f k l0 a1 = some r) :
  Calls Try.prog 57 #[.slice A0 l0.length c0, .int .i64 a1] w fun e w' => e = .returned (.int .i64 r) ∧ Drawn0 w w' := by
 have HR0 := jA hr0
 have HC0 := jA hc0
 clear hr0 hc0
 have H : (laws_heldInt64S.l0 k l0 a1 0) = some r := h
 clear h
 have H' := jA H
 clear H
 go_enter Try.func57, Try.ntmps57
 go_wp2
 go_loopg [1, 5] k (fun kq v1 v5 w' => ∃ (x1_1 : Int) (x5_1 : Int), v1 = .int .i64 x1_1 ∧ v5 = .int .i64 x5_1 ∧ Aside0 (laws_heldInt64S.l0 kq l0 x1_1 x5_1 = some r) ∧ Aside0 (kq ≤ k) ∧ Drawn0 w w')
 case atStart => exact ⟨(a1), (0), zz, zz, H', ⟨Nat.le_refl _⟩, by repeat (first | exact Drawn0.refl _ | apply Drawn0.step)⟩
 case round =>
  clear H'
  try clear p2
  obtain ⟨x1_1, x5_1, rfl, rfl, HA, HK1, ⟨m1, rfl⟩⟩ := hrel
  cases gk with
  | zero => exact absurd HA.out (by simp [laws_heldInt64S.l0])
  | succ k1 =>
   have H := HA.out
   clear HA
   simp only [laws_heldInt64S.l0] at H
   by_cases c3 : x5_1 < (l0.length : Int)
   ·rw [if_pos c3] at H
    have c3b0 : decide (x5_1 < (l0.length : Int)) = true := jQ c3
    clear c3
    by_cases c4 : 0 ≤ x5_1
    ·rw [if_pos c4] at H
     have c4b0 : decide (0 ≤ x5_1) = true := jQ c4
     clear c4
     by_cases c5 : (rd l0 x5_1) = x1_1
     ·rw [if_pos c5] at H
      have c5b0 : ((rd l0 x5_1) == x1_1) = true := beq_iff_eq.mpr c5
      have c5b1 : ((rd l0 x5_1) != x1_1) = false := bne_eq_false_iff_eq.mpr c5
      clear c5
      have H' := jA H
      clear H
      have p198 : 0 ≤ (x5_1 : Int) := jE za
      have q198 : x5_1 < (l0.length : Int) := jE za
      obtain ⟨ad198, e198, hx198_0⟩ := Kd.at_int HR0.out x5_1 p198 q198
      cases e198
      replace p198 := eq_true p198
      replace q198 := eq_true q198
      go_wp2
      go_roundg k1
      case measure => have := HK1.out; omega
      case rel => exact ⟨(wrap64 (x1_1 + 1)), (wrap64 (x5_1 + 1)), zz, zz, H', ⟨by have := HK1.out; omega⟩, by repeat (first | exact Drawn0.refl _ | apply Drawn0.step)⟩
     ·rw [if_neg c5] at H
      have c5b0 : ((rd l0 x5_1) == x1_1) = false := beq_eq_false_iff_ne.mpr c5
      have c5b1 : ((rd l0 x5_1) != x1_1) = true := bne_iff_ne.mpr c5
      obtain rfl := jM H
      have p198 : 0 ≤ (x5_1 : Int) := jE za
      have q198 : x5_1 < (l0.length : Int) := jE za
      obtain ⟨ad198, e198, hx198_0⟩ := Kd.at_int HR0.out x5_1 p198 q198
      cases e198
      replace p198 := eq_true p198
      replace q198 := eq_true q198
      go_wp2
      go_ret
      exact ⟨by first | rfl | (simp; done) | (simp [*]; done), by repeat (first | exact Drawn0.refl _ | apply Drawn0.step)⟩
    ·rw [if_neg c4] at H
     exact absurd H (by simp)
   ·rw [if_neg c3] at H
    have c3b0 : decide (x5_1 < (l0.length : Int)) = false := jY c3
    clear c3
    obtain rfl := jM H
    go_wp2
    go_ret
    exact ⟨by first | rfl | (simp; done) | (simp [*]; done), by repeat (first | exact Drawn0.refl _ | apply Drawn0.step)⟩

/-! ### laws_heldMagazine: function 24 -/
def laws_heldMagazine.f (k : Nat) (a0_0 : Int) (l0_1 : List Int) (a1 : Int) : Option (Int) := (laws_heldInt64S.f k l0_1 a1).bind fun t200 => (if t200 < 0 then (some (-1)) else (some t200))
theorem laws_heldMagazine.mono : ∀ a0 a1 a2 k, LeO (laws_heldMagazine.f k a0 a1 a2) (laws_heldMagazine.f (k + 1) a0 a1 a2) := by
 intro a0 a1 a2 k
 unfold laws_heldMagazine.f
 repeat' first
   | (with_reducible exact laws_heldInt64S.mono _ _ _)
   | (with_reducible exact LeO.refl _)
   | (with_reducible exact LeO.none _)
   | (with_reducible refine LeO.ite ?_ ?_)
   | (with_reducible refine LeO.bind ?_ (fun _ => ?_))
   | exact laws_heldInt64S.mono _ _ _
   | exact LeO.none _
   | refine LeO.ite ?_ ?_
   | refine LeO.bind ?_ (fun _ => ?_)
set_option maxHeartbeats 8000000 in
set_option maxRecDepth 100000 in
theorem laws_heldMagazine.calls (k : Nat) (a0_0 : Int) (A0_1 : Option Addr) (c0_1 : Nat) (l0_1 : List Int) (a1 : Int) (r : Int) (w : World) (hr0_1 : Kd.C (Kd.int .i64) w A0_1 l0_1.length l0_1) (hc0_1 : l0_1.length ≤ c0_1) (h : laws_heldMagazine.f k a0_0 l0_1 a1 = some r) :
  Calls Try.prog 24 #[.agg #[.int .i64 a0_0, .slice A0_1 l0_1.length c0_1], .int .i64 a1] w fun e w' => e = .returned (.int .i64 r) ∧ Below w.heap.size w w' := by
 have hu28 := Try.underlying28
 have HR0_1 := jA hr0_1
 have HC0_1 := jA hc0_1
 clear hr0_1 hc0_1
 have HB := jA (Below.refl w.heap.size w)
 have H : ((laws_heldInt64S.f k l0_1 a1).bind fun t200 => (if t200 < 0 then (some (-1)) else (some t200))) = some r := h
 clear h
 replace H := jP.mp H
 obtain ⟨t200, A30, H⟩ := H
 replace H : (if t200 < 0 then (some (-1)) else (some t200)) = some r := H
 have A3 := jA A30
 clear A30
 by_cases c4 : t200 < 0
 ·rw [if_pos c4] at H
  have c4b0 : decide (t200 < 0) = true := jQ c4
  clear c4
  obtain rfl := jM H
  go_enter Try.func24, Try.ntmps24
  go_wp2_with (first | ((with_reducible refine jV (N := 2) rfl ?_); refine jU ?hg (N := 2) ?hd (cs := #[.int .i64 a0_0, .slice A0_1 l0_1.length c0_1]) (t := 28) ?hr ?_; (case hd => rfl); (case hg => rfl); (case hr => first | (go_simp; done) | (go_simp; rfl)); intro gb199 hg w5 hbox hb; have n0_ := jA (jJ (zb0 HB) hb); have n1_ := jA (hbox); have n2_ := jA ((by rw [hg]; exact (jF (zb0 HB)) : w.heap.size ≤ gb199)); have n3_ := jA ((by rw [hg]; exact (jF (zb0 HB)) : w.heap.size ≤ gb199)); clear HB; have HB := n0_; have BK199 := n1_; have GW199 := n2_; have GE199 := n3_; clear n0_ n1_ n2_ n3_; clear hb hbox hg; have hcz6_0 : w5.cell? ⟨gb199, 0, none⟩ = some (.int .i64 a0_0) := (jD BK199.out 0).trans rfl; have hcz6_1 : w5.cell? ⟨gb199, 1, none⟩ = some (.slice A0_1 l0_1.length c0_1) := (jD BK199.out 1).trans rfl; have hfz6_0 := jC BK199.out 0; have hfz6_1 := jC BK199.out 1) | ((with_reducible refine jW (f := 57) rfl ?_); refine goesL_ (some 8) rfl rfl Try.func57 zr rfl #[.slice A0_1 l0_1.length c0_1, .int .i64 a1] rfl zm ?_; (with_reducible refine (laws_heldInt64S.calls k _ _ l0_1 a1 t200 _ ?side1 ?side2 A3.out).mono ?_); (case side1 => exact zs HR0_1 HB); (case side2 => exact HC0_1.out); rintro e w' ⟨rfl, ⟨nd, rfl⟩⟩; refine ⟨_, rfl, ?_⟩))
  go_ret
  exact ⟨by first | rfl | (simp [errW_none, errW_some] <;> rfl) | (simp [*, errW_none, errW_some] <;> rfl), zb1 HB GE199⟩
 ·rw [if_neg c4] at H
  have c4b0 : decide (t200 < 0) = false := jY c4
  clear c4
  obtain rfl := jM H
  go_enter Try.func24, Try.ntmps24
  go_wp2_with (first | ((with_reducible refine jV (N := 2) rfl ?_); refine jU ?hg (N := 2) ?hd (cs := #[.int .i64 a0_0, .slice A0_1 l0_1.length c0_1]) (t := 28) ?hr ?_; (case hd => rfl); (case hg => rfl); (case hr => first | (go_simp; done) | (go_simp; rfl)); intro gb199 hg w7 hbox hb; have n0_ := jA (jJ (zb0 HB) hb); have n1_ := jA (hbox); have n2_ := jA ((by rw [hg]; exact (jF (zb0 HB)) : w.heap.size ≤ gb199)); have n3_ := jA ((by rw [hg]; exact (jF (zb0 HB)) : w.heap.size ≤ gb199)); clear HB; have HB := n0_; have BK199 := n1_; have GW199 := n2_; have GE199 := n3_; clear n0_ n1_ n2_ n3_; clear hb hbox hg; have hcz8_0 : w7.cell? ⟨gb199, 0, none⟩ = some (.int .i64 a0_0) := (jD BK199.out 0).trans rfl; have hcz8_1 : w7.cell? ⟨gb199, 1, none⟩ = some (.slice A0_1 l0_1.length c0_1) := (jD BK199.out 1).trans rfl; have hfz8_0 := jC BK199.out 0; have hfz8_1 := jC BK199.out 1) | ((with_reducible refine jW (f := 57) rfl ?_); refine goesL_ (some 8) rfl rfl Try.func57 zr rfl #[.slice A0_1 l0_1.length c0_1, .int .i64 a1] rfl zm ?_; (with_reducible refine (laws_heldInt64S.calls k _ _ l0_1 a1 t200 _ ?side1 ?side2 A3.out).mono ?_); (case side1 => exact zs HR0_1 HB); (case side2 => exact HC0_1.out); rintro e w' ⟨rfl, ⟨nd, rfl⟩⟩; refine ⟨_, rfl, ?_⟩))
  go_ret
  exact ⟨by first | rfl | (simp [errW_none, errW_some] <;> rfl) | (simp [*, errW_none, errW_some] <;> rfl), zb1 HB GE199⟩

/-! ### impl_within: function 61 -/
def impl_within.f (a0 : Int) (a1 : Int) (a2 : Int) : Option (Bool) := if a1 ≤ a0 then (some (decide (a0 ≤ a2))) else (some false)
set_option maxHeartbeats 8000000 in
set_option maxRecDepth 100000 in
theorem impl_within.calls (a0 : Int) (a1 : Int) (a2 : Int) (r : Bool) (w : World) (h : impl_within.f a0 a1 a2 = some r) :
  Calls Try.prog 61 #[.int .i64 a0, .int .i64 a1, .int .i64 a2] w fun e w' => e = .returned (.bool r) ∧ Drawn0 w w' := by
 have H : (if a1 ≤ a0 then (some (decide (a0 ≤ a2))) else (some false)) = some r := h
 clear h
 by_cases c4 : a1 ≤ a0
 ·rw [if_pos c4] at H
  have c4b0 : decide (a1 ≤ a0) = true := jQ c4
  clear c4
  obtain rfl := jM H
  go_enter Try.func61, Try.ntmps61
  go_wp2
  go_ret
  exact ⟨by first | rfl | (simp; done) | (simp [*]; done), by repeat (first | exact Drawn0.refl _ | apply Drawn0.step)⟩
 ·rw [if_neg c4] at H
  have c4b0 : decide (a1 ≤ a0) = false := jY c4
  clear c4
  obtain rfl := jM H
  go_enter Try.func61, Try.ntmps61
  go_wp2
  go_ret
  exact ⟨by first | rfl | (simp; done) | (simp [*]; done), by repeat (first | exact Drawn0.refl _ | apply Drawn0.step)⟩

/-! ### impl_IsWord: function 90 -/
mutual
def impl_IsWord.j0 : Nat → ByteArray → Bool → Option (Bool)
 | 0, _, _ => none
 | k + 1, x0, x11 => if x11 = true then (some false) else (impl_IsWord.l0 k x0 0)
def impl_IsWord.l0 : Nat → ByteArray → Int → Option (Bool)
 | 0, _, _ => none
 | k + 1, x0, x3 => if x3 < (x0.size : Int) then (if 0 ≤ x3 then (if (bt x0 x3) < 97 then (some false) else (if (bt x0 x3) > 122 then (some false) else (impl_IsWord.l0 k x0 (wrap64 (x3 + 1))))) else (none)) else (some true)
end
def impl_IsWord.f (k : Nat) (a0 : ByteArray) : Option (Bool) := if (a0.size : Int) < 1 then (impl_IsWord.j0 k a0 true) else (impl_IsWord.j0 k a0 (decide ((a0.size : Int) > 16)))
theorem impl_IsWord.mono_l : ∀ k, (∀ y0 y1, LeO (impl_IsWord.j0 k y0 y1) (impl_IsWord.j0 (k + 1) y0 y1)) ∧ (∀ y0 y1, LeO (impl_IsWord.l0 k y0 y1) (impl_IsWord.l0 (k + 1) y0 y1))
 | 0 => ⟨fun _ _ r h => by simp [impl_IsWord.j0] at h, fun _ _ r h => by simp [impl_IsWord.l0] at h⟩
 | k + 1 => by
  obtain ⟨ih0, ih1⟩ := impl_IsWord.mono_l k
  refine ⟨?_, ?_⟩
  ·intro y0 y1
   unfold impl_IsWord.j0
   repeat' first
   | (with_reducible exact ih0 _ _)
   | (with_reducible exact ih1 _ _)
   | (with_reducible exact LeO.refl _)
   | (with_reducible exact LeO.none _)
   | (with_reducible refine LeO.ite ?_ ?_)
   | (with_reducible refine LeO.bind ?_ (fun _ => ?_))
   | exact ih0 _ _
   | exact ih1 _ _
   | exact LeO.none _
   | refine LeO.ite ?_ ?_
   | refine LeO.bind ?_ (fun _ => ?_)
  ·intro y0 y1
   unfold impl_IsWord.l0
   repeat' first
   | (with_reducible exact ih0 _ _)
   | (with_reducible exact ih1 _ _)
   | (with_reducible exact LeO.refl _)
   | (with_reducible exact LeO.none _)
   | (with_reducible refine LeO.ite ?_ ?_)
   | (with_reducible refine LeO.bind ?_ (fun _ => ?_))
   | exact ih0 _ _
   | exact ih1 _ _
   | exact LeO.none _
   | refine LeO.ite ?_ ?_
   | refine LeO.bind ?_ (fun _ => ?_)
theorem impl_IsWord.mono : ∀ a0 k, LeO (impl_IsWord.f k a0) (impl_IsWord.f (k + 1) a0) := by
 intro a0 k
 obtain ⟨ih0, ih1⟩ := impl_IsWord.mono_l k
 unfold impl_IsWord.f
 repeat' first
   | (with_reducible exact ih0 _ _)
   | (with_reducible exact ih1 _ _)
   | (with_reducible exact LeO.refl _)
   | (with_reducible exact LeO.none _)
   | (with_reducible refine LeO.ite ?_ ?_)
   | (with_reducible refine LeO.bind ?_ (fun _ => ?_))
   | exact ih0 _ _
   | exact ih1 _ _
   | exact LeO.none _
   | refine LeO.ite ?_ ?_
   | refine LeO.bind ?_ (fun _ => ?_)
set_option maxHeartbeats 8000000 in
set_option maxRecDepth 100000 in
theorem impl_IsWord.calls (k : Nat) (a0 : ByteArray) (r : Bool) (w : World) (h : impl_IsWord.f k a0 = some r) :
  Calls Try.prog 90 #[.string a0] w fun e w' => e = .returned (.bool r) ∧ Drawn0 w w' := by
 have H : (if (a0.size : Int) < 1 then (impl_IsWord.j0 k a0 true) else (impl_IsWord.j0 k a0 (decide ((a0.size : Int) > 16)))) = some r := h
 clear h
 have HC2 := jA H
 clear H
 go_enter Try.func90, Try.ntmps90
 go_upto_region 1 with (fail)
 go_cut [11] (fun v11 wc => ∃ (kq : Nat) (x11_1 : Bool), v11 = .bool x11_1 ∧ Aside0 (impl_IsWord.j0 kq a0 x11_1 = some r) ∧ Aside0 (kq ≤ k) ∧ Drawn0 w wc)
 case first =>
  have H := HC2.out
  clear HC2
  by_cases c3 : (a0.size : Int) < 1
  ·rw [if_pos c3] at H
   have c3b0 : decide ((a0.size : Int) < 1) = true := jQ c3
   have c3b1 : decide (a0.size < 1) = true := jQ (by omega)
   clear c3
   (first | rw [c3b0] | (simp only [i64_w, i32_w]; rw [c3b0]) | rw [c3b1] | skip)
   have H' := jA H
   clear H
   go_wp2
   go_meet
   case rel => exact ⟨_, (true), zz, H', ⟨by first | omega | exact Nat.le_refl _⟩, by repeat (first | exact Drawn0.refl _ | apply Drawn0.step)⟩
  ·rw [if_neg c3] at H
   have c3b0 : decide ((a0.size : Int) < 1) = false := jY c3
   have c3b1 : decide (a0.size < 1) = false := jY (by omega)
   clear c3
   (first | rw [c3b0] | (simp only [i64_w, i32_w]; rw [c3b0]) | rw [c3b1] | skip)
   have H' := jA H
   clear H
   go_wp2
   go_meet
   case rel => exact ⟨_, (decide ((a0.size : Int) > 16)), zz, H', ⟨by first | omega | exact Nat.le_refl _⟩, by repeat (first | exact Drawn0.refl _ | apply Drawn0.step)⟩
 case rest =>
  clear HC2
  try clear p2
  try clear c3
  try clear c3b0
  try clear c3b1
  obtain ⟨kq, x11_1, rfl, HA, HJ1, ⟨mc1, rfl⟩⟩ := hcut
  cases kq with
  | zero => exact absurd HA.out (by simp [impl_IsWord.j0])
  | succ kj1 =>
   have H := HA.out
   clear HA
   simp only [impl_IsWord.j0] at H
   by_cases c4 : x11_1 = true
   ·subst c4
    have H1 : (some false) = some r := by rw [if_pos rfl] at H; exact H
    clear H
    have H := H1
    clear H1
    obtain rfl := jM H
    go_wp2
    go_ret
    exact ⟨by first | rfl | (simp; done) | (simp [*]; done), by repeat (first | exact Drawn0.refl _ | apply Drawn0.step)⟩
   ·replace c4 := Bool.eq_false_iff.mpr c4
    subst c4
    have H1 : (impl_IsWord.l0 kj1 a0 0) = some r := by rw [if_neg (show ¬ (false = true) by decide)] at H; exact H
    clear H
    have H := H1
    clear H1
    have H' := jA H
    clear H
    go_wp2
    go_loopg [3] kj1 (fun kq v3 w' => ∃ (x3_2 : Int), v3 = .int .i64 x3_2 ∧ Aside0 (impl_IsWord.l0 kq a0 x3_2 = some r) ∧ Aside0 (kq ≤ kj1) ∧ Drawn0 w w')
    case atStart => exact ⟨(0), zz, H', ⟨Nat.le_refl _⟩, by repeat (first | exact Drawn0.refl _ | apply Drawn0.step)⟩
    case round =>
     clear H'
     try clear c1
     try clear p2
     try clear c3
     try clear c3b0
     try clear c3b1
     try clear c4
     try clear p2
     obtain ⟨x3_2, rfl, HA, HK2, ⟨m2, rfl⟩⟩ := hrel
     cases gk with
     | zero => exact absurd HA.out (by simp [impl_IsWord.l0])
     | succ k2 =>
      have H := HA.out
      clear HA
      simp only [impl_IsWord.l0] at H
      by_cases c5 : x3_2 < (a0.size : Int)
      ·rw [if_pos c5] at H
       have c5b0 : decide (x3_2 < (a0.size : Int)) = true := jQ c5
       clear c5
       by_cases c6 : 0 ≤ x3_2
       ·rw [if_pos c6] at H
        have c6b0 : decide (0 ≤ x3_2) = true := jQ c6
        clear c6
        by_cases c8 : (bt a0 x3_2) < 97
        ·rw [if_pos c8] at H
         have c8b0 : decide ((bt a0 x3_2) < 97) = true := jQ c8
         clear c8
         obtain rfl := jM H
         have p7 : 0 ≤ (x3_2 : Int) := jE za
         have q7 : x3_2 < (a0.size : Int) := jE za
         have hx7 := bt_at a0 x3_2
         replace p7 := eq_true p7
         replace q7 := eq_true q7
         go_wp2
         go_ret
         exact ⟨by first | rfl | (simp; done) | (simp [*]; done), by repeat (first | exact Drawn0.refl _ | apply Drawn0.step)⟩
        ·rw [if_neg c8] at H
         have c8b0 : decide ((bt a0 x3_2) < 97) = false := jY c8
         clear c8
         by_cases c10 : (bt a0 x3_2) > 122
         ·rw [if_pos c10] at H
          have c10b0 : decide (122 < (bt a0 x3_2)) = true := jQ c10
          clear c10
          obtain rfl := jM H
          have p7 : 0 ≤ (x3_2 : Int) := jE za
          have q7 : x3_2 < (a0.size : Int) := jE za
          have hx7 := bt_at a0 x3_2
          replace p7 := eq_true p7
          replace q7 := eq_true q7
          have p9 : 0 ≤ (x3_2 : Int) := jE za
          have q9 : x3_2 < (a0.size : Int) := jE za
          have hx9 := bt_at a0 x3_2
          replace p9 := eq_true p9
          replace q9 := eq_true q9
          go_wp2
          go_ret
          exact ⟨by first | rfl | (simp; done) | (simp [*]; done), by repeat (first | exact Drawn0.refl _ | apply Drawn0.step)⟩
         ·rw [if_neg c10] at H
          have c10b0 : decide (122 < (bt a0 x3_2)) = false := jY c10
          clear c10
          have H' := jA H
          clear H
          have p7 : 0 ≤ (x3_2 : Int) := jE za
          have q7 : x3_2 < (a0.size : Int) := jE za
          have hx7 := bt_at a0 x3_2
          replace p7 := eq_true p7
          replace q7 := eq_true q7
          have p9 : 0 ≤ (x3_2 : Int) := jE za
          have q9 : x3_2 < (a0.size : Int) := jE za
          have hx9 := bt_at a0 x3_2
          replace p9 := eq_true p9
          replace q9 := eq_true q9
          go_wp2
          go_roundg k2
          case measure => have := HJ1.out; have := HK2.out; omega
          case rel => exact ⟨(wrap64 (x3_2 + 1)), zz, H', ⟨by have := HJ1.out; have := HK2.out; omega⟩, by repeat (first | exact Drawn0.refl _ | apply Drawn0.step)⟩
       ·rw [if_neg c6] at H
        exact absurd H (by simp)
      ·rw [if_neg c5] at H
       have c5b0 : decide (x3_2 < (a0.size : Int)) = false := jY c5
       clear c5
       obtain rfl := jM H
       go_wp2
       go_ret
       exact ⟨by first | rfl | (simp; done) | (simp [*]; done), by repeat (first | exact Drawn0.refl _ | apply Drawn0.step)⟩

/-! ### impl_IsArticle: function 84 -/
def impl_IsArticle.f (k : Nat) (a0_0 : ByteArray) (a0_1 : Int) (a0_2 : Int) (a0_3 : Int) (a0_4 : Int) (a0_5 : Int) (a0_6 : Int) (a0_7 : Int) (a0_8 : Int) : Option (Bool) := (impl_IsWord.f k a0_0).bind fun t202 => (if t202 = true then ((impl_within.f a0_1 0 3).bind fun t203 => (if t203 = true then ((impl_within.f a0_2 20 300).bind fun t204 => (if t204 = true then ((impl_within.f a0_3 0 10000).bind fun t205 => (if t205 = true then ((impl_within.f a0_4 0 a0_3).bind fun t206 => (if t206 = true then ((impl_within.f a0_5 1 50).bind fun t207 => (if t207 = true then ((impl_within.f a0_6 0 10000).bind fun t208 => (if t208 = true then ((impl_within.f a0_7 1 100000).bind fun t209 => (if t209 = true then ((impl_within.f a0_8 0 3).bind fun t210 => (some t210)) else (some false))) else (some false))) else (some false))) else (some false))) else (some false))) else (some false))) else (some false))) else (some false))
theorem impl_IsArticle.mono : ∀ a0 a1 a2 a3 a4 a5 a6 a7 a8 k, LeO (impl_IsArticle.f k a0 a1 a2 a3 a4 a5 a6 a7 a8) (impl_IsArticle.f (k + 1) a0 a1 a2 a3 a4 a5 a6 a7 a8) := by
 intro a0 a1 a2 a3 a4 a5 a6 a7 a8 k
 unfold impl_IsArticle.f
 repeat' first
   | (with_reducible exact impl_IsWord.mono _ _)
   | (with_reducible exact LeO.refl _)
   | (with_reducible exact LeO.none _)
   | (with_reducible refine LeO.ite ?_ ?_)
   | (with_reducible refine LeO.bind ?_ (fun _ => ?_))
   | exact impl_IsWord.mono _ _
   | exact LeO.none _
   | refine LeO.ite ?_ ?_
   | refine LeO.bind ?_ (fun _ => ?_)
set_option maxHeartbeats 8000000 in
set_option maxRecDepth 100000 in
theorem impl_IsArticle.calls (k : Nat) (a0_0 : ByteArray) (a0_1 : Int) (a0_2 : Int) (a0_3 : Int) (a0_4 : Int) (a0_5 : Int) (a0_6 : Int) (a0_7 : Int) (a0_8 : Int) (r : Bool) (w : World) (h : impl_IsArticle.f k a0_0 a0_1 a0_2 a0_3 a0_4 a0_5 a0_6 a0_7 a0_8 = some r) :
  Calls Try.prog 84 #[.agg #[.string a0_0, .int .i64 a0_1, .int .i64 a0_2, .int .i64 a0_3, .int .i64 a0_4, .int .i64 a0_5, .int .i64 a0_6, .int .i64 a0_7, .int .i64 a0_8]] w fun e w' => e = .returned (.bool r) ∧ Below w.heap.size w w' := by
 have hu65 := Try.underlying65
 have HB := jA (Below.refl w.heap.size w)
 have H : ((impl_IsWord.f k a0_0).bind fun t202 => (if t202 = true then ((impl_within.f a0_1 0 3).bind fun t203 => (if t203 = true then ((impl_within.f a0_2 20 300).bind fun t204 => (if t204 = true then ((impl_within.f a0_3 0 10000).bind fun t205 => (if t205 = true then ((impl_within.f a0_4 0 a0_3).bind fun t206 => (if t206 = true then ((impl_within.f a0_5 1 50).bind fun t207 => (if t207 = true then ((impl_within.f a0_6 0 10000).bind fun t208 => (if t208 = true then ((impl_within.f a0_7 1 100000).bind fun t209 => (if t209 = true then ((impl_within.f a0_8 0 3).bind fun t210 => (some t210)) else (some false))) else (some false))) else (some false))) else (some false))) else (some false))) else (some false))) else (some false))) else (some false))) = some r := h
 clear h
 replace H := jP.mp H
 obtain ⟨t202, A20, H⟩ := H
 replace H : (if t202 = true then ((impl_within.f a0_1 0 3).bind fun t203 => (if t203 = true then ((impl_within.f a0_2 20 300).bind fun t204 => (if t204 = true then ((impl_within.f a0_3 0 10000).bind fun t205 => (if t205 = true then ((impl_within.f a0_4 0 a0_3).bind fun t206 => (if t206 = true then ((impl_within.f a0_5 1 50).bind fun t207 => (if t207 = true then ((impl_within.f a0_6 0 10000).bind fun t208 => (if t208 = true then ((impl_within.f a0_7 1 100000).bind fun t209 => (if t209 = true then ((impl_within.f a0_8 0 3).bind fun t210 => (some t210)) else (some false))) else (some false))) else (some false))) else (some false))) else (some false))) else (some false))) else (some false))) else (some false)) = some r := H
 have A2 := jA A20
 clear A20
 by_cases c3 : t202 = true
 ·subst c3
  have H1 : ((impl_within.f a0_1 0 3).bind fun t203 => (if t203 = true then ((impl_within.f a0_2 20 300).bind fun t204 => (if t204 = true then ((impl_within.f a0_3 0 10000).bind fun t205 => (if t205 = true then ((impl_within.f a0_4 0 a0_3).bind fun t206 => (if t206 = true then ((impl_within.f a0_5 1 50).bind fun t207 => (if t207 = true then ((impl_within.f a0_6 0 10000).bind fun t208 => (if t208 = true then ((impl_within.f a0_7 1 100000).bind fun t209 => (if t209 = true then ((impl_within.f a0_8 0 3).bind fun t210 => (some t210)) else (some false))) else (some false))) else (some false))) else (some false))) else (some false))) else (some false))) else (some false))) = some r := by rw [if_pos rfl] at H; exact H
  clear H
  have H := H1
  clear H1
  replace H := jP.mp H
  obtain ⟨t203, A40, H⟩ := H
  replace H : (if t203 = true then ((impl_within.f a0_2 20 300).bind fun t204 => (if t204 = true then ((impl_within.f a0_3 0 10000).bind fun t205 => (if t205 = true then ((impl_within.f a0_4 0 a0_3).bind fun t206 => (if t206 = true then ((impl_within.f a0_5 1 50).bind fun t207 => (if t207 = true then ((impl_within.f a0_6 0 10000).bind fun t208 => (if t208 = true then ((impl_within.f a0_7 1 100000).bind fun t209 => (if t209 = true then ((impl_within.f a0_8 0 3).bind fun t210 => (some t210)) else (some false))) else (some false))) else (some false))) else (some false))) else (some false))) else (some false))) else (some false)) = some r := H
  have A4 := jA A40
  clear A40
  by_cases c5 : t203 = true
  ·subst c5
   have H1 : ((impl_within.f a0_2 20 300).bind fun t204 => (if t204 = true then ((impl_within.f a0_3 0 10000).bind fun t205 => (if t205 = true then ((impl_within.f a0_4 0 a0_3).bind fun t206 => (if t206 = true then ((impl_within.f a0_5 1 50).bind fun t207 => (if t207 = true then ((impl_within.f a0_6 0 10000).bind fun t208 => (if t208 = true then ((impl_within.f a0_7 1 100000).bind fun t209 => (if t209 = true then ((impl_within.f a0_8 0 3).bind fun t210 => (some t210)) else (some false))) else (some false))) else (some false))) else (some false))) else (some false))) else (some false))) = some r := by rw [if_pos rfl] at H; exact H
   clear H
   have H := H1
   clear H1
   replace H := jP.mp H
   obtain ⟨t204, A60, H⟩ := H
   replace H : (if t204 = true then ((impl_within.f a0_3 0 10000).bind fun t205 => (if t205 = true then ((impl_within.f a0_4 0 a0_3).bind fun t206 => (if t206 = true then ((impl_within.f a0_5 1 50).bind fun t207 => (if t207 = true then ((impl_within.f a0_6 0 10000).bind fun t208 => (if t208 = true then ((impl_within.f a0_7 1 100000).bind fun t209 => (if t209 = true then ((impl_within.f a0_8 0 3).bind fun t210 => (some t210)) else (some false))) else (some false))) else (some false))) else (some false))) else (some false))) else (some false)) = some r := H
   have A6 := jA A60
   clear A60
   by_cases c7 : t204 = true
   ·subst c7
    have H1 : ((impl_within.f a0_3 0 10000).bind fun t205 => (if t205 = true then ((impl_within.f a0_4 0 a0_3).bind fun t206 => (if t206 = true then ((impl_within.f a0_5 1 50).bind fun t207 => (if t207 = true then ((impl_within.f a0_6 0 10000).bind fun t208 => (if t208 = true then ((impl_within.f a0_7 1 100000).bind fun t209 => (if t209 = true then ((impl_within.f a0_8 0 3).bind fun t210 => (some t210)) else (some false))) else (some false))) else (some false))) else (some false))) else (some false))) = some r := by rw [if_pos rfl] at H; exact H
    clear H
    have H := H1
    clear H1
    replace H := jP.mp H
    obtain ⟨t205, A80, H⟩ := H
    replace H : (if t205 = true then ((impl_within.f a0_4 0 a0_3).bind fun t206 => (if t206 = true then ((impl_within.f a0_5 1 50).bind fun t207 => (if t207 = true then ((impl_within.f a0_6 0 10000).bind fun t208 => (if t208 = true then ((impl_within.f a0_7 1 100000).bind fun t209 => (if t209 = true then ((impl_within.f a0_8 0 3).bind fun t210 => (some t210)) else (some false))) else (some false))) else (some false))) else (some false))) else (some false)) = some r := H
    have A8 := jA A80
    clear A80
    by_cases c9 : t205 = true
    ·subst c9
     have H1 : ((impl_within.f a0_4 0 a0_3).bind fun t206 => (if t206 = true then ((impl_within.f a0_5 1 50).bind fun t207 => (if t207 = true then ((impl_within.f a0_6 0 10000).bind fun t208 => (if t208 = true then ((impl_within.f a0_7 1 100000).bind fun t209 => (if t209 = true then ((impl_within.f a0_8 0 3).bind fun t210 => (some t210)) else (some false))) else (some false))) else (some false))) else (some false))) = some r := by rw [if_pos rfl] at H; exact H
     clear H
     have H := H1
     clear H1
     replace H := jP.mp H
     obtain ⟨t206, A100, H⟩ := H
     replace H : (if t206 = true then ((impl_within.f a0_5 1 50).bind fun t207 => (if t207 = true then ((impl_within.f a0_6 0 10000).bind fun t208 => (if t208 = true then ((impl_within.f a0_7 1 100000).bind fun t209 => (if t209 = true then ((impl_within.f a0_8 0 3).bind fun t210 => (some t210)) else (some false))) else (some false))) else (some false))) else (some false)) = some r := H
     have A10 := jA A100
     clear A100
     by_cases c11 : t206 = true
     ·subst c11
      have H1 : ((impl_within.f a0_5 1 50).bind fun t207 => (if t207 = true then ((impl_within.f a0_6 0 10000).bind fun t208 => (if t208 = true then ((impl_within.f a0_7 1 100000).bind fun t209 => (if t209 = true then ((impl_within.f a0_8 0 3).bind fun t210 => (some t210)) else (some false))) else (some false))) else (some false))) = some r := by rw [if_pos rfl] at H; exact H
      clear H
      have H := H1
      clear H1
      replace H := jP.mp H
      obtain ⟨t207, A120, H⟩ := H
      replace H : (if t207 = true then ((impl_within.f a0_6 0 10000).bind fun t208 => (if t208 = true then ((impl_within.f a0_7 1 100000).bind fun t209 => (if t209 = true then ((impl_within.f a0_8 0 3).bind fun t210 => (some t210)) else (some false))) else (some false))) else (some false)) = some r := H
      have A12 := jA A120
      clear A120
      by_cases c13 : t207 = true
      ·subst c13
       have H1 : ((impl_within.f a0_6 0 10000).bind fun t208 => (if t208 = true then ((impl_within.f a0_7 1 100000).bind fun t209 => (if t209 = true then ((impl_within.f a0_8 0 3).bind fun t210 => (some t210)) else (some false))) else (some false))) = some r := by rw [if_pos rfl] at H; exact H
       clear H
       have H := H1
       clear H1
       replace H := jP.mp H
       obtain ⟨t208, A140, H⟩ := H
       replace H : (if t208 = true then ((impl_within.f a0_7 1 100000).bind fun t209 => (if t209 = true then ((impl_within.f a0_8 0 3).bind fun t210 => (some t210)) else (some false))) else (some false)) = some r := H
       have A14 := jA A140
       clear A140
       by_cases c15 : t208 = true
       ·subst c15
        have H1 : ((impl_within.f a0_7 1 100000).bind fun t209 => (if t209 = true then ((impl_within.f a0_8 0 3).bind fun t210 => (some t210)) else (some false))) = some r := by rw [if_pos rfl] at H; exact H
        clear H
        have H := H1
        clear H1
        replace H := jP.mp H
        obtain ⟨t209, A160, H⟩ := H
        replace H : (if t209 = true then ((impl_within.f a0_8 0 3).bind fun t210 => (some t210)) else (some false)) = some r := H
        have A16 := jA A160
        clear A160
        by_cases c17 : t209 = true
        ·subst c17
         have H1 : ((impl_within.f a0_8 0 3).bind fun t210 => (some t210)) = some r := by rw [if_pos rfl] at H; exact H
         clear H
         have H := H1
         clear H1
         replace H := jP.mp H
         obtain ⟨t210, A180, H⟩ := H
         replace H : (some t210) = some r := H
         have A18 := jA A180
         clear A180
         obtain rfl := jM H
         go_enter Try.func84, Try.ntmps84
         go_wp2_with (first | ((with_reducible refine jV (N := 1) rfl ?_); refine jU ?hg (N := 1) ?hd (cs := #[.string a0_0, .int .i64 a0_1, .int .i64 a0_2, .int .i64 a0_3, .int .i64 a0_4, .int .i64 a0_5, .int .i64 a0_6, .int .i64 a0_7, .int .i64 a0_8]) (t := 65) ?hr ?_; (case hd => rfl); (case hg => rfl); (case hr => first | (go_simp; done) | (go_simp; rfl)); intro gb201 hg w19 hbox hb; have n0_ := jA (jJ (zb0 HB) hb); have n1_ := jA (hbox); have n2_ := jA ((by rw [hg]; exact (jF (zb0 HB)) : w.heap.size ≤ gb201)); have n3_ := jA ((by rw [hg]; exact (jF (zb0 HB)) : w.heap.size ≤ gb201)); clear HB; have HB := n0_; have BK201 := n1_; have GW201 := n2_; have GE201 := n3_; clear n0_ n1_ n2_ n3_; clear hb hbox hg; have hcz20_0 : w19.cell? ⟨gb201, 0, none⟩ = some (.string a0_0) := (jD BK201.out 0).trans rfl; have hcz20_1 : w19.cell? ⟨gb201, 1, none⟩ = some (.int .i64 a0_1) := (jD BK201.out 1).trans rfl; have hcz20_2 : w19.cell? ⟨gb201, 2, none⟩ = some (.int .i64 a0_2) := (jD BK201.out 2).trans rfl; have hcz20_3 : w19.cell? ⟨gb201, 3, none⟩ = some (.int .i64 a0_3) := (jD BK201.out 3).trans rfl; have hcz20_4 : w19.cell? ⟨gb201, 4, none⟩ = some (.int .i64 a0_4) := (jD BK201.out 4).trans rfl; have hcz20_5 : w19.cell? ⟨gb201, 5, none⟩ = some (.int .i64 a0_5) := (jD BK201.out 5).trans rfl; have hcz20_6 : w19.cell? ⟨gb201, 6, none⟩ = some (.int .i64 a0_6) := (jD BK201.out 6).trans rfl; have hcz20_7 : w19.cell? ⟨gb201, 7, none⟩ = some (.int .i64 a0_7) := (jD BK201.out 7).trans rfl; have hcz20_8 : w19.cell? ⟨gb201, 8, none⟩ = some (.int .i64 a0_8) := (jD BK201.out 8).trans rfl; have hfz20_0 := jC BK201.out 0; have hfz20_1 := jC BK201.out 1; have hfz20_2 := jC BK201.out 2; have hfz20_3 := jC BK201.out 3; have hfz20_4 := jC BK201.out 4; have hfz20_5 := jC BK201.out 5; have hfz20_6 := jC BK201.out 6; have hfz20_7 := jC BK201.out 7; have hfz20_8 := jC BK201.out 8) | ((with_reducible refine jW (f := 90) rfl ?_); refine goesL_ (some 5) rfl rfl Try.func90 zr rfl #[.string a0_0] rfl zm ?_; (with_reducible refine (impl_IsWord.calls k a0_0 true _ A2.out).mono ?_); rintro e w' ⟨rfl, ⟨nd, rfl⟩⟩; refine ⟨_, rfl, ?_⟩) | (go_at_call 61; (with_reducible refine (impl_within.calls a0_1 0 3 true _ A4.out).mono ?_); rintro e w' ⟨rfl, ⟨nd, rfl⟩⟩) | (go_at_call 61; (with_reducible refine (impl_within.calls a0_2 20 300 true _ A6.out).mono ?_); rintro e w' ⟨rfl, ⟨nd, rfl⟩⟩) | (go_at_call 61; (with_reducible refine (impl_within.calls a0_3 0 10000 true _ A8.out).mono ?_); rintro e w' ⟨rfl, ⟨nd, rfl⟩⟩) | (go_at_call 61; (with_reducible refine (impl_within.calls a0_4 0 a0_3 true _ A10.out).mono ?_); rintro e w' ⟨rfl, ⟨nd, rfl⟩⟩) | (go_at_call 61; (with_reducible refine (impl_within.calls a0_5 1 50 true _ A12.out).mono ?_); rintro e w' ⟨rfl, ⟨nd, rfl⟩⟩) | (go_at_call 61; (with_reducible refine (impl_within.calls a0_6 0 10000 true _ A14.out).mono ?_); rintro e w' ⟨rfl, ⟨nd, rfl⟩⟩) | (go_at_call 61; (with_reducible refine (impl_within.calls a0_7 1 100000 true _ A16.out).mono ?_); rintro e w' ⟨rfl, ⟨nd, rfl⟩⟩) | (go_at_call 61; (with_reducible refine (impl_within.calls a0_8 0 3 t210 _ A18.out).mono ?_); rintro e w' ⟨rfl, ⟨nd, rfl⟩⟩))
         go_ret
         exact ⟨by first | rfl | (simp [errW_none, errW_some] <;> rfl) | (simp [*, errW_none, errW_some] <;> rfl), zb1 HB GE201⟩
        ·replace c17 := Bool.eq_false_iff.mpr c17
         subst c17
         have H1 : (some false) = some r := by rw [if_neg (show ¬ (false = true) by decide)] at H; exact H
         clear H
         have H := H1
         clear H1
         obtain rfl := jM H
         go_enter Try.func84, Try.ntmps84
         go_wp2_with (first | ((with_reducible refine jV (N := 1) rfl ?_); refine jU ?hg (N := 1) ?hd (cs := #[.string a0_0, .int .i64 a0_1, .int .i64 a0_2, .int .i64 a0_3, .int .i64 a0_4, .int .i64 a0_5, .int .i64 a0_6, .int .i64 a0_7, .int .i64 a0_8]) (t := 65) ?hr ?_; (case hd => rfl); (case hg => rfl); (case hr => first | (go_simp; done) | (go_simp; rfl)); intro gb201 hg w21 hbox hb; have n0_ := jA (jJ (zb0 HB) hb); have n1_ := jA (hbox); have n2_ := jA ((by rw [hg]; exact (jF (zb0 HB)) : w.heap.size ≤ gb201)); have n3_ := jA ((by rw [hg]; exact (jF (zb0 HB)) : w.heap.size ≤ gb201)); clear HB; have HB := n0_; have BK201 := n1_; have GW201 := n2_; have GE201 := n3_; clear n0_ n1_ n2_ n3_; clear hb hbox hg; have hcz22_0 : w21.cell? ⟨gb201, 0, none⟩ = some (.string a0_0) := (jD BK201.out 0).trans rfl; have hcz22_1 : w21.cell? ⟨gb201, 1, none⟩ = some (.int .i64 a0_1) := (jD BK201.out 1).trans rfl; have hcz22_2 : w21.cell? ⟨gb201, 2, none⟩ = some (.int .i64 a0_2) := (jD BK201.out 2).trans rfl; have hcz22_3 : w21.cell? ⟨gb201, 3, none⟩ = some (.int .i64 a0_3) := (jD BK201.out 3).trans rfl; have hcz22_4 : w21.cell? ⟨gb201, 4, none⟩ = some (.int .i64 a0_4) := (jD BK201.out 4).trans rfl; have hcz22_5 : w21.cell? ⟨gb201, 5, none⟩ = some (.int .i64 a0_5) := (jD BK201.out 5).trans rfl; have hcz22_6 : w21.cell? ⟨gb201, 6, none⟩ = some (.int .i64 a0_6) := (jD BK201.out 6).trans rfl; have hcz22_7 : w21.cell? ⟨gb201, 7, none⟩ = some (.int .i64 a0_7) := (jD BK201.out 7).trans rfl; have hcz22_8 : w21.cell? ⟨gb201, 8, none⟩ = some (.int .i64 a0_8) := (jD BK201.out 8).trans rfl; have hfz22_0 := jC BK201.out 0; have hfz22_1 := jC BK201.out 1; have hfz22_2 := jC BK201.out 2; have hfz22_3 := jC BK201.out 3; have hfz22_4 := jC BK201.out 4; have hfz22_5 := jC BK201.out 5; have hfz22_6 := jC BK201.out 6; have hfz22_7 := jC BK201.out 7; have hfz22_8 := jC BK201.out 8) | ((with_reducible refine jW (f := 90) rfl ?_); refine goesL_ (some 5) rfl rfl Try.func90 zr rfl #[.string a0_0] rfl zm ?_; (with_reducible refine (impl_IsWord.calls k a0_0 true _ A2.out).mono ?_); rintro e w' ⟨rfl, ⟨nd, rfl⟩⟩; refine ⟨_, rfl, ?_⟩) | (go_at_call 61; (with_reducible refine (impl_within.calls a0_1 0 3 true _ A4.out).mono ?_); rintro e w' ⟨rfl, ⟨nd, rfl⟩⟩) | (go_at_call 61; (with_reducible refine (impl_within.calls a0_2 20 300 true _ A6.out).mono ?_); rintro e w' ⟨rfl, ⟨nd, rfl⟩⟩) | (go_at_call 61; (with_reducible refine (impl_within.calls a0_3 0 10000 true _ A8.out).mono ?_); rintro e w' ⟨rfl, ⟨nd, rfl⟩⟩) | (go_at_call 61; (with_reducible refine (impl_within.calls a0_4 0 a0_3 true _ A10.out).mono ?_); rintro e w' ⟨rfl, ⟨nd, rfl⟩⟩) | (go_at_call 61; (with_reducible refine (impl_within.calls a0_5 1 50 true _ A12.out).mono ?_); rintro e w' ⟨rfl, ⟨nd, rfl⟩⟩) | (go_at_call 61; (with_reducible refine (impl_within.calls a0_6 0 10000 true _ A14.out).mono ?_); rintro e w' ⟨rfl, ⟨nd, rfl⟩⟩) | (go_at_call 61; (with_reducible refine (impl_within.calls a0_7 1 100000 false _ A16.out).mono ?_); rintro e w' ⟨rfl, ⟨nd, rfl⟩⟩))
         go_ret
         exact ⟨by first | rfl | (simp [errW_none, errW_some] <;> rfl) | (simp [*, errW_none, errW_some] <;> rfl), zb1 HB GE201⟩
       ·replace c15 := Bool.eq_false_iff.mpr c15
        subst c15
        have H1 : (some false) = some r := by rw [if_neg (show ¬ (false = true) by decide)] at H; exact H
        clear H
        have H := H1
        clear H1
        obtain rfl := jM H
        go_enter Try.func84, Try.ntmps84
        go_wp2_with (first | ((with_reducible refine jV (N := 1) rfl ?_); refine jU ?hg (N := 1) ?hd (cs := #[.string a0_0, .int .i64 a0_1, .int .i64 a0_2, .int .i64 a0_3, .int .i64 a0_4, .int .i64 a0_5, .int .i64 a0_6, .int .i64 a0_7, .int .i64 a0_8]) (t := 65) ?hr ?_; (case hd => rfl); (case hg => rfl); (case hr => first | (go_simp; done) | (go_simp; rfl)); intro gb201 hg w23 hbox hb; have n0_ := jA (jJ (zb0 HB) hb); have n1_ := jA (hbox); have n2_ := jA ((by rw [hg]; exact (jF (zb0 HB)) : w.heap.size ≤ gb201)); have n3_ := jA ((by rw [hg]; exact (jF (zb0 HB)) : w.heap.size ≤ gb201)); clear HB; have HB := n0_; have BK201 := n1_; have GW201 := n2_; have GE201 := n3_; clear n0_ n1_ n2_ n3_; clear hb hbox hg; have hcz24_0 : w23.cell? ⟨gb201, 0, none⟩ = some (.string a0_0) := (jD BK201.out 0).trans rfl; have hcz24_1 : w23.cell? ⟨gb201, 1, none⟩ = some (.int .i64 a0_1) := (jD BK201.out 1).trans rfl; have hcz24_2 : w23.cell? ⟨gb201, 2, none⟩ = some (.int .i64 a0_2) := (jD BK201.out 2).trans rfl; have hcz24_3 : w23.cell? ⟨gb201, 3, none⟩ = some (.int .i64 a0_3) := (jD BK201.out 3).trans rfl; have hcz24_4 : w23.cell? ⟨gb201, 4, none⟩ = some (.int .i64 a0_4) := (jD BK201.out 4).trans rfl; have hcz24_5 : w23.cell? ⟨gb201, 5, none⟩ = some (.int .i64 a0_5) := (jD BK201.out 5).trans rfl; have hcz24_6 : w23.cell? ⟨gb201, 6, none⟩ = some (.int .i64 a0_6) := (jD BK201.out 6).trans rfl; have hcz24_7 : w23.cell? ⟨gb201, 7, none⟩ = some (.int .i64 a0_7) := (jD BK201.out 7).trans rfl; have hcz24_8 : w23.cell? ⟨gb201, 8, none⟩ = some (.int .i64 a0_8) := (jD BK201.out 8).trans rfl; have hfz24_0 := jC BK201.out 0; have hfz24_1 := jC BK201.out 1; have hfz24_2 := jC BK201.out 2; have hfz24_3 := jC BK201.out 3; have hfz24_4 := jC BK201.out 4; have hfz24_5 := jC BK201.out 5; have hfz24_6 := jC BK201.out 6; have hfz24_7 := jC BK201.out 7; have hfz24_8 := jC BK201.out 8) | ((with_reducible refine jW (f := 90) rfl ?_); refine goesL_ (some 5) rfl rfl Try.func90 zr rfl #[.string a0_0] rfl zm ?_; (with_reducible refine (impl_IsWord.calls k a0_0 true _ A2.out).mono ?_); rintro e w' ⟨rfl, ⟨nd, rfl⟩⟩; refine ⟨_, rfl, ?_⟩) | (go_at_call 61; (with_reducible refine (impl_within.calls a0_1 0 3 true _ A4.out).mono ?_); rintro e w' ⟨rfl, ⟨nd, rfl⟩⟩) | (go_at_call 61; (with_reducible refine (impl_within.calls a0_2 20 300 true _ A6.out).mono ?_); rintro e w' ⟨rfl, ⟨nd, rfl⟩⟩) | (go_at_call 61; (with_reducible refine (impl_within.calls a0_3 0 10000 true _ A8.out).mono ?_); rintro e w' ⟨rfl, ⟨nd, rfl⟩⟩) | (go_at_call 61; (with_reducible refine (impl_within.calls a0_4 0 a0_3 true _ A10.out).mono ?_); rintro e w' ⟨rfl, ⟨nd, rfl⟩⟩) | (go_at_call 61; (with_reducible refine (impl_within.calls a0_5 1 50 true _ A12.out).mono ?_); rintro e w' ⟨rfl, ⟨nd, rfl⟩⟩) | (go_at_call 61; (with_reducible refine (impl_within.calls a0_6 0 10000 false _ A14.out).mono ?_); rintro e w' ⟨rfl, ⟨nd, rfl⟩⟩))
        go_ret
        exact ⟨by first | rfl | (simp [errW_none, errW_some] <;> rfl) | (simp [*, errW_none, errW_some] <;> rfl), zb1 HB GE201⟩
      ·replace c13 := Bool.eq_false_iff.mpr c13
       subst c13
       have H1 : (some false) = some r := by rw [if_neg (show ¬ (false = true) by decide)] at H; exact H
       clear H
       have H := H1
       clear H1
       obtain rfl := jM H
       go_enter Try.func84, Try.ntmps84
       go_wp2_with (first | ((with_reducible refine jV (N := 1) rfl ?_); refine jU ?hg (N := 1) ?hd (cs := #[.string a0_0, .int .i64 a0_1, .int .i64 a0_2, .int .i64 a0_3, .int .i64 a0_4, .int .i64 a0_5, .int .i64 a0_6, .int .i64 a0_7, .int .i64 a0_8]) (t := 65) ?hr ?_; (case hd => rfl); (case hg => rfl); (case hr => first | (go_simp; done) | (go_simp; rfl)); intro gb201 hg w25 hbox hb; have n0_ := jA (jJ (zb0 HB) hb); have n1_ := jA (hbox); have n2_ := jA ((by rw [hg]; exact (jF (zb0 HB)) : w.heap.size ≤ gb201)); have n3_ := jA ((by rw [hg]; exact (jF (zb0 HB)) : w.heap.size ≤ gb201)); clear HB; have HB := n0_; have BK201 := n1_; have GW201 := n2_; have GE201 := n3_; clear n0_ n1_ n2_ n3_; clear hb hbox hg; have hcz26_0 : w25.cell? ⟨gb201, 0, none⟩ = some (.string a0_0) := (jD BK201.out 0).trans rfl; have hcz26_1 : w25.cell? ⟨gb201, 1, none⟩ = some (.int .i64 a0_1) := (jD BK201.out 1).trans rfl; have hcz26_2 : w25.cell? ⟨gb201, 2, none⟩ = some (.int .i64 a0_2) := (jD BK201.out 2).trans rfl; have hcz26_3 : w25.cell? ⟨gb201, 3, none⟩ = some (.int .i64 a0_3) := (jD BK201.out 3).trans rfl; have hcz26_4 : w25.cell? ⟨gb201, 4, none⟩ = some (.int .i64 a0_4) := (jD BK201.out 4).trans rfl; have hcz26_5 : w25.cell? ⟨gb201, 5, none⟩ = some (.int .i64 a0_5) := (jD BK201.out 5).trans rfl; have hcz26_6 : w25.cell? ⟨gb201, 6, none⟩ = some (.int .i64 a0_6) := (jD BK201.out 6).trans rfl; have hcz26_7 : w25.cell? ⟨gb201, 7, none⟩ = some (.int .i64 a0_7) := (jD BK201.out 7).trans rfl; have hcz26_8 : w25.cell? ⟨gb201, 8, none⟩ = some (.int .i64 a0_8) := (jD BK201.out 8).trans rfl; have hfz26_0 := jC BK201.out 0; have hfz26_1 := jC BK201.out 1; have hfz26_2 := jC BK201.out 2; have hfz26_3 := jC BK201.out 3; have hfz26_4 := jC BK201.out 4; have hfz26_5 := jC BK201.out 5; have hfz26_6 := jC BK201.out 6; have hfz26_7 := jC BK201.out 7; have hfz26_8 := jC BK201.out 8) | ((with_reducible refine jW (f := 90) rfl ?_); refine goesL_ (some 5) rfl rfl Try.func90 zr rfl #[.string a0_0] rfl zm ?_; (with_reducible refine (impl_IsWord.calls k a0_0 true _ A2.out).mono ?_); rintro e w' ⟨rfl, ⟨nd, rfl⟩⟩; refine ⟨_, rfl, ?_⟩) | (go_at_call 61; (with_reducible refine (impl_within.calls a0_1 0 3 true _ A4.out).mono ?_); rintro e w' ⟨rfl, ⟨nd, rfl⟩⟩) | (go_at_call 61; (with_reducible refine (impl_within.calls a0_2 20 300 true _ A6.out).mono ?_); rintro e w' ⟨rfl, ⟨nd, rfl⟩⟩) | (go_at_call 61; (with_reducible refine (impl_within.calls a0_3 0 10000 true _ A8.out).mono ?_); rintro e w' ⟨rfl, ⟨nd, rfl⟩⟩) | (go_at_call 61; (with_reducible refine (impl_within.calls a0_4 0 a0_3 true _ A10.out).mono ?_); rintro e w' ⟨rfl, ⟨nd, rfl⟩⟩) | (go_at_call 61; (with_reducible refine (impl_within.calls a0_5 1 50 false _ A12.out).mono ?_); rintro e w' ⟨rfl, ⟨nd, rfl⟩⟩))
       go_ret
       exact ⟨by first | rfl | (simp [errW_none, errW_some] <;> rfl) | (simp [*, errW_none, errW_some] <;> rfl), zb1 HB GE201⟩
     ·replace c11 := Bool.eq_false_iff.mpr c11
      subst c11
      have H1 : (some false) = some r := by rw [if_neg (show ¬ (false = true) by decide)] at H; exact H
      clear H
      have H := H1
      clear H1
      obtain rfl := jM H
      go_enter Try.func84, Try.ntmps84
      go_wp2_with (first | ((with_reducible refine jV (N := 1) rfl ?_); refine jU ?hg (N := 1) ?hd (cs := #[.string a0_0, .int .i64 a0_1, .int .i64 a0_2, .int .i64 a0_3, .int .i64 a0_4, .int .i64 a0_5, .int .i64 a0_6, .int .i64 a0_7, .int .i64 a0_8]) (t := 65) ?hr ?_; (case hd => rfl); (case hg => rfl); (case hr => first | (go_simp; done) | (go_simp; rfl)); intro gb201 hg w27 hbox hb; have n0_ := jA (jJ (zb0 HB) hb); have n1_ := jA (hbox); have n2_ := jA ((by rw [hg]; exact (jF (zb0 HB)) : w.heap.size ≤ gb201)); have n3_ := jA ((by rw [hg]; exact (jF (zb0 HB)) : w.heap.size ≤ gb201)); clear HB; have HB := n0_; have BK201 := n1_; have GW201 := n2_; have GE201 := n3_; clear n0_ n1_ n2_ n3_; clear hb hbox hg; have hcz28_0 : w27.cell? ⟨gb201, 0, none⟩ = some (.string a0_0) := (jD BK201.out 0).trans rfl; have hcz28_1 : w27.cell? ⟨gb201, 1, none⟩ = some (.int .i64 a0_1) := (jD BK201.out 1).trans rfl; have hcz28_2 : w27.cell? ⟨gb201, 2, none⟩ = some (.int .i64 a0_2) := (jD BK201.out 2).trans rfl; have hcz28_3 : w27.cell? ⟨gb201, 3, none⟩ = some (.int .i64 a0_3) := (jD BK201.out 3).trans rfl; have hcz28_4 : w27.cell? ⟨gb201, 4, none⟩ = some (.int .i64 a0_4) := (jD BK201.out 4).trans rfl; have hcz28_5 : w27.cell? ⟨gb201, 5, none⟩ = some (.int .i64 a0_5) := (jD BK201.out 5).trans rfl; have hcz28_6 : w27.cell? ⟨gb201, 6, none⟩ = some (.int .i64 a0_6) := (jD BK201.out 6).trans rfl; have hcz28_7 : w27.cell? ⟨gb201, 7, none⟩ = some (.int .i64 a0_7) := (jD BK201.out 7).trans rfl; have hcz28_8 : w27.cell? ⟨gb201, 8, none⟩ = some (.int .i64 a0_8) := (jD BK201.out 8).trans rfl; have hfz28_0 := jC BK201.out 0; have hfz28_1 := jC BK201.out 1; have hfz28_2 := jC BK201.out 2; have hfz28_3 := jC BK201.out 3; have hfz28_4 := jC BK201.out 4; have hfz28_5 := jC BK201.out 5; have hfz28_6 := jC BK201.out 6; have hfz28_7 := jC BK201.out 7; have hfz28_8 := jC BK201.out 8) | ((with_reducible refine jW (f := 90) rfl ?_); refine goesL_ (some 5) rfl rfl Try.func90 zr rfl #[.string a0_0] rfl zm ?_; (with_reducible refine (impl_IsWord.calls k a0_0 true _ A2.out).mono ?_); rintro e w' ⟨rfl, ⟨nd, rfl⟩⟩; refine ⟨_, rfl, ?_⟩) | (go_at_call 61; (with_reducible refine (impl_within.calls a0_1 0 3 true _ A4.out).mono ?_); rintro e w' ⟨rfl, ⟨nd, rfl⟩⟩) | (go_at_call 61; (with_reducible refine (impl_within.calls a0_2 20 300 true _ A6.out).mono ?_); rintro e w' ⟨rfl, ⟨nd, rfl⟩⟩) | (go_at_call 61; (with_reducible refine (impl_within.calls a0_3 0 10000 true _ A8.out).mono ?_); rintro e w' ⟨rfl, ⟨nd, rfl⟩⟩) | (go_at_call 61; (with_reducible refine (impl_within.calls a0_4 0 a0_3 false _ A10.out).mono ?_); rintro e w' ⟨rfl, ⟨nd, rfl⟩⟩))
      go_ret
      exact ⟨by first | rfl | (simp [errW_none, errW_some] <;> rfl) | (simp [*, errW_none, errW_some] <;> rfl), zb1 HB GE201⟩
    ·replace c9 := Bool.eq_false_iff.mpr c9
     subst c9
     have H1 : (some false) = some r := by rw [if_neg (show ¬ (false = true) by decide)] at H; exact H
     clear H
     have H := H1
     clear H1
     obtain rfl := jM H
     go_enter Try.func84, Try.ntmps84
     go_wp2_with (first | ((with_reducible refine jV (N := 1) rfl ?_); refine jU ?hg (N := 1) ?hd (cs := #[.string a0_0, .int .i64 a0_1, .int .i64 a0_2, .int .i64 a0_3, .int .i64 a0_4, .int .i64 a0_5, .int .i64 a0_6, .int .i64 a0_7, .int .i64 a0_8]) (t := 65) ?hr ?_; (case hd => rfl); (case hg => rfl); (case hr => first | (go_simp; done) | (go_simp; rfl)); intro gb201 hg w29 hbox hb; have n0_ := jA (jJ (zb0 HB) hb); have n1_ := jA (hbox); have n2_ := jA ((by rw [hg]; exact (jF (zb0 HB)) : w.heap.size ≤ gb201)); have n3_ := jA ((by rw [hg]; exact (jF (zb0 HB)) : w.heap.size ≤ gb201)); clear HB; have HB := n0_; have BK201 := n1_; have GW201 := n2_; have GE201 := n3_; clear n0_ n1_ n2_ n3_; clear hb hbox hg; have hcz30_0 : w29.cell? ⟨gb201, 0, none⟩ = some (.string a0_0) := (jD BK201.out 0).trans rfl; have hcz30_1 : w29.cell? ⟨gb201, 1, none⟩ = some (.int .i64 a0_1) := (jD BK201.out 1).trans rfl; have hcz30_2 : w29.cell? ⟨gb201, 2, none⟩ = some (.int .i64 a0_2) := (jD BK201.out 2).trans rfl; have hcz30_3 : w29.cell? ⟨gb201, 3, none⟩ = some (.int .i64 a0_3) := (jD BK201.out 3).trans rfl; have hcz30_4 : w29.cell? ⟨gb201, 4, none⟩ = some (.int .i64 a0_4) := (jD BK201.out 4).trans rfl; have hcz30_5 : w29.cell? ⟨gb201, 5, none⟩ = some (.int .i64 a0_5) := (jD BK201.out 5).trans rfl; have hcz30_6 : w29.cell? ⟨gb201, 6, none⟩ = some (.int .i64 a0_6) := (jD BK201.out 6).trans rfl; have hcz30_7 : w29.cell? ⟨gb201, 7, none⟩ = some (.int .i64 a0_7) := (jD BK201.out 7).trans rfl; have hcz30_8 : w29.cell? ⟨gb201, 8, none⟩ = some (.int .i64 a0_8) := (jD BK201.out 8).trans rfl; have hfz30_0 := jC BK201.out 0; have hfz30_1 := jC BK201.out 1; have hfz30_2 := jC BK201.out 2; have hfz30_3 := jC BK201.out 3; have hfz30_4 := jC BK201.out 4; have hfz30_5 := jC BK201.out 5; have hfz30_6 := jC BK201.out 6; have hfz30_7 := jC BK201.out 7; have hfz30_8 := jC BK201.out 8) | ((with_reducible refine jW (f := 90) rfl ?_); refine goesL_ (some 5) rfl rfl Try.func90 zr rfl #[.string a0_0] rfl zm ?_; (with_reducible refine (impl_IsWord.calls k a0_0 true _ A2.out).mono ?_); rintro e w' ⟨rfl, ⟨nd, rfl⟩⟩; refine ⟨_, rfl, ?_⟩) | (go_at_call 61; (with_reducible refine (impl_within.calls a0_1 0 3 true _ A4.out).mono ?_); rintro e w' ⟨rfl, ⟨nd, rfl⟩⟩) | (go_at_call 61; (with_reducible refine (impl_within.calls a0_2 20 300 true _ A6.out).mono ?_); rintro e w' ⟨rfl, ⟨nd, rfl⟩⟩) | (go_at_call 61; (with_reducible refine (impl_within.calls a0_3 0 10000 false _ A8.out).mono ?_); rintro e w' ⟨rfl, ⟨nd, rfl⟩⟩))
     go_ret
     exact ⟨by first | rfl | (simp [errW_none, errW_some] <;> rfl) | (simp [*, errW_none, errW_some] <;> rfl), zb1 HB GE201⟩
   ·replace c7 := Bool.eq_false_iff.mpr c7
    subst c7
    have H1 : (some false) = some r := by rw [if_neg (show ¬ (false = true) by decide)] at H; exact H
    clear H
    have H := H1
    clear H1
    obtain rfl := jM H
    go_enter Try.func84, Try.ntmps84
    go_wp2_with (first | ((with_reducible refine jV (N := 1) rfl ?_); refine jU ?hg (N := 1) ?hd (cs := #[.string a0_0, .int .i64 a0_1, .int .i64 a0_2, .int .i64 a0_3, .int .i64 a0_4, .int .i64 a0_5, .int .i64 a0_6, .int .i64 a0_7, .int .i64 a0_8]) (t := 65) ?hr ?_; (case hd => rfl); (case hg => rfl); (case hr => first | (go_simp; done) | (go_simp; rfl)); intro gb201 hg w31 hbox hb; have n0_ := jA (jJ (zb0 HB) hb); have n1_ := jA (hbox); have n2_ := jA ((by rw [hg]; exact (jF (zb0 HB)) : w.heap.size ≤ gb201)); have n3_ := jA ((by rw [hg]; exact (jF (zb0 HB)) : w.heap.size ≤ gb201)); clear HB; have HB := n0_; have BK201 := n1_; have GW201 := n2_; have GE201 := n3_; clear n0_ n1_ n2_ n3_; clear hb hbox hg; have hcz32_0 : w31.cell? ⟨gb201, 0, none⟩ = some (.string a0_0) := (jD BK201.out 0).trans rfl; have hcz32_1 : w31.cell? ⟨gb201, 1, none⟩ = some (.int .i64 a0_1) := (jD BK201.out 1).trans rfl; have hcz32_2 : w31.cell? ⟨gb201, 2, none⟩ = some (.int .i64 a0_2) := (jD BK201.out 2).trans rfl; have hcz32_3 : w31.cell? ⟨gb201, 3, none⟩ = some (.int .i64 a0_3) := (jD BK201.out 3).trans rfl; have hcz32_4 : w31.cell? ⟨gb201, 4, none⟩ = some (.int .i64 a0_4) := (jD BK201.out 4).trans rfl; have hcz32_5 : w31.cell? ⟨gb201, 5, none⟩ = some (.int .i64 a0_5) := (jD BK201.out 5).trans rfl; have hcz32_6 : w31.cell? ⟨gb201, 6, none⟩ = some (.int .i64 a0_6) := (jD BK201.out 6).trans rfl; have hcz32_7 : w31.cell? ⟨gb201, 7, none⟩ = some (.int .i64 a0_7) := (jD BK201.out 7).trans rfl; have hcz32_8 : w31.cell? ⟨gb201, 8, none⟩ = some (.int .i64 a0_8) := (jD BK201.out 8).trans rfl; have hfz32_0 := jC BK201.out 0; have hfz32_1 := jC BK201.out 1; have hfz32_2 := jC BK201.out 2; have hfz32_3 := jC BK201.out 3; have hfz32_4 := jC BK201.out 4; have hfz32_5 := jC BK201.out 5; have hfz32_6 := jC BK201.out 6; have hfz32_7 := jC BK201.out 7; have hfz32_8 := jC BK201.out 8) | ((with_reducible refine jW (f := 90) rfl ?_); refine goesL_ (some 5) rfl rfl Try.func90 zr rfl #[.string a0_0] rfl zm ?_; (with_reducible refine (impl_IsWord.calls k a0_0 true _ A2.out).mono ?_); rintro e w' ⟨rfl, ⟨nd, rfl⟩⟩; refine ⟨_, rfl, ?_⟩) | (go_at_call 61; (with_reducible refine (impl_within.calls a0_1 0 3 true _ A4.out).mono ?_); rintro e w' ⟨rfl, ⟨nd, rfl⟩⟩) | (go_at_call 61; (with_reducible refine (impl_within.calls a0_2 20 300 false _ A6.out).mono ?_); rintro e w' ⟨rfl, ⟨nd, rfl⟩⟩))
    go_ret
    exact ⟨by first | rfl | (simp [errW_none, errW_some] <;> rfl) | (simp [*, errW_none, errW_some] <;> rfl), zb1 HB GE201⟩
  ·replace c5 := Bool.eq_false_iff.mpr c5
   subst c5
   have H1 : (some false) = some r := by rw [if_neg (show ¬ (false = true) by decide)] at H; exact H
   clear H
   have H := H1
   clear H1
   obtain rfl := jM H
   go_enter Try.func84, Try.ntmps84
   go_wp2_with (first | ((with_reducible refine jV (N := 1) rfl ?_); refine jU ?hg (N := 1) ?hd (cs := #[.string a0_0, .int .i64 a0_1, .int .i64 a0_2, .int .i64 a0_3, .int .i64 a0_4, .int .i64 a0_5, .int .i64 a0_6, .int .i64 a0_7, .int .i64 a0_8]) (t := 65) ?hr ?_; (case hd => rfl); (case hg => rfl); (case hr => first | (go_simp; done) | (go_simp; rfl)); intro gb201 hg w33 hbox hb; have n0_ := jA (jJ (zb0 HB) hb); have n1_ := jA (hbox); have n2_ := jA ((by rw [hg]; exact (jF (zb0 HB)) : w.heap.size ≤ gb201)); have n3_ := jA ((by rw [hg]; exact (jF (zb0 HB)) : w.heap.size ≤ gb201)); clear HB; have HB := n0_; have BK201 := n1_; have GW201 := n2_; have GE201 := n3_; clear n0_ n1_ n2_ n3_; clear hb hbox hg; have hcz34_0 : w33.cell? ⟨gb201, 0, none⟩ = some (.string a0_0) := (jD BK201.out 0).trans rfl; have hcz34_1 : w33.cell? ⟨gb201, 1, none⟩ = some (.int .i64 a0_1) := (jD BK201.out 1).trans rfl; have hcz34_2 : w33.cell? ⟨gb201, 2, none⟩ = some (.int .i64 a0_2) := (jD BK201.out 2).trans rfl; have hcz34_3 : w33.cell? ⟨gb201, 3, none⟩ = some (.int .i64 a0_3) := (jD BK201.out 3).trans rfl; have hcz34_4 : w33.cell? ⟨gb201, 4, none⟩ = some (.int .i64 a0_4) := (jD BK201.out 4).trans rfl; have hcz34_5 : w33.cell? ⟨gb201, 5, none⟩ = some (.int .i64 a0_5) := (jD BK201.out 5).trans rfl; have hcz34_6 : w33.cell? ⟨gb201, 6, none⟩ = some (.int .i64 a0_6) := (jD BK201.out 6).trans rfl; have hcz34_7 : w33.cell? ⟨gb201, 7, none⟩ = some (.int .i64 a0_7) := (jD BK201.out 7).trans rfl; have hcz34_8 : w33.cell? ⟨gb201, 8, none⟩ = some (.int .i64 a0_8) := (jD BK201.out 8).trans rfl; have hfz34_0 := jC BK201.out 0; have hfz34_1 := jC BK201.out 1; have hfz34_2 := jC BK201.out 2; have hfz34_3 := jC BK201.out 3; have hfz34_4 := jC BK201.out 4; have hfz34_5 := jC BK201.out 5; have hfz34_6 := jC BK201.out 6; have hfz34_7 := jC BK201.out 7; have hfz34_8 := jC BK201.out 8) | ((with_reducible refine jW (f := 90) rfl ?_); refine goesL_ (some 5) rfl rfl Try.func90 zr rfl #[.string a0_0] rfl zm ?_; (with_reducible refine (impl_IsWord.calls k a0_0 true _ A2.out).mono ?_); rintro e w' ⟨rfl, ⟨nd, rfl⟩⟩; refine ⟨_, rfl, ?_⟩) | (go_at_call 61; (with_reducible refine (impl_within.calls a0_1 0 3 false _ A4.out).mono ?_); rintro e w' ⟨rfl, ⟨nd, rfl⟩⟩))
   go_ret
   exact ⟨by first | rfl | (simp [errW_none, errW_some] <;> rfl) | (simp [*, errW_none, errW_some] <;> rfl), zb1 HB GE201⟩
 ·replace c3 := Bool.eq_false_iff.mpr c3
  subst c3
  have H1 : (some false) = some r := by rw [if_neg (show ¬ (false = true) by decide)] at H; exact H
  clear H
  have H := H1
  clear H1
  obtain rfl := jM H
  go_enter Try.func84, Try.ntmps84
  go_wp2_with (first | ((with_reducible refine jV (N := 1) rfl ?_); refine jU ?hg (N := 1) ?hd (cs := #[.string a0_0, .int .i64 a0_1, .int .i64 a0_2, .int .i64 a0_3, .int .i64 a0_4, .int .i64 a0_5, .int .i64 a0_6, .int .i64 a0_7, .int .i64 a0_8]) (t := 65) ?hr ?_; (case hd => rfl); (case hg => rfl); (case hr => first | (go_simp; done) | (go_simp; rfl)); intro gb201 hg w35 hbox hb; have n0_ := jA (jJ (zb0 HB) hb); have n1_ := jA (hbox); have n2_ := jA ((by rw [hg]; exact (jF (zb0 HB)) : w.heap.size ≤ gb201)); have n3_ := jA ((by rw [hg]; exact (jF (zb0 HB)) : w.heap.size ≤ gb201)); clear HB; have HB := n0_; have BK201 := n1_; have GW201 := n2_; have GE201 := n3_; clear n0_ n1_ n2_ n3_; clear hb hbox hg; have hcz36_0 : w35.cell? ⟨gb201, 0, none⟩ = some (.string a0_0) := (jD BK201.out 0).trans rfl; have hcz36_1 : w35.cell? ⟨gb201, 1, none⟩ = some (.int .i64 a0_1) := (jD BK201.out 1).trans rfl; have hcz36_2 : w35.cell? ⟨gb201, 2, none⟩ = some (.int .i64 a0_2) := (jD BK201.out 2).trans rfl; have hcz36_3 : w35.cell? ⟨gb201, 3, none⟩ = some (.int .i64 a0_3) := (jD BK201.out 3).trans rfl; have hcz36_4 : w35.cell? ⟨gb201, 4, none⟩ = some (.int .i64 a0_4) := (jD BK201.out 4).trans rfl; have hcz36_5 : w35.cell? ⟨gb201, 5, none⟩ = some (.int .i64 a0_5) := (jD BK201.out 5).trans rfl; have hcz36_6 : w35.cell? ⟨gb201, 6, none⟩ = some (.int .i64 a0_6) := (jD BK201.out 6).trans rfl; have hcz36_7 : w35.cell? ⟨gb201, 7, none⟩ = some (.int .i64 a0_7) := (jD BK201.out 7).trans rfl; have hcz36_8 : w35.cell? ⟨gb201, 8, none⟩ = some (.int .i64 a0_8) := (jD BK201.out 8).trans rfl; have hfz36_0 := jC BK201.out 0; have hfz36_1 := jC BK201.out 1; have hfz36_2 := jC BK201.out 2; have hfz36_3 := jC BK201.out 3; have hfz36_4 := jC BK201.out 4; have hfz36_5 := jC BK201.out 5; have hfz36_6 := jC BK201.out 6; have hfz36_7 := jC BK201.out 7; have hfz36_8 := jC BK201.out 8) | ((with_reducible refine jW (f := 90) rfl ?_); refine goesL_ (some 5) rfl rfl Try.func90 zr rfl #[.string a0_0] rfl zm ?_; (with_reducible refine (impl_IsWord.calls k a0_0 false _ A2.out).mono ?_); rintro e w' ⟨rfl, ⟨nd, rfl⟩⟩; refine ⟨_, rfl, ?_⟩))
  go_ret
  exact ⟨by first | rfl | (simp [errW_none, errW_some] <;> rfl) | (simp [*, errW_none, errW_some] <;> rfl), zb1 HB GE201⟩

end Go.Proofs.Ytdgglhfnlljmeaa.PFnExactStorePieces
