/- Functions and contracts that FnProofs reaches (6 of 22). -/
import Derived.Test.YthieppjmjgijfaaQFnProofsx4
namespace Go.Proofs.Ythieppjmjgijfaa.PFnProofs
open Go.RowKit Go.Proofs.YthieppjmjgijfaaW.PrintWords Go.Proofs.YthieppjmjgijfaaW.PrintLast Go.Proofs.YthieppjmjgijfaaW.PrintMore
attribute [local go_sem] max2_int min2_int max_two min_two max_three min_three max_four min_four   -- for this text's walks alone
set_option linter.unusedVariables false
set_option linter.unusedSimpArgs false

/-! ### spec_l01Has: function 72 -/
def spec_l01Has.l0 : Nat → List Int → Int → Int → Option (Bool)
 | 0, _, _, _ => none
 | k + 1, x0, x1, x5 => if x5 < (x0.length : Int) then (if 0 ≤ x5 then (if (rd x0 x5) = x1 then (some true) else (spec_l01Has.l0 k x0 x1 (wrap64 (x5 + 1)))) else (none)) else (some false)
def spec_l01Has.f (k : Nat) (l0 : List Int) (a1 : Int) : Option (Bool) := spec_l01Has.l0 k l0 a1 0
theorem spec_l01Has.mono_l : ∀ k, (∀ y0 y1 y2, LeO (spec_l01Has.l0 k y0 y1 y2) (spec_l01Has.l0 (k + 1) y0 y1 y2))
 | 0 => fun _ _ _ r h => by simp [spec_l01Has.l0] at h
 | k + 1 => by
  have ih0 := spec_l01Has.mono_l k
  ·intro y0 y1 y2
   unfold spec_l01Has.l0
   repeat' first
   | (with_reducible exact ih0 _ _ _)
   | (with_reducible exact LeO.refl _)
   | (with_reducible exact LeO.none _)
   | (with_reducible refine LeO.ite ?_ ?_)
   | (with_reducible refine LeO.bind ?_ (fun _ => ?_))
   | exact ih0 _ _ _
   | exact LeO.none _
   | refine LeO.ite ?_ ?_
   | refine LeO.bind ?_ (fun _ => ?_)
theorem spec_l01Has.mono : ∀ a0 a1 k, LeO (spec_l01Has.f k a0 a1) (spec_l01Has.f (k + 1) a0 a1) := by
 intro a0 a1 k
 have ih0 := spec_l01Has.mono_l k
 unfold spec_l01Has.f
 repeat' first
   | (with_reducible exact ih0 _ _ _)
   | (with_reducible exact LeO.refl _)
   | (with_reducible exact LeO.none _)
   | (with_reducible refine LeO.ite ?_ ?_)
   | (with_reducible refine LeO.bind ?_ (fun _ => ?_))
   | exact ih0 _ _ _
   | exact LeO.none _
   | refine LeO.ite ?_ ?_
   | refine LeO.bind ?_ (fun _ => ?_)
set_option maxHeartbeats 8000000 in
set_option maxRecDepth 100000 in
theorem spec_l01Has.calls (k : Nat) (A0 : Option Addr) (c0 : Nat) (l0 : List Int) (a1 : Int) (r : Bool) (w : World) (hr0 : Kd.C (Kd.int .i64) w A0 l0.length l0) (hc0 : l0.length ≤ c0) (h : spec_l01Has.f k l0 a1 = some r) :
  Calls Try.prog 72 #[.slice A0 l0.length c0, .int .i64 a1] w fun e w' => e = .returned (.bool r) ∧ Drawn0 w w' := by
 have HR0 := jA hr0
 have HC0 := jA hc0
 clear hr0 hc0
 have H : (spec_l01Has.l0 k l0 a1 0) = some r := h
 clear h
 have H' := jA H
 clear H
 go_enter Try.func72, Try.ntmps72
 go_wp2
 go_loopg [5] k (fun kq v5 w' => ∃ (x5_1 : Int), v5 = .int .i64 x5_1 ∧ Aside0 (spec_l01Has.l0 kq l0 a1 x5_1 = some r) ∧ Aside0 (kq ≤ k) ∧ Drawn0 w w')
 case atStart => exact ⟨(0), zz, H', ⟨Nat.le_refl _⟩, by repeat (first | exact Drawn0.refl _ | apply Drawn0.step)⟩
 case round =>
  clear H'
  try clear p2
  obtain ⟨x5_1, rfl, HA, HK1, ⟨m1, rfl⟩⟩ := hrel
  cases gk with
  | zero => exact absurd HA.out (by simp [spec_l01Has.l0])
  | succ k1 =>
   have H := HA.out
   clear HA
   simp only [spec_l01Has.l0] at H
   by_cases c3 : x5_1 < (l0.length : Int)
   ·rw [if_pos c3] at H
    have c3b0 : decide (x5_1 < (l0.length : Int)) = true := jI c3
    clear c3
    by_cases c4 : 0 ≤ x5_1
    ·rw [if_pos c4] at H
     have c4b0 : decide (0 ≤ x5_1) = true := jI c4
     clear c4
     by_cases c5 : (rd l0 x5_1) = a1
     ·rw [if_pos c5] at H
      have c5b0 : ((rd l0 x5_1) == a1) = true := beq_iff_eq.mpr c5
      have c5b1 : ((rd l0 x5_1) != a1) = false := bne_eq_false_iff_eq.mpr c5
      clear c5
      obtain rfl := jN H
      have p223 : 0 ≤ (x5_1 : Int) := jB za
      have q223 : x5_1 < (l0.length : Int) := jB za
      obtain ⟨ad223, e223, hx223_0⟩ := jR HR0.out x5_1 p223 q223
      cases e223
      replace p223 := eq_true p223
      replace q223 := eq_true q223
      go_wp2
      go_ret
      exact ⟨by first | rfl | (simp; done) | (simp [*]; done), by repeat (first | exact Drawn0.refl _ | apply Drawn0.step)⟩
     ·rw [if_neg c5] at H
      have c5b0 : ((rd l0 x5_1) == a1) = false := beq_eq_false_iff_ne.mpr c5
      have c5b1 : ((rd l0 x5_1) != a1) = true := bne_iff_ne.mpr c5
      have H' := jA H
      clear H
      have p223 : 0 ≤ (x5_1 : Int) := jB za
      have q223 : x5_1 < (l0.length : Int) := jB za
      obtain ⟨ad223, e223, hx223_0⟩ := jR HR0.out x5_1 p223 q223
      cases e223
      replace p223 := eq_true p223
      replace q223 := eq_true q223
      go_wp2
      go_roundg k1
      case measure => have := HK1.out; omega
      case rel => exact ⟨(wrap64 (x5_1 + 1)), zz, H', ⟨by have := HK1.out; omega⟩, by repeat (first | exact Drawn0.refl _ | apply Drawn0.step)⟩
    ·rw [if_neg c4] at H
     exact absurd H (by simp)
   ·rw [if_neg c3] at H
    have c3b0 : decide (x5_1 < (l0.length : Int)) = false := jS c3
    clear c3
    obtain rfl := jN H
    go_wp2
    go_ret
    exact ⟨by first | rfl | (simp; done) | (simp [*]; done), by repeat (first | exact Drawn0.refl _ | apply Drawn0.step)⟩

/-! ### spec_l03Insert: function 88 -/
def spec_l03Insert.tail (x0 : List Int) (x1 : Int) (x5 : Int) : Option (List Int) := if 0 ≤ x5 then (if x5 ≤ (x0.length : Int) then (if x0.length + 1 < 17592186044416 then (some (x0.take x5.toNat ++ [x1] ++ x0.drop x5.toNat)) else (none)) else (none)) else (none)
def spec_l03Insert.l0 : Nat → List Int → Int → Int → Option (List Int)
 | 0, _, _, _ => none
 | k + 1, x0, x1, x5 => if x5 < (x0.length : Int) then (if 0 ≤ x5 then (if (rd x0 x5) < x1 then (spec_l03Insert.l0 k x0 x1 (wrap64 (x5 + 1))) else (if (rd x0 x5) = x1 then (some x0) else (spec_l03Insert.tail x0 x1 x5))) else (none)) else (spec_l03Insert.tail x0 x1 x5)
def spec_l03Insert.f (k : Nat) (l0 : List Int) (a1 : Int) : Option (List Int) := spec_l03Insert.l0 k l0 a1 0
theorem spec_l03Insert.mono_l : ∀ k, (∀ y0 y1 y2, LeO (spec_l03Insert.l0 k y0 y1 y2) (spec_l03Insert.l0 (k + 1) y0 y1 y2))
 | 0 => fun _ _ _ r h => by simp [spec_l03Insert.l0] at h
 | k + 1 => by
  have ih0 := spec_l03Insert.mono_l k
  ·intro y0 y1 y2
   unfold spec_l03Insert.l0
   repeat' first
   | (with_reducible exact ih0 _ _ _)
   | (with_reducible exact LeO.refl _)
   | (with_reducible exact LeO.none _)
   | (with_reducible refine LeO.ite ?_ ?_)
   | (with_reducible refine LeO.bind ?_ (fun _ => ?_))
   | exact ih0 _ _ _
   | exact LeO.none _
   | refine LeO.ite ?_ ?_
   | refine LeO.bind ?_ (fun _ => ?_)
theorem spec_l03Insert.mono : ∀ a0 a1 k, LeO (spec_l03Insert.f k a0 a1) (spec_l03Insert.f (k + 1) a0 a1) := by
 intro a0 a1 k
 have ih0 := spec_l03Insert.mono_l k
 unfold spec_l03Insert.f
 repeat' first
   | (with_reducible exact ih0 _ _ _)
   | (with_reducible exact LeO.refl _)
   | (with_reducible exact LeO.none _)
   | (with_reducible refine LeO.ite ?_ ?_)
   | (with_reducible refine LeO.bind ?_ (fun _ => ?_))
   | exact ih0 _ _ _
   | exact LeO.none _
   | refine LeO.ite ?_ ?_
   | refine LeO.bind ?_ (fun _ => ?_)
set_option maxHeartbeats 8000000 in
set_option maxRecDepth 100000 in
theorem spec_l03Insert.calls (k : Nat) (P0_ : Nat → Prop) (u9000_ : Value) (l0 : List Int) (a1 : Int) (r : List Int) (w0 w : World) (hB : Below w0.heap.size w0 w) (ho0 : Kd.R (Kd.int .i64) 2 w w0.heap.size P0_ u9000_ l0) (h : spec_l03Insert.f k l0 a1 = some r) :
  Calls Try.prog 88 #[u9000_, .int .i64 a1] w fun e w' => ∃ v0_ : Value, e = .returned (v0_) ∧ Kd.R (Kd.int .i64) 2 w' w0.heap.size (fun k_ => (P0_ k_ ∨ w.heap.size ≤ k_)) v0_ r ∧ Below w0.heap.size w0 w' ∧ Kept w w' (fun k_ => P0_ k_) := by
 obtain ⟨Ao, co, eo⟩ := Kd.R_slice ho0
 subst eo
 have HO0 := jA ho0
 clear ho0
 have HK := jA (Kept.refl w (fun _ => False))
 have HB := jA hB
 clear hB
 have H : (spec_l03Insert.l0 k l0 a1 0) = some r := h
 clear h
 have H' := jA H
 clear H
 go_enter Try.func88, Try.ntmps88
 go_wp2
 go_loopg [5] k (fun kq v5 w' => ∃ (x5_1 : Int), v5 = .int .i64 x5_1 ∧ Aside0 (spec_l03Insert.l0 kq l0 a1 x5_1 = some r) ∧ Aside0 (kq ≤ k) ∧ Aside0 (Kept w w' (fun _ => False)) ∧ Aside0 (Below w0.heap.size w0 w'))
 case atStart => exact ⟨(0), zz, H', ⟨Nat.le_refl _⟩, ⟨zr0 HK⟩, ⟨zb0 HB⟩⟩
 case round =>
  clear H'
  try clear p2
  obtain ⟨x5_1, rfl, HA_, HK1, HK, HB⟩ := hrel
  cases gk with
  | zero => exact absurd HA_.out (by simp [spec_l03Insert.l0])
  | succ k1 =>
   have H := HA_.out
   clear HA_
   simp only [spec_l03Insert.l0] at H
   by_cases c3 : x5_1 < (l0.length : Int)
   ·rw [if_pos c3] at H
    have c3b0 : decide (x5_1 < (l0.length : Int)) = true := jI c3
    clear c3
    by_cases c4 : 0 ≤ x5_1
    case neg => rw [if_neg c4] at H; exact absurd H (by simp)
    rw [if_pos c4] at H
    have c4b0 : decide (0 ≤ x5_1) = true := jI c4
    clear c4
    by_cases c5 : (rd l0 x5_1) < a1
    ·rw [if_pos c5] at H
     have c5b0 : decide ((rd l0 x5_1) < a1) = true := jI c5
     clear c5
     have H' := jA H
     clear H
     have HO_0 := jA (show Kd.R (Kd.int .i64) 2 _ w0.heap.size P0_ (.slice Ao l0.length co) l0 from (Kd.R_kept HO0.out (zr0 HK) (fun k_ _ h_ => h_)))
     have p297 : 0 ≤ (x5_1 : Int) := jB za
     have q297 : x5_1 < (l0.length : Int) := jB za
     obtain ⟨ad297, e297, hx297⟩ := jR (jO HO_0.out).2.2 x5_1 p297 q297
     cases e297
     replace p297 := eq_true p297
     replace q297 := eq_true q297
     clear HO_0
     go_wp2
     go_roundg k1
     case measure => have := HK1.out; omega
     case rel => exact ⟨(wrap64 (x5_1 + 1)), zz, H', ⟨by have := HK1.out; omega⟩, ⟨zr0 HK⟩, ⟨zb0 HB⟩⟩
    ·rw [if_neg c5] at H
     have c5b0 : decide ((rd l0 x5_1) < a1) = false := jS c5
     clear c5
     have HO_0 := jA (show Kd.R (Kd.int .i64) 2 _ w0.heap.size P0_ (.slice Ao l0.length co) l0 from (Kd.R_kept HO0.out (zr0 HK) (fun k_ _ h_ => h_)))
     have p297 : 0 ≤ (x5_1 : Int) := jB za
     have q297 : x5_1 < (l0.length : Int) := jB za
     obtain ⟨ad297, e297, hx297⟩ := jR (jO HO_0.out).2.2 x5_1 p297 q297
     obtain ⟨ad298, e298, hx298⟩ := jR (jO HO_0.out).2.2 x5_1 p297 q297
     obtain rfl : ad297 = ad298 := (by rw [e297] at e298; injection e298)
     clear e298
     cases e297
     replace p297 := eq_true p297
     replace q297 := eq_true q297
     clear HO_0
     by_cases c7 : (rd l0 x5_1) = a1
     ·rw [if_pos c7] at H
      have c7b0 : ((rd l0 x5_1) == a1) = true := beq_iff_eq.mpr c7
      have c7b1 : ((rd l0 x5_1) != a1) = false := bne_eq_false_iff_eq.mpr c7
      clear c7
      obtain rfl := jN H
      go_wp2
      go_ret
      exact ⟨_, rfl, Kd.R_mono (Kd.R_kept HO0.out (zr0 HK) (fun k_ _ h_ => h_)) (fun k_ hk => .inl hk), zb0 HB, Kept.mono (show Kept w _ (fun _ => False) from zr0 HK) (fun _ h_ => h_.elim)⟩
     ·rw [if_neg c7] at H
      have c7b0 : ((rd l0 x5_1) == a1) = false := beq_eq_false_iff_ne.mpr c7
      have c7b1 : ((rd l0 x5_1) != a1) = true := bne_iff_ne.mpr c7
      clear c7
      unfold spec_l03Insert.tail at H
      by_cases d0 : 0 ≤ x5_1
      case neg => rw [if_neg d0] at H; exact absurd H (by simp)
      rw [if_pos d0] at H
      by_cases d1 : x5_1 ≤ (l0.length : Int)
      case neg => rw [if_neg d1] at H; exact absurd H (by simp)
      rw [if_pos d1] at H
      by_cases d2 : l0.length + 1 < 17592186044416
      case neg => rw [if_neg d2] at H; exact absurd H (by simp)
      rw [if_pos d2] at H
      have HR := jA (jN H)
      clear H
      have D0 := jA d0
      have D1 := jA d1
      have D2 := jA d2
      clear d0 d1 d2
      go_wp2_with (fail)
      refine start_ (n := 13) (S := fun w' => True) (ds := []) m13_0 zr rfl rfl trivial (fun hHeld => ?_)
      generalize hq_ : World.drew _ = wz at hHeld ⊢
      replace HB : Aside0 (Below w0.heap.size w0 wz) := ⟨by rw [← hq_]; (repeat (first | (with_reducible first | exact HB.out | apply below_alloc | apply pw_below_drewN | apply below_drew1) | exact HB.out))⟩
      replace HK : Aside0 (Kept w wz (fun _ => False)) := ⟨by rw [← hq_]; (repeat (first | (with_reducible first | exact HK.out | apply Kept.alloc | apply Kept.drewN | apply Kept.drew) | exact HK.out))⟩
      clear hq_
      obtain ⟨i0, hi0, _, hsz, _⟩ := info_parts info2
      have hroom : l0.length ≤ co := (jO HO0.out).2.1
      have hT := cut_to (P := Try.prog) 35 2 .i64 Try.underlying35 hi0 (some ad297) l0.length co x5_1 D0.out D1.out hroom
      have hD := cut_from (P := Try.prog) 35 2 .i64 Try.underlying35 hi0 1 hsz (some ad297) l0.length co x5_1 D0.out D1.out
      obtain ⟨AD, hAD⟩ : ∃ A1, A1 = (if co = (x5_1 : Int).toNat then (some ad297) else ((some ad297) : Option Addr).map (·.add ((x5_1 : Int).toNat * 1))) := ⟨_, rfl⟩
      obtain ⟨cD, hcD⟩ : ∃ c1, c1 = co - (x5_1 : Int).toNat := ⟨_, rfl⟩
      rw [← hAD, ← hcD] at hD
      have HAD := jA hAD
      have HROOM := jA hroom
      clear hAD hcD hroom hi0 hsz
      refine pure_ (i := 1) (N := some 34) (v := ?_) (a' := ?_) m13_800 rfl rfl zr (fun _ _ _ h => h) (Or.inl ⟨by rfl, ?_⟩) ?_ ?_
      rotate_left
      ·intro w'
       go_simp
       with_reducible rfl
      rotate_left
      ·simp only [Act.put, jD, jE, jF, i64_w, i32_w]
       rfl
      refine pure_ (i := 2) (N := some 35) (v := ?_) (a' := ?_) m13_c00 rfl rfl zr (fun _ _ _ h => h) (Or.inl ⟨by rfl, ?_⟩) ?_ ?_
      rotate_left
      ·intro w'
       go_simp
       with_reducible rfl
      rotate_left
      ·simp only [Act.put, jD, jE, jF, i64_w, i32_w]
       rfl
      refine pure_ (i := 5) (N := some 38) (v := ?_) (a' := ?_) m13_c80 rfl rfl zr (fun _ _ _ h => h) (Or.inl ⟨by rfl, ?_⟩) ?_ ?_
      rotate_left
      ·intro w'
       go_simp
       with_reducible rfl
      rotate_left
      ·simp only [Act.put, jD, jE, jF, i64_w, i32_w]
       rfl
      refine pure_ (i := 8) (N := some 41) (v := ?_) (a' := ?_) m13_c90 rfl rfl zr (fun _ _ _ h => h) (Or.inl ⟨by rfl, ?_⟩) ?_ ?_
      rotate_left
      ·intro w'
       go_simp
       with_reducible rfl
      rotate_left
      ·simp only [Act.put, jD, jE, jF, i64_w, i32_w]
       rfl
      refine pure_ (i := 9) (N := some 42) (v := ?_) (a' := ?_) m13_c98 rfl rfl zr (fun _ _ _ h => h) (Or.inl ⟨by rfl, ?_⟩) ?_ ?_
      rotate_left
      ·intro w'
       go_simp
       with_reducible rfl
      rotate_left
      ·simp only [Act.put, jD, jE, jF, i64_w, i32_w]
       rfl
      refine pure_ (i := 3) (N := some 36) (v := ?_) (a' := ?_) m13_e98 rfl rfl zr (fun _ _ _ h => h) (Or.inl ⟨by rfl, ?_⟩) ?_ ?_
      rotate_left
      ·intro w'
       go_simp
       with_reducible rfl
      rotate_left
      ·simp only [Act.put, jD, jE, jF, i64_w, i32_w]
       rfl
      refine pure_ (i := 10) (N := some 43) (v := ?_) (a' := ?_) m13_e9c rfl rfl zr (fun _ _ _ h => h) (Or.inl ⟨by rfl, ?_⟩) ?_ ?_
      rotate_left
      ·intro w'
       go_simp
       with_reducible rfl
      rotate_left
      ·simp only [Act.put, jD, jE, jF, i64_w, i32_w]
       rfl
      refine two_ (i := 0) (j := 6) (Ni := some 33) (Nj := some 39) m13_1e9c m13_edc rfl rfl rfl rfl zr (by decide) (by decide) (fun K hK => ?_) (fun K hK => ?_)
      ·refine Kd.R_lit_step (Kd.int .i64) (w0 := _) _ 2 (by rfl) (N := 33) rfl (xs := ([] : List Int)) (inner := []) (ok := fun _ => True) (okp := fun _ => True) ?hr ?hp (fun _ hk => hk) trivial (Below.refl _ _) (Nat.le_refl _) (by simp) ?_
       (case hr => first | (go_simp; done) | (go_simp; rfl))
       (case hp => exact Reps.none _ _)
       intro vA wl1 ho hb hg hat
       have HA := jA (Kd.R_mono (ok' := (fun k_ => w.heap.size ≤ k_)) (jX (Kd.R_bound ho) (jT HB.out)) (fun k_ hk => Nat.le_trans HK.out.1 hk.2.1))
       replace HB := jA (jY HB.out hb)
       replace HK := jA (Kept.below HK.out hb)
       clear ho hb hg hat
       refine hK.out _ _ trivial (fun hHeld => ?_)
       clear hK K
       refine norm_ (a' := ?_) ?_ ?_
       rotate_left
       ·show Act.put _ (some 33) _ = _
        simp only [Act.put, jD, jE, jF, i64_w, i32_w]
        rfl
       refine two_ (i := 4) (j := 6) (Ni := some 37) (Nj := some 39) m13_1f9c m13_1edc rfl rfl rfl rfl zr (by decide) (by decide) (fun K hK => ?_) (fun K hK => ?_)
       ·have hrd := jA (show Kd.C (Kd.int .i64) _ (some ad297) x5_1.toNat (l0.take x5_1.toNat) from by have h_ := Kd.C_take (m := x5_1.toNat) (jO (Kd.R_kept HO0.out (zr0 HK) (fun k_ _ h_ => h_))).2.2 (by have := D1.out; omega); rw [show (l0.take x5_1.toNat).length = x5_1.toNat from by have := D0.out; have := D1.out; rw [List.length_take]; omega] at h_; exact h_)
        refine Kd.R_append_rows_step (Kd.int .i64) (w0 := w0) w0.heap.size (by rfl) (.tmp 33) (.tmp 36) 35 2 (.int .i64 0) 8 rfl Try.underlying35 info2 rfl (by decide) (by omega) vA ([] : List Int) (l0.take x5_1.toNat) _ _ _ (fun k_ => w.heap.size ≤ k_) (fun _ => False) rfl rfl ?aO ?aR (fun _ _ h => h) (fun _ h => h.elim) ?aF ?aB ?aS ?aL ?_
        (case aR => exact hrd.out)
        (case aB => exact HB.out)
        (case aF => exact fun k_ hk => Nat.le_trans HK.out.1 hk)
        (case aO => exact Kd.R_mono HA.out (fun k_ hk => hk))
        (case aS => exact jT HB.out)
        (case aL => have := D0.out; have := D1.out; have := D2.out; (try simp only [List.length_append, List.length_take, List.length_drop, List.length_singleton, List.length_nil]); omega)
        intro vb2 wl2 ho hb hg hat
        replace HB := jA hb
        replace HK := jA (Kept.of_grown (S := fun _ => False) hg HK.out (fun k_ e_ => .inr (HA.out.1 k_ e_)))
        have H4 := jA ho
        clear hrd ho hb hg hat HA
        refine hK.out _ _ trivial (fun hHeld => ?_)
        clear hK K
        refine norm_ (a' := ?_) ?_ ?_
        rotate_left
        ·show Act.put _ (some 37) _ = _
         simp only [Act.put, jD, jE, jF, i64_w, i32_w]
         rfl
        refine one_ (i := 6) (N := some 39) m13_1fdc rfl rfl zr (by decide) (fun K hK => ?_)
        refine Kd.R_lit_step (Kd.int .i64) (w0 := _) _ 2 (by rfl) (N := 39) rfl (xs := ([a1] : List Int)) (inner := [.int .i64 a1]) (ok := fun _ => True) (okp := fun _ => True) ?hr ?hp (fun _ hk => hk) trivial (Below.refl _ _) (Nat.le_refl _) (by simp) ?_
        (case hr => first | (go_simp; done) | (go_simp; rfl))
        (case hp => exact Reps.one (show Kd.M (Kd.int .i64) _ _ _ a1 [.int .i64 a1] from rfl) (Reps.none _ _))
        intro vN wl3 ho hb hg hat
        have HN := jA (Kd.R_mono (ok' := fun k_ => w.heap.size ≤ k_ ∧ some k_ ≠ vb2.ownBlock) (jX (Kd.R_new' (Kd.R_bound ho) (Kd.R_lt H4.out)) (jT HB.out)) (fun k_ hk => ⟨Nat.le_trans HK.out.1 hk.1.2.1, hk.2⟩))
        replace HB := jA (jY HB.out hb)
        replace HK := jA (Kept.below HK.out hb)
        replace H4 := jA (Kd.R_mono (ok' := fun k_ => w.heap.size ≤ k_ ∧ some k_ ≠ vN.ownBlock) (Kd.R_elder' H4.out (Kd.R_base ho) hb) (fun k_ hk => ⟨hk.1, hk.2⟩))
        clear ho hb hg hat
        refine hK.out _ _ trivial (fun hHeld => ?_)
        clear hK K
        refine norm_ (a' := ?_) ?_ ?_
        rotate_left
        ·show Act.put _ (some 39) _ = _
         simp only [Act.put, jD, jE, jF, i64_w, i32_w]
         rfl
        refine one_ (i := 7) (N := some 40) m13_1ffc rfl rfl zr (by decide) (fun K hK => ?_)
        obtain ⟨AN, cN, eN⟩ := Kd.R_slice HN.out
        subst eN
        have hrd := jA (jO HN.out).2.2
        refine Kd.R_append_rows_step (Kd.int .i64) (w0 := w0) w0.heap.size (by rfl) (.tmp 37) (.tmp 39) 35 2 (.int .i64 0) 8 rfl Try.underlying35 info2 rfl (by decide) (by omega) vb2 ([] ++ (l0.take x5_1.toNat)) [a1] _ _ _ (fun k_ => w.heap.size ≤ k_) (fun _ => False) rfl rfl ?aO ?aR (fun _ _ h => h) (fun _ h => h.elim) ?aF ?aB ?aS ?aL ?_
        (case aR => exact hrd.out)
        (case aB => exact HB.out)
        (case aF => exact fun k_ hk => Nat.le_trans HK.out.1 hk)
        (case aO => exact Kd.R_mono H4.out (fun k_ hk => hk.1))
        (case aS => exact jT HB.out)
        (case aL => have := D0.out; have := D1.out; have := D2.out; (try simp only [List.length_append, List.length_take, List.length_drop, List.length_singleton, List.length_nil]); omega)
        intro vb4 wl4 ho hb hg hat
        replace HB := jA hb
        replace HK := jA (Kept.of_grown (S := fun _ => False) hg HK.out (fun k_ e_ => .inr (H4.out.1 k_ e_).1))
        have H7 := jA ho
        clear hrd ho hb hg hat H4
        refine hK.out _ _ trivial (fun hHeld => ?_)
        clear hK K
        refine norm_ (a' := ?_) ?_ ?_
        rotate_left
        ·show Act.put _ (some 40) _ = _
         simp only [Act.put, jD, jE, jF, i64_w, i32_w]
         rfl
        refine one_ (i := 11) (N := some 44) m13_1ffe rfl rfl zr (by decide) (fun K hK => ?_)
        have hrd := jA (show Kd.C (Kd.int .i64) _ AD (l0.length - x5_1.toNat) (l0.drop x5_1.toNat) from by have h_ := Kd.C_drop (m := x5_1.toNat) (c := co) (jO (Kd.R_kept HO0.out (zr0 HK) (fun k_ _ h_ => h_))).2.2 (by have := D1.out; omega) HROOM.out; rw [List.length_drop] at h_; rw [HAD.out]; exact h_)
        refine Kd.R_append_rows_step (Kd.int .i64) (w0 := w0) w0.heap.size (by rfl) (.tmp 40) (.tmp 43) 35 2 (.int .i64 0) 8 rfl Try.underlying35 info2 rfl (by decide) (by omega) vb4 (([] ++ (l0.take x5_1.toNat)) ++ [a1]) (l0.drop x5_1.toNat) _ _ _ (fun k_ => w.heap.size ≤ k_) (fun _ => False) rfl rfl ?aO ?aR (fun _ _ h => h) (fun _ h => h.elim) ?aF ?aB ?aS ?aL ?_
        (case aR => exact hrd.out)
        (case aB => exact HB.out)
        (case aF => exact fun k_ hk => Nat.le_trans HK.out.1 hk)
        (case aO => exact Kd.R_mono H7.out (fun k_ hk => hk))
        (case aS => exact jT HB.out)
        (case aL => have := D0.out; have := D1.out; have := D2.out; (try simp only [List.length_append, List.length_take, List.length_drop, List.length_singleton, List.length_nil]); omega)
        intro vb5 wl5 ho hb hg hat
        replace HB := jA hb
        replace HK := jA (Kept.of_grown (S := fun _ => False) hg HK.out (fun k_ e_ => .inr (H7.out.1 k_ e_)))
        have H11 := jA ho
        clear hrd ho hb hg hat H7
        refine hK.out _ _ trivial (fun hHeld => ?_)
        clear hK K
        refine norm_ (a' := ?_) ?_ ?_
        rotate_left
        ·show Act.put _ (some 44) _ = _
         simp only [Act.put, jD, jE, jF, i64_w, i32_w]
         rfl
        refine pure_ (i := 12) (N := some 4) (v := ?_) (a' := ?_) m13_1fff rfl rfl zr (fun _ _ _ h => h) (Or.inl ⟨by rfl, ?_⟩) ?_ ?_
        rotate_left
        ·intro w'
         go_simp
         with_reducible rfl
        rotate_left
        ·simp only [Act.put, jD, jE, jF, i64_w, i32_w]
         rfl
        refine done_ zr ?_
        go_wp2
        go_ret
        exact ⟨_, rfl, Kd.R_mono (ok' := fun k_ => (P0_ k_ ∨ w.heap.size ≤ k_)) (show Kd.R (Kd.int .i64) 2 _ w0.heap.size _ _ r from by rw [← HR.out]; have h_ := H11.out; rw [List.nil_append] at h_; exact h_) (fun k_ hk => .inr hk), HB.out, HK.out.mono (fun _ h_ => h_.elim)⟩
       ·refine Kd.R_lit_step (Kd.int .i64) (w0 := _) _ 2 (by rfl) (N := 39) rfl (xs := ([a1] : List Int)) (inner := [.int .i64 a1]) (ok := fun _ => True) (okp := fun _ => True) ?hr ?hp (fun _ hk => hk) trivial (Below.refl _ _) (Nat.le_refl _) (by simp) ?_
        (case hr => first | (go_simp; done) | (go_simp; rfl))
        (case hp => exact Reps.one (show Kd.M (Kd.int .i64) _ _ _ a1 [.int .i64 a1] from rfl) (Reps.none _ _))
        intro vN wl6 ho hb hg hat
        have HN := jA (Kd.R_mono (ok' := fun k_ => w.heap.size ≤ k_ ∧ some k_ ≠ vA.ownBlock) (jX (Kd.R_new' (Kd.R_bound ho) (Kd.R_lt HA.out)) (jT HB.out)) (fun k_ hk => ⟨Nat.le_trans HK.out.1 hk.1.2.1, hk.2⟩))
        replace HB := jA (jY HB.out hb)
        replace HK := jA (Kept.below HK.out hb)
        replace HA := jA (Kd.R_mono (ok' := fun k_ => w.heap.size ≤ k_ ∧ some k_ ≠ vN.ownBlock) (Kd.R_elder' HA.out (Kd.R_base ho) hb) (fun k_ hk => ⟨hk.1, hk.2⟩))
        clear ho hb hg hat
        refine hK.out _ _ trivial (fun hHeld => ?_)
        clear hK K
        refine norm_ (a' := ?_) ?_ ?_
        rotate_left
        ·show Act.put _ (some 39) _ = _
         simp only [Act.put, jD, jE, jF, i64_w, i32_w]
         rfl
        refine one_ (i := 4) (N := some 37) m13_1fdc rfl rfl zr (by decide) (fun K hK => ?_)
        have hrd := jA (show Kd.C (Kd.int .i64) _ (some ad297) x5_1.toNat (l0.take x5_1.toNat) from by have h_ := Kd.C_take (m := x5_1.toNat) (jO (Kd.R_kept HO0.out (zr0 HK) (fun k_ _ h_ => h_))).2.2 (by have := D1.out; omega); rw [show (l0.take x5_1.toNat).length = x5_1.toNat from by have := D0.out; have := D1.out; rw [List.length_take]; omega] at h_; exact h_)
        refine Kd.R_append_rows_step (Kd.int .i64) (w0 := w0) w0.heap.size (by rfl) (.tmp 33) (.tmp 36) 35 2 (.int .i64 0) 8 rfl Try.underlying35 info2 rfl (by decide) (by omega) vA ([] : List Int) (l0.take x5_1.toNat) _ _ _ (fun k_ => w.heap.size ≤ k_) (fun _ => False) rfl rfl ?aO ?aR (fun _ _ h => h) (fun _ h => h.elim) ?aF ?aB ?aS ?aL ?_
        (case aR => exact hrd.out)
        (case aB => exact HB.out)
        (case aF => exact fun k_ hk => Nat.le_trans HK.out.1 hk)
        (case aO => exact Kd.R_mono HA.out (fun k_ hk => hk.1))
        (case aS => exact jT HB.out)
        (case aL => have := D0.out; have := D1.out; have := D2.out; (try simp only [List.length_append, List.length_take, List.length_drop, List.length_singleton, List.length_nil]); omega)
        intro vb7 wl7 ho hb hg hat
        replace HB := jA hb
        replace HK := jA (Kept.of_grown (S := fun _ => False) hg HK.out (fun k_ e_ => .inr (HA.out.1 k_ e_).1))
        have H4 := jA ho
        replace HN := jA (Kd.R_grown HN.out hg (fun k_ hk => hk.2))
        clear hrd ho hb hg hat HA
        refine hK.out _ _ trivial (fun hHeld => ?_)
        clear hK K
        refine norm_ (a' := ?_) ?_ ?_
        rotate_left
        ·show Act.put _ (some 37) _ = _
         simp only [Act.put, jD, jE, jF, i64_w, i32_w]
         rfl
        refine one_ (i := 7) (N := some 40) m13_1ffc rfl rfl zr (by decide) (fun K hK => ?_)
        obtain ⟨AN, cN, eN⟩ := Kd.R_slice HN.out
        subst eN
        have hrd := jA (jO HN.out).2.2
        refine Kd.R_append_rows_step (Kd.int .i64) (w0 := w0) w0.heap.size (by rfl) (.tmp 37) (.tmp 39) 35 2 (.int .i64 0) 8 rfl Try.underlying35 info2 rfl (by decide) (by omega) vb7 ([] ++ (l0.take x5_1.toNat)) [a1] _ _ _ (fun k_ => w.heap.size ≤ k_) (fun _ => False) rfl rfl ?aO ?aR (fun _ _ h => h) (fun _ h => h.elim) ?aF ?aB ?aS ?aL ?_
        (case aR => exact hrd.out)
        (case aB => exact HB.out)
        (case aF => exact fun k_ hk => Nat.le_trans HK.out.1 hk)
        (case aO => exact Kd.R_mono H4.out (fun k_ hk => hk))
        (case aS => exact jT HB.out)
        (case aL => have := D0.out; have := D1.out; have := D2.out; (try simp only [List.length_append, List.length_take, List.length_drop, List.length_singleton, List.length_nil]); omega)
        intro vb8 wl8 ho hb hg hat
        replace HB := jA hb
        replace HK := jA (Kept.of_grown (S := fun _ => False) hg HK.out (fun k_ e_ => .inr (H4.out.1 k_ e_)))
        have H7 := jA ho
        clear hrd ho hb hg hat H4
        refine hK.out _ _ trivial (fun hHeld => ?_)
        clear hK K
        refine norm_ (a' := ?_) ?_ ?_
        rotate_left
        ·show Act.put _ (some 40) _ = _
         simp only [Act.put, jD, jE, jF, i64_w, i32_w]
         rfl
        refine one_ (i := 11) (N := some 44) m13_1ffe rfl rfl zr (by decide) (fun K hK => ?_)
        have hrd := jA (show Kd.C (Kd.int .i64) _ AD (l0.length - x5_1.toNat) (l0.drop x5_1.toNat) from by have h_ := Kd.C_drop (m := x5_1.toNat) (c := co) (jO (Kd.R_kept HO0.out (zr0 HK) (fun k_ _ h_ => h_))).2.2 (by have := D1.out; omega) HROOM.out; rw [List.length_drop] at h_; rw [HAD.out]; exact h_)
        refine Kd.R_append_rows_step (Kd.int .i64) (w0 := w0) w0.heap.size (by rfl) (.tmp 40) (.tmp 43) 35 2 (.int .i64 0) 8 rfl Try.underlying35 info2 rfl (by decide) (by omega) vb8 (([] ++ (l0.take x5_1.toNat)) ++ [a1]) (l0.drop x5_1.toNat) _ _ _ (fun k_ => w.heap.size ≤ k_) (fun _ => False) rfl rfl ?aO ?aR (fun _ _ h => h) (fun _ h => h.elim) ?aF ?aB ?aS ?aL ?_
        (case aR => exact hrd.out)
        (case aB => exact HB.out)
        (case aF => exact fun k_ hk => Nat.le_trans HK.out.1 hk)
        (case aO => exact Kd.R_mono H7.out (fun k_ hk => hk))
        (case aS => exact jT HB.out)
        (case aL => have := D0.out; have := D1.out; have := D2.out; (try simp only [List.length_append, List.length_take, List.length_drop, List.length_singleton, List.length_nil]); omega)
        intro vb9 wl9 ho hb hg hat
        replace HB := jA hb
        replace HK := jA (Kept.of_grown (S := fun _ => False) hg HK.out (fun k_ e_ => .inr (H7.out.1 k_ e_)))
        have H11 := jA ho
        clear hrd ho hb hg hat H7
        refine hK.out _ _ trivial (fun hHeld => ?_)
        clear hK K
        refine norm_ (a' := ?_) ?_ ?_
        rotate_left
        ·show Act.put _ (some 44) _ = _
         simp only [Act.put, jD, jE, jF, i64_w, i32_w]
         rfl
        refine pure_ (i := 12) (N := some 4) (v := ?_) (a' := ?_) m13_1fff rfl rfl zr (fun _ _ _ h => h) (Or.inl ⟨by rfl, ?_⟩) ?_ ?_
        rotate_left
        ·intro w'
         go_simp
         with_reducible rfl
        rotate_left
        ·simp only [Act.put, jD, jE, jF, i64_w, i32_w]
         rfl
        refine done_ zr ?_
        go_wp2
        go_ret
        exact ⟨_, rfl, Kd.R_mono (ok' := fun k_ => (P0_ k_ ∨ w.heap.size ≤ k_)) (show Kd.R (Kd.int .i64) 2 _ w0.heap.size _ _ r from by rw [← HR.out]; have h_ := H11.out; rw [List.nil_append] at h_; exact h_) (fun k_ hk => .inr hk), HB.out, HK.out.mono (fun _ h_ => h_.elim)⟩
      ·refine Kd.R_lit_step (Kd.int .i64) (w0 := _) _ 2 (by rfl) (N := 39) rfl (xs := ([a1] : List Int)) (inner := [.int .i64 a1]) (ok := fun _ => True) (okp := fun _ => True) ?hr ?hp (fun _ hk => hk) trivial (Below.refl _ _) (Nat.le_refl _) (by simp) ?_
       (case hr => first | (go_simp; done) | (go_simp; rfl))
       (case hp => exact Reps.one (show Kd.M (Kd.int .i64) _ _ _ a1 [.int .i64 a1] from rfl) (Reps.none _ _))
       intro vN wl10 ho hb hg hat
       have HN := jA (Kd.R_mono (ok' := (fun k_ => w.heap.size ≤ k_)) (jX (Kd.R_bound ho) (jT HB.out)) (fun k_ hk => Nat.le_trans HK.out.1 hk.2.1))
       replace HB := jA (jY HB.out hb)
       replace HK := jA (Kept.below HK.out hb)
       clear ho hb hg hat
       refine hK.out _ _ trivial (fun hHeld => ?_)
       clear hK K
       refine norm_ (a' := ?_) ?_ ?_
       rotate_left
       ·show Act.put _ (some 39) _ = _
        simp only [Act.put, jD, jE, jF, i64_w, i32_w]
        rfl
       refine one_ (i := 0) (N := some 33) m13_1edc rfl rfl zr (by decide) (fun K hK => ?_)
       refine Kd.R_lit_step (Kd.int .i64) (w0 := _) _ 2 (by rfl) (N := 33) rfl (xs := ([] : List Int)) (inner := []) (ok := fun _ => True) (okp := fun _ => True) ?hr ?hp (fun _ hk => hk) trivial (Below.refl _ _) (Nat.le_refl _) (by simp) ?_
       (case hr => first | (go_simp; done) | (go_simp; rfl))
       (case hp => exact Reps.none _ _)
       intro vA wl11 ho hb hg hat
       have HA := jA (Kd.R_mono (ok' := fun k_ => w.heap.size ≤ k_ ∧ some k_ ≠ vN.ownBlock) (jX (Kd.R_new' (Kd.R_bound ho) (Kd.R_lt HN.out)) (jT HB.out)) (fun k_ hk => ⟨Nat.le_trans HK.out.1 hk.1.2.1, hk.2⟩))
       replace HB := jA (jY HB.out hb)
       replace HK := jA (Kept.below HK.out hb)
       replace HN := jA (Kd.R_mono (ok' := fun k_ => w.heap.size ≤ k_ ∧ some k_ ≠ vA.ownBlock) (Kd.R_elder' HN.out (Kd.R_base ho) hb) (fun k_ hk => ⟨hk.1, hk.2⟩))
       clear ho hb hg hat
       refine hK.out _ _ trivial (fun hHeld => ?_)
       clear hK K
       refine norm_ (a' := ?_) ?_ ?_
       rotate_left
       ·show Act.put _ (some 33) _ = _
        simp only [Act.put, jD, jE, jF, i64_w, i32_w]
        rfl
       refine one_ (i := 4) (N := some 37) m13_1fdc rfl rfl zr (by decide) (fun K hK => ?_)
       have hrd := jA (show Kd.C (Kd.int .i64) _ (some ad297) x5_1.toNat (l0.take x5_1.toNat) from by have h_ := Kd.C_take (m := x5_1.toNat) (jO (Kd.R_kept HO0.out (zr0 HK) (fun k_ _ h_ => h_))).2.2 (by have := D1.out; omega); rw [show (l0.take x5_1.toNat).length = x5_1.toNat from by have := D0.out; have := D1.out; rw [List.length_take]; omega] at h_; exact h_)
       refine Kd.R_append_rows_step (Kd.int .i64) (w0 := w0) w0.heap.size (by rfl) (.tmp 33) (.tmp 36) 35 2 (.int .i64 0) 8 rfl Try.underlying35 info2 rfl (by decide) (by omega) vA ([] : List Int) (l0.take x5_1.toNat) _ _ _ (fun k_ => w.heap.size ≤ k_) (fun _ => False) rfl rfl ?aO ?aR (fun _ _ h => h) (fun _ h => h.elim) ?aF ?aB ?aS ?aL ?_
       (case aR => exact hrd.out)
       (case aB => exact HB.out)
       (case aF => exact fun k_ hk => Nat.le_trans HK.out.1 hk)
       (case aO => exact Kd.R_mono HA.out (fun k_ hk => hk.1))
       (case aS => exact jT HB.out)
       (case aL => have := D0.out; have := D1.out; have := D2.out; (try simp only [List.length_append, List.length_take, List.length_drop, List.length_singleton, List.length_nil]); omega)
       intro vb12 wl12 ho hb hg hat
       replace HB := jA hb
       replace HK := jA (Kept.of_grown (S := fun _ => False) hg HK.out (fun k_ e_ => .inr (HA.out.1 k_ e_).1))
       have H4 := jA ho
       replace HN := jA (Kd.R_grown HN.out hg (fun k_ hk => hk.2))
       clear hrd ho hb hg hat HA
       refine hK.out _ _ trivial (fun hHeld => ?_)
       clear hK K
       refine norm_ (a' := ?_) ?_ ?_
       rotate_left
       ·show Act.put _ (some 37) _ = _
        simp only [Act.put, jD, jE, jF, i64_w, i32_w]
        rfl
       refine one_ (i := 7) (N := some 40) m13_1ffc rfl rfl zr (by decide) (fun K hK => ?_)
       obtain ⟨AN, cN, eN⟩ := Kd.R_slice HN.out
       subst eN
       have hrd := jA (jO HN.out).2.2
       refine Kd.R_append_rows_step (Kd.int .i64) (w0 := w0) w0.heap.size (by rfl) (.tmp 37) (.tmp 39) 35 2 (.int .i64 0) 8 rfl Try.underlying35 info2 rfl (by decide) (by omega) vb12 ([] ++ (l0.take x5_1.toNat)) [a1] _ _ _ (fun k_ => w.heap.size ≤ k_) (fun _ => False) rfl rfl ?aO ?aR (fun _ _ h => h) (fun _ h => h.elim) ?aF ?aB ?aS ?aL ?_
       (case aR => exact hrd.out)
       (case aB => exact HB.out)
       (case aF => exact fun k_ hk => Nat.le_trans HK.out.1 hk)
       (case aO => exact Kd.R_mono H4.out (fun k_ hk => hk))
       (case aS => exact jT HB.out)
       (case aL => have := D0.out; have := D1.out; have := D2.out; (try simp only [List.length_append, List.length_take, List.length_drop, List.length_singleton, List.length_nil]); omega)
       intro vb13 wl13 ho hb hg hat
       replace HB := jA hb
       replace HK := jA (Kept.of_grown (S := fun _ => False) hg HK.out (fun k_ e_ => .inr (H4.out.1 k_ e_)))
       have H7 := jA ho
       clear hrd ho hb hg hat H4
       refine hK.out _ _ trivial (fun hHeld => ?_)
       clear hK K
       refine norm_ (a' := ?_) ?_ ?_
       rotate_left
       ·show Act.put _ (some 40) _ = _
        simp only [Act.put, jD, jE, jF, i64_w, i32_w]
        rfl
       refine one_ (i := 11) (N := some 44) m13_1ffe rfl rfl zr (by decide) (fun K hK => ?_)
       have hrd := jA (show Kd.C (Kd.int .i64) _ AD (l0.length - x5_1.toNat) (l0.drop x5_1.toNat) from by have h_ := Kd.C_drop (m := x5_1.toNat) (c := co) (jO (Kd.R_kept HO0.out (zr0 HK) (fun k_ _ h_ => h_))).2.2 (by have := D1.out; omega) HROOM.out; rw [List.length_drop] at h_; rw [HAD.out]; exact h_)
       refine Kd.R_append_rows_step (Kd.int .i64) (w0 := w0) w0.heap.size (by rfl) (.tmp 40) (.tmp 43) 35 2 (.int .i64 0) 8 rfl Try.underlying35 info2 rfl (by decide) (by omega) vb13 (([] ++ (l0.take x5_1.toNat)) ++ [a1]) (l0.drop x5_1.toNat) _ _ _ (fun k_ => w.heap.size ≤ k_) (fun _ => False) rfl rfl ?aO ?aR (fun _ _ h => h) (fun _ h => h.elim) ?aF ?aB ?aS ?aL ?_
       (case aR => exact hrd.out)
       (case aB => exact HB.out)
       (case aF => exact fun k_ hk => Nat.le_trans HK.out.1 hk)
       (case aO => exact Kd.R_mono H7.out (fun k_ hk => hk))
       (case aS => exact jT HB.out)
       (case aL => have := D0.out; have := D1.out; have := D2.out; (try simp only [List.length_append, List.length_take, List.length_drop, List.length_singleton, List.length_nil]); omega)
       intro vb14 wl14 ho hb hg hat
       replace HB := jA hb
       replace HK := jA (Kept.of_grown (S := fun _ => False) hg HK.out (fun k_ e_ => .inr (H7.out.1 k_ e_)))
       have H11 := jA ho
       clear hrd ho hb hg hat H7
       refine hK.out _ _ trivial (fun hHeld => ?_)
       clear hK K
       refine norm_ (a' := ?_) ?_ ?_
       rotate_left
       ·show Act.put _ (some 44) _ = _
        simp only [Act.put, jD, jE, jF, i64_w, i32_w]
        rfl
       refine pure_ (i := 12) (N := some 4) (v := ?_) (a' := ?_) m13_1fff rfl rfl zr (fun _ _ _ h => h) (Or.inl ⟨by rfl, ?_⟩) ?_ ?_
       rotate_left
       ·intro w'
        go_simp
        with_reducible rfl
       rotate_left
       ·simp only [Act.put, jD, jE, jF, i64_w, i32_w]
        rfl
       refine done_ zr ?_
       go_wp2
       go_ret
       exact ⟨_, rfl, Kd.R_mono (ok' := fun k_ => (P0_ k_ ∨ w.heap.size ≤ k_)) (show Kd.R (Kd.int .i64) 2 _ w0.heap.size _ _ r from by rw [← HR.out]; have h_ := H11.out; rw [List.nil_append] at h_; exact h_) (fun k_ hk => .inr hk), HB.out, HK.out.mono (fun _ h_ => h_.elim)⟩
   ·rw [if_neg c3] at H
    have c3b0 : decide (x5_1 < (l0.length : Int)) = false := jS c3
    clear c3
    unfold spec_l03Insert.tail at H
    by_cases d0 : 0 ≤ x5_1
    case neg => rw [if_neg d0] at H; exact absurd H (by simp)
    rw [if_pos d0] at H
    by_cases d1 : x5_1 ≤ (l0.length : Int)
    case neg => rw [if_neg d1] at H; exact absurd H (by simp)
    rw [if_pos d1] at H
    by_cases d2 : l0.length + 1 < 17592186044416
    case neg => rw [if_neg d2] at H; exact absurd H (by simp)
    rw [if_pos d2] at H
    have HR := jA (jN H)
    clear H
    have D0 := jA d0
    have D1 := jA d1
    have D2 := jA d2
    clear d0 d1 d2
    go_wp2_with (fail)
    refine start_ (n := 13) (S := fun w' => True) (ds := []) m13_0 zr rfl rfl trivial (fun hHeld => ?_)
    generalize hq_ : World.drew _ = wz at hHeld ⊢
    replace HB : Aside0 (Below w0.heap.size w0 wz) := ⟨by rw [← hq_]; (repeat (first | (with_reducible first | exact HB.out | apply below_alloc | apply pw_below_drewN | apply below_drew1) | exact HB.out))⟩
    replace HK : Aside0 (Kept w wz (fun _ => False)) := ⟨by rw [← hq_]; (repeat (first | (with_reducible first | exact HK.out | apply Kept.alloc | apply Kept.drewN | apply Kept.drew) | exact HK.out))⟩
    clear hq_
    obtain ⟨i0, hi0, _, hsz, _⟩ := info_parts info2
    have hroom : l0.length ≤ co := (jO HO0.out).2.1
    have hT := cut_to (P := Try.prog) 35 2 .i64 Try.underlying35 hi0 Ao l0.length co x5_1 D0.out D1.out hroom
    have hD := cut_from (P := Try.prog) 35 2 .i64 Try.underlying35 hi0 1 hsz Ao l0.length co x5_1 D0.out D1.out
    obtain ⟨AD, hAD⟩ : ∃ A1, A1 = (if co = (x5_1 : Int).toNat then Ao else (Ao : Option Addr).map (·.add ((x5_1 : Int).toNat * 1))) := ⟨_, rfl⟩
    obtain ⟨cD, hcD⟩ : ∃ c1, c1 = co - (x5_1 : Int).toNat := ⟨_, rfl⟩
    rw [← hAD, ← hcD] at hD
    have HAD := jA hAD
    have HROOM := jA hroom
    clear hAD hcD hroom hi0 hsz
    refine pure_ (i := 1) (N := some 34) (v := ?_) (a' := ?_) m13_800 rfl rfl zr (fun _ _ _ h => h) (Or.inl ⟨by rfl, ?_⟩) ?_ ?_
    rotate_left
    ·intro w'
     go_simp
     with_reducible rfl
    rotate_left
    ·simp only [Act.put, jD, jE, jF, i64_w, i32_w]
     rfl
    refine pure_ (i := 2) (N := some 35) (v := ?_) (a' := ?_) m13_c00 rfl rfl zr (fun _ _ _ h => h) (Or.inl ⟨by rfl, ?_⟩) ?_ ?_
    rotate_left
    ·intro w'
     go_simp
     with_reducible rfl
    rotate_left
    ·simp only [Act.put, jD, jE, jF, i64_w, i32_w]
     rfl
    refine pure_ (i := 5) (N := some 38) (v := ?_) (a' := ?_) m13_c80 rfl rfl zr (fun _ _ _ h => h) (Or.inl ⟨by rfl, ?_⟩) ?_ ?_
    rotate_left
    ·intro w'
     go_simp
     with_reducible rfl
    rotate_left
    ·simp only [Act.put, jD, jE, jF, i64_w, i32_w]
     rfl
    refine pure_ (i := 8) (N := some 41) (v := ?_) (a' := ?_) m13_c90 rfl rfl zr (fun _ _ _ h => h) (Or.inl ⟨by rfl, ?_⟩) ?_ ?_
    rotate_left
    ·intro w'
     go_simp
     with_reducible rfl
    rotate_left
    ·simp only [Act.put, jD, jE, jF, i64_w, i32_w]
     rfl
    refine pure_ (i := 9) (N := some 42) (v := ?_) (a' := ?_) m13_c98 rfl rfl zr (fun _ _ _ h => h) (Or.inl ⟨by rfl, ?_⟩) ?_ ?_
    rotate_left
    ·intro w'
     go_simp
     with_reducible rfl
    rotate_left
    ·simp only [Act.put, jD, jE, jF, i64_w, i32_w]
     rfl
    refine pure_ (i := 3) (N := some 36) (v := ?_) (a' := ?_) m13_e98 rfl rfl zr (fun _ _ _ h => h) (Or.inl ⟨by rfl, ?_⟩) ?_ ?_
    rotate_left
    ·intro w'
     go_simp
     with_reducible rfl
    rotate_left
    ·simp only [Act.put, jD, jE, jF, i64_w, i32_w]
     rfl
    refine pure_ (i := 10) (N := some 43) (v := ?_) (a' := ?_) m13_e9c rfl rfl zr (fun _ _ _ h => h) (Or.inl ⟨by rfl, ?_⟩) ?_ ?_
    rotate_left
    ·intro w'
     go_simp
     with_reducible rfl
    rotate_left
    ·simp only [Act.put, jD, jE, jF, i64_w, i32_w]
     rfl
    refine two_ (i := 0) (j := 6) (Ni := some 33) (Nj := some 39) m13_1e9c m13_edc rfl rfl rfl rfl zr (by decide) (by decide) (fun K hK => ?_) (fun K hK => ?_)
    ·refine Kd.R_lit_step (Kd.int .i64) (w0 := _) _ 2 (by rfl) (N := 33) rfl (xs := ([] : List Int)) (inner := []) (ok := fun _ => True) (okp := fun _ => True) ?hr ?hp (fun _ hk => hk) trivial (Below.refl _ _) (Nat.le_refl _) (by simp) ?_
     (case hr => first | (go_simp; done) | (go_simp; rfl))
     (case hp => exact Reps.none _ _)
     intro vA wl1 ho hb hg hat
     have HA := jA (Kd.R_mono (ok' := (fun k_ => w.heap.size ≤ k_)) (jX (Kd.R_bound ho) (jT HB.out)) (fun k_ hk => Nat.le_trans HK.out.1 hk.2.1))
     replace HB := jA (jY HB.out hb)
     replace HK := jA (Kept.below HK.out hb)
     clear ho hb hg hat
     refine hK.out _ _ trivial (fun hHeld => ?_)
     clear hK K
     refine norm_ (a' := ?_) ?_ ?_
     rotate_left
     ·show Act.put _ (some 33) _ = _
      simp only [Act.put, jD, jE, jF, i64_w, i32_w]
      rfl
     refine two_ (i := 4) (j := 6) (Ni := some 37) (Nj := some 39) m13_1f9c m13_1edc rfl rfl rfl rfl zr (by decide) (by decide) (fun K hK => ?_) (fun K hK => ?_)
     ·have hrd := jA (show Kd.C (Kd.int .i64) _ Ao x5_1.toNat (l0.take x5_1.toNat) from by have h_ := Kd.C_take (m := x5_1.toNat) (jO (Kd.R_kept HO0.out (zr0 HK) (fun k_ _ h_ => h_))).2.2 (by have := D1.out; omega); rw [show (l0.take x5_1.toNat).length = x5_1.toNat from by have := D0.out; have := D1.out; rw [List.length_take]; omega] at h_; exact h_)
      refine Kd.R_append_rows_step (Kd.int .i64) (w0 := w0) w0.heap.size (by rfl) (.tmp 33) (.tmp 36) 35 2 (.int .i64 0) 8 rfl Try.underlying35 info2 rfl (by decide) (by omega) vA ([] : List Int) (l0.take x5_1.toNat) _ _ _ (fun k_ => w.heap.size ≤ k_) (fun _ => False) rfl rfl ?aO ?aR (fun _ _ h => h) (fun _ h => h.elim) ?aF ?aB ?aS ?aL ?_
      (case aR => exact hrd.out)
      (case aB => exact HB.out)
      (case aF => exact fun k_ hk => Nat.le_trans HK.out.1 hk)
      (case aO => exact Kd.R_mono HA.out (fun k_ hk => hk))
      (case aS => exact jT HB.out)
      (case aL => have := D0.out; have := D1.out; have := D2.out; (try simp only [List.length_append, List.length_take, List.length_drop, List.length_singleton, List.length_nil]); omega)
      intro vb2 wl2 ho hb hg hat
      replace HB := jA hb
      replace HK := jA (Kept.of_grown (S := fun _ => False) hg HK.out (fun k_ e_ => .inr (HA.out.1 k_ e_)))
      have H4 := jA ho
      clear hrd ho hb hg hat HA
      refine hK.out _ _ trivial (fun hHeld => ?_)
      clear hK K
      refine norm_ (a' := ?_) ?_ ?_
      rotate_left
      ·show Act.put _ (some 37) _ = _
       simp only [Act.put, jD, jE, jF, i64_w, i32_w]
       rfl
      refine one_ (i := 6) (N := some 39) m13_1fdc rfl rfl zr (by decide) (fun K hK => ?_)
      refine Kd.R_lit_step (Kd.int .i64) (w0 := _) _ 2 (by rfl) (N := 39) rfl (xs := ([a1] : List Int)) (inner := [.int .i64 a1]) (ok := fun _ => True) (okp := fun _ => True) ?hr ?hp (fun _ hk => hk) trivial (Below.refl _ _) (Nat.le_refl _) (by simp) ?_
      (case hr => first | (go_simp; done) | (go_simp; rfl))
      (case hp => exact Reps.one (show Kd.M (Kd.int .i64) _ _ _ a1 [.int .i64 a1] from rfl) (Reps.none _ _))
      intro vN wl3 ho hb hg hat
      have HN := jA (Kd.R_mono (ok' := fun k_ => w.heap.size ≤ k_ ∧ some k_ ≠ vb2.ownBlock) (jX (Kd.R_new' (Kd.R_bound ho) (Kd.R_lt H4.out)) (jT HB.out)) (fun k_ hk => ⟨Nat.le_trans HK.out.1 hk.1.2.1, hk.2⟩))
      replace HB := jA (jY HB.out hb)
      replace HK := jA (Kept.below HK.out hb)
      replace H4 := jA (Kd.R_mono (ok' := fun k_ => w.heap.size ≤ k_ ∧ some k_ ≠ vN.ownBlock) (Kd.R_elder' H4.out (Kd.R_base ho) hb) (fun k_ hk => ⟨hk.1, hk.2⟩))
      clear ho hb hg hat
      refine hK.out _ _ trivial (fun hHeld => ?_)
      clear hK K
      refine norm_ (a' := ?_) ?_ ?_
      rotate_left
      ·show Act.put _ (some 39) _ = _
       simp only [Act.put, jD, jE, jF, i64_w, i32_w]
       rfl
      refine one_ (i := 7) (N := some 40) m13_1ffc rfl rfl zr (by decide) (fun K hK => ?_)
      obtain ⟨AN, cN, eN⟩ := Kd.R_slice HN.out
      subst eN
      have hrd := jA (jO HN.out).2.2
      refine Kd.R_append_rows_step (Kd.int .i64) (w0 := w0) w0.heap.size (by rfl) (.tmp 37) (.tmp 39) 35 2 (.int .i64 0) 8 rfl Try.underlying35 info2 rfl (by decide) (by omega) vb2 ([] ++ (l0.take x5_1.toNat)) [a1] _ _ _ (fun k_ => w.heap.size ≤ k_) (fun _ => False) rfl rfl ?aO ?aR (fun _ _ h => h) (fun _ h => h.elim) ?aF ?aB ?aS ?aL ?_
      (case aR => exact hrd.out)
      (case aB => exact HB.out)
      (case aF => exact fun k_ hk => Nat.le_trans HK.out.1 hk)
      (case aO => exact Kd.R_mono H4.out (fun k_ hk => hk.1))
      (case aS => exact jT HB.out)
      (case aL => have := D0.out; have := D1.out; have := D2.out; (try simp only [List.length_append, List.length_take, List.length_drop, List.length_singleton, List.length_nil]); omega)
      intro vb4 wl4 ho hb hg hat
      replace HB := jA hb
      replace HK := jA (Kept.of_grown (S := fun _ => False) hg HK.out (fun k_ e_ => .inr (H4.out.1 k_ e_).1))
      have H7 := jA ho
      clear hrd ho hb hg hat H4
      refine hK.out _ _ trivial (fun hHeld => ?_)
      clear hK K
      refine norm_ (a' := ?_) ?_ ?_
      rotate_left
      ·show Act.put _ (some 40) _ = _
       simp only [Act.put, jD, jE, jF, i64_w, i32_w]
       rfl
      refine one_ (i := 11) (N := some 44) m13_1ffe rfl rfl zr (by decide) (fun K hK => ?_)
      have hrd := jA (show Kd.C (Kd.int .i64) _ AD (l0.length - x5_1.toNat) (l0.drop x5_1.toNat) from by have h_ := Kd.C_drop (m := x5_1.toNat) (c := co) (jO (Kd.R_kept HO0.out (zr0 HK) (fun k_ _ h_ => h_))).2.2 (by have := D1.out; omega) HROOM.out; rw [List.length_drop] at h_; rw [HAD.out]; exact h_)
      refine Kd.R_append_rows_step (Kd.int .i64) (w0 := w0) w0.heap.size (by rfl) (.tmp 40) (.tmp 43) 35 2 (.int .i64 0) 8 rfl Try.underlying35 info2 rfl (by decide) (by omega) vb4 (([] ++ (l0.take x5_1.toNat)) ++ [a1]) (l0.drop x5_1.toNat) _ _ _ (fun k_ => w.heap.size ≤ k_) (fun _ => False) rfl rfl ?aO ?aR (fun _ _ h => h) (fun _ h => h.elim) ?aF ?aB ?aS ?aL ?_
      (case aR => exact hrd.out)
      (case aB => exact HB.out)
      (case aF => exact fun k_ hk => Nat.le_trans HK.out.1 hk)
      (case aO => exact Kd.R_mono H7.out (fun k_ hk => hk))
      (case aS => exact jT HB.out)
      (case aL => have := D0.out; have := D1.out; have := D2.out; (try simp only [List.length_append, List.length_take, List.length_drop, List.length_singleton, List.length_nil]); omega)
      intro vb5 wl5 ho hb hg hat
      replace HB := jA hb
      replace HK := jA (Kept.of_grown (S := fun _ => False) hg HK.out (fun k_ e_ => .inr (H7.out.1 k_ e_)))
      have H11 := jA ho
      clear hrd ho hb hg hat H7
      refine hK.out _ _ trivial (fun hHeld => ?_)
      clear hK K
      refine norm_ (a' := ?_) ?_ ?_
      rotate_left
      ·show Act.put _ (some 44) _ = _
       simp only [Act.put, jD, jE, jF, i64_w, i32_w]
       rfl
      refine pure_ (i := 12) (N := some 4) (v := ?_) (a' := ?_) m13_1fff rfl rfl zr (fun _ _ _ h => h) (Or.inl ⟨by rfl, ?_⟩) ?_ ?_
      rotate_left
      ·intro w'
       go_simp
       with_reducible rfl
      rotate_left
      ·simp only [Act.put, jD, jE, jF, i64_w, i32_w]
       rfl
      refine done_ zr ?_
      go_wp2
      go_ret
      exact ⟨_, rfl, Kd.R_mono (ok' := fun k_ => (P0_ k_ ∨ w.heap.size ≤ k_)) (show Kd.R (Kd.int .i64) 2 _ w0.heap.size _ _ r from by rw [← HR.out]; have h_ := H11.out; rw [List.nil_append] at h_; exact h_) (fun k_ hk => .inr hk), HB.out, HK.out.mono (fun _ h_ => h_.elim)⟩
     ·refine Kd.R_lit_step (Kd.int .i64) (w0 := _) _ 2 (by rfl) (N := 39) rfl (xs := ([a1] : List Int)) (inner := [.int .i64 a1]) (ok := fun _ => True) (okp := fun _ => True) ?hr ?hp (fun _ hk => hk) trivial (Below.refl _ _) (Nat.le_refl _) (by simp) ?_
      (case hr => first | (go_simp; done) | (go_simp; rfl))
      (case hp => exact Reps.one (show Kd.M (Kd.int .i64) _ _ _ a1 [.int .i64 a1] from rfl) (Reps.none _ _))
      intro vN wl6 ho hb hg hat
      have HN := jA (Kd.R_mono (ok' := fun k_ => w.heap.size ≤ k_ ∧ some k_ ≠ vA.ownBlock) (jX (Kd.R_new' (Kd.R_bound ho) (Kd.R_lt HA.out)) (jT HB.out)) (fun k_ hk => ⟨Nat.le_trans HK.out.1 hk.1.2.1, hk.2⟩))
      replace HB := jA (jY HB.out hb)
      replace HK := jA (Kept.below HK.out hb)
      replace HA := jA (Kd.R_mono (ok' := fun k_ => w.heap.size ≤ k_ ∧ some k_ ≠ vN.ownBlock) (Kd.R_elder' HA.out (Kd.R_base ho) hb) (fun k_ hk => ⟨hk.1, hk.2⟩))
      clear ho hb hg hat
      refine hK.out _ _ trivial (fun hHeld => ?_)
      clear hK K
      refine norm_ (a' := ?_) ?_ ?_
      rotate_left
      ·show Act.put _ (some 39) _ = _
       simp only [Act.put, jD, jE, jF, i64_w, i32_w]
       rfl
      refine one_ (i := 4) (N := some 37) m13_1fdc rfl rfl zr (by decide) (fun K hK => ?_)
      have hrd := jA (show Kd.C (Kd.int .i64) _ Ao x5_1.toNat (l0.take x5_1.toNat) from by have h_ := Kd.C_take (m := x5_1.toNat) (jO (Kd.R_kept HO0.out (zr0 HK) (fun k_ _ h_ => h_))).2.2 (by have := D1.out; omega); rw [show (l0.take x5_1.toNat).length = x5_1.toNat from by have := D0.out; have := D1.out; rw [List.length_take]; omega] at h_; exact h_)
      refine Kd.R_append_rows_step (Kd.int .i64) (w0 := w0) w0.heap.size (by rfl) (.tmp 33) (.tmp 36) 35 2 (.int .i64 0) 8 rfl Try.underlying35 info2 rfl (by decide) (by omega) vA ([] : List Int) (l0.take x5_1.toNat) _ _ _ (fun k_ => w.heap.size ≤ k_) (fun _ => False) rfl rfl ?aO ?aR (fun _ _ h => h) (fun _ h => h.elim) ?aF ?aB ?aS ?aL ?_
      (case aR => exact hrd.out)
      (case aB => exact HB.out)
      (case aF => exact fun k_ hk => Nat.le_trans HK.out.1 hk)
      (case aO => exact Kd.R_mono HA.out (fun k_ hk => hk.1))
      (case aS => exact jT HB.out)
      (case aL => have := D0.out; have := D1.out; have := D2.out; (try simp only [List.length_append, List.length_take, List.length_drop, List.length_singleton, List.length_nil]); omega)
      intro vb7 wl7 ho hb hg hat
      replace HB := jA hb
      replace HK := jA (Kept.of_grown (S := fun _ => False) hg HK.out (fun k_ e_ => .inr (HA.out.1 k_ e_).1))
      have H4 := jA ho
      replace HN := jA (Kd.R_grown HN.out hg (fun k_ hk => hk.2))
      clear hrd ho hb hg hat HA
      refine hK.out _ _ trivial (fun hHeld => ?_)
      clear hK K
      refine norm_ (a' := ?_) ?_ ?_
      rotate_left
      ·show Act.put _ (some 37) _ = _
       simp only [Act.put, jD, jE, jF, i64_w, i32_w]
       rfl
      refine one_ (i := 7) (N := some 40) m13_1ffc rfl rfl zr (by decide) (fun K hK => ?_)
      obtain ⟨AN, cN, eN⟩ := Kd.R_slice HN.out
      subst eN
      have hrd := jA (jO HN.out).2.2
      refine Kd.R_append_rows_step (Kd.int .i64) (w0 := w0) w0.heap.size (by rfl) (.tmp 37) (.tmp 39) 35 2 (.int .i64 0) 8 rfl Try.underlying35 info2 rfl (by decide) (by omega) vb7 ([] ++ (l0.take x5_1.toNat)) [a1] _ _ _ (fun k_ => w.heap.size ≤ k_) (fun _ => False) rfl rfl ?aO ?aR (fun _ _ h => h) (fun _ h => h.elim) ?aF ?aB ?aS ?aL ?_
      (case aR => exact hrd.out)
      (case aB => exact HB.out)
      (case aF => exact fun k_ hk => Nat.le_trans HK.out.1 hk)
      (case aO => exact Kd.R_mono H4.out (fun k_ hk => hk))
      (case aS => exact jT HB.out)
      (case aL => have := D0.out; have := D1.out; have := D2.out; (try simp only [List.length_append, List.length_take, List.length_drop, List.length_singleton, List.length_nil]); omega)
      intro vb8 wl8 ho hb hg hat
      replace HB := jA hb
      replace HK := jA (Kept.of_grown (S := fun _ => False) hg HK.out (fun k_ e_ => .inr (H4.out.1 k_ e_)))
      have H7 := jA ho
      clear hrd ho hb hg hat H4
      refine hK.out _ _ trivial (fun hHeld => ?_)
      clear hK K
      refine norm_ (a' := ?_) ?_ ?_
      rotate_left
      ·show Act.put _ (some 40) _ = _
       simp only [Act.put, jD, jE, jF, i64_w, i32_w]
       rfl
      refine one_ (i := 11) (N := some 44) m13_1ffe rfl rfl zr (by decide) (fun K hK => ?_)
      have hrd := jA (show Kd.C (Kd.int .i64) _ AD (l0.length - x5_1.toNat) (l0.drop x5_1.toNat) from by have h_ := Kd.C_drop (m := x5_1.toNat) (c := co) (jO (Kd.R_kept HO0.out (zr0 HK) (fun k_ _ h_ => h_))).2.2 (by have := D1.out; omega) HROOM.out; rw [List.length_drop] at h_; rw [HAD.out]; exact h_)
      refine Kd.R_append_rows_step (Kd.int .i64) (w0 := w0) w0.heap.size (by rfl) (.tmp 40) (.tmp 43) 35 2 (.int .i64 0) 8 rfl Try.underlying35 info2 rfl (by decide) (by omega) vb8 (([] ++ (l0.take x5_1.toNat)) ++ [a1]) (l0.drop x5_1.toNat) _ _ _ (fun k_ => w.heap.size ≤ k_) (fun _ => False) rfl rfl ?aO ?aR (fun _ _ h => h) (fun _ h => h.elim) ?aF ?aB ?aS ?aL ?_
      (case aR => exact hrd.out)
      (case aB => exact HB.out)
      (case aF => exact fun k_ hk => Nat.le_trans HK.out.1 hk)
      (case aO => exact Kd.R_mono H7.out (fun k_ hk => hk))
      (case aS => exact jT HB.out)
      (case aL => have := D0.out; have := D1.out; have := D2.out; (try simp only [List.length_append, List.length_take, List.length_drop, List.length_singleton, List.length_nil]); omega)
      intro vb9 wl9 ho hb hg hat
      replace HB := jA hb
      replace HK := jA (Kept.of_grown (S := fun _ => False) hg HK.out (fun k_ e_ => .inr (H7.out.1 k_ e_)))
      have H11 := jA ho
      clear hrd ho hb hg hat H7
      refine hK.out _ _ trivial (fun hHeld => ?_)
      clear hK K
      refine norm_ (a' := ?_) ?_ ?_
      rotate_left
      ·show Act.put _ (some 44) _ = _
       simp only [Act.put, jD, jE, jF, i64_w, i32_w]
       rfl
      refine pure_ (i := 12) (N := some 4) (v := ?_) (a' := ?_) m13_1fff rfl rfl zr (fun _ _ _ h => h) (Or.inl ⟨by rfl, ?_⟩) ?_ ?_
      rotate_left
      ·intro w'
       go_simp
       with_reducible rfl
      rotate_left
      ·simp only [Act.put, jD, jE, jF, i64_w, i32_w]
       rfl
      refine done_ zr ?_
      go_wp2
      go_ret
      exact ⟨_, rfl, Kd.R_mono (ok' := fun k_ => (P0_ k_ ∨ w.heap.size ≤ k_)) (show Kd.R (Kd.int .i64) 2 _ w0.heap.size _ _ r from by rw [← HR.out]; have h_ := H11.out; rw [List.nil_append] at h_; exact h_) (fun k_ hk => .inr hk), HB.out, HK.out.mono (fun _ h_ => h_.elim)⟩
    ·refine Kd.R_lit_step (Kd.int .i64) (w0 := _) _ 2 (by rfl) (N := 39) rfl (xs := ([a1] : List Int)) (inner := [.int .i64 a1]) (ok := fun _ => True) (okp := fun _ => True) ?hr ?hp (fun _ hk => hk) trivial (Below.refl _ _) (Nat.le_refl _) (by simp) ?_
     (case hr => first | (go_simp; done) | (go_simp; rfl))
     (case hp => exact Reps.one (show Kd.M (Kd.int .i64) _ _ _ a1 [.int .i64 a1] from rfl) (Reps.none _ _))
     intro vN wl10 ho hb hg hat
     have HN := jA (Kd.R_mono (ok' := (fun k_ => w.heap.size ≤ k_)) (jX (Kd.R_bound ho) (jT HB.out)) (fun k_ hk => Nat.le_trans HK.out.1 hk.2.1))
     replace HB := jA (jY HB.out hb)
     replace HK := jA (Kept.below HK.out hb)
     clear ho hb hg hat
     refine hK.out _ _ trivial (fun hHeld => ?_)
     clear hK K
     refine norm_ (a' := ?_) ?_ ?_
     rotate_left
     ·show Act.put _ (some 39) _ = _
      simp only [Act.put, jD, jE, jF, i64_w, i32_w]
      rfl
     refine one_ (i := 0) (N := some 33) m13_1edc rfl rfl zr (by decide) (fun K hK => ?_)
     refine Kd.R_lit_step (Kd.int .i64) (w0 := _) _ 2 (by rfl) (N := 33) rfl (xs := ([] : List Int)) (inner := []) (ok := fun _ => True) (okp := fun _ => True) ?hr ?hp (fun _ hk => hk) trivial (Below.refl _ _) (Nat.le_refl _) (by simp) ?_
     (case hr => first | (go_simp; done) | (go_simp; rfl))
     (case hp => exact Reps.none _ _)
     intro vA wl11 ho hb hg hat
     have HA := jA (Kd.R_mono (ok' := fun k_ => w.heap.size ≤ k_ ∧ some k_ ≠ vN.ownBlock) (jX (Kd.R_new' (Kd.R_bound ho) (Kd.R_lt HN.out)) (jT HB.out)) (fun k_ hk => ⟨Nat.le_trans HK.out.1 hk.1.2.1, hk.2⟩))
     replace HB := jA (jY HB.out hb)
     replace HK := jA (Kept.below HK.out hb)
     replace HN := jA (Kd.R_mono (ok' := fun k_ => w.heap.size ≤ k_ ∧ some k_ ≠ vA.ownBlock) (Kd.R_elder' HN.out (Kd.R_base ho) hb) (fun k_ hk => ⟨hk.1, hk.2⟩))
     clear ho hb hg hat
     refine hK.out _ _ trivial (fun hHeld => ?_)
     clear hK K
     refine norm_ (a' := ?_) ?_ ?_
     rotate_left
     ·show Act.put _ (some 33) _ = _
      simp only [Act.put, jD, jE, jF, i64_w, i32_w]
      rfl
     refine one_ (i := 4) (N := some 37) m13_1fdc rfl rfl zr (by decide) (fun K hK => ?_)
     have hrd := jA (show Kd.C (Kd.int .i64) _ Ao x5_1.toNat (l0.take x5_1.toNat) from by have h_ := Kd.C_take (m := x5_1.toNat) (jO (Kd.R_kept HO0.out (zr0 HK) (fun k_ _ h_ => h_))).2.2 (by have := D1.out; omega); rw [show (l0.take x5_1.toNat).length = x5_1.toNat from by have := D0.out; have := D1.out; rw [List.length_take]; omega] at h_; exact h_)
     refine Kd.R_append_rows_step (Kd.int .i64) (w0 := w0) w0.heap.size (by rfl) (.tmp 33) (.tmp 36) 35 2 (.int .i64 0) 8 rfl Try.underlying35 info2 rfl (by decide) (by omega) vA ([] : List Int) (l0.take x5_1.toNat) _ _ _ (fun k_ => w.heap.size ≤ k_) (fun _ => False) rfl rfl ?aO ?aR (fun _ _ h => h) (fun _ h => h.elim) ?aF ?aB ?aS ?aL ?_
     (case aR => exact hrd.out)
     (case aB => exact HB.out)
     (case aF => exact fun k_ hk => Nat.le_trans HK.out.1 hk)
     (case aO => exact Kd.R_mono HA.out (fun k_ hk => hk.1))
     (case aS => exact jT HB.out)
     (case aL => have := D0.out; have := D1.out; have := D2.out; (try simp only [List.length_append, List.length_take, List.length_drop, List.length_singleton, List.length_nil]); omega)
     intro vb12 wl12 ho hb hg hat
     replace HB := jA hb
     replace HK := jA (Kept.of_grown (S := fun _ => False) hg HK.out (fun k_ e_ => .inr (HA.out.1 k_ e_).1))
     have H4 := jA ho
     replace HN := jA (Kd.R_grown HN.out hg (fun k_ hk => hk.2))
     clear hrd ho hb hg hat HA
     refine hK.out _ _ trivial (fun hHeld => ?_)
     clear hK K
     refine norm_ (a' := ?_) ?_ ?_
     rotate_left
     ·show Act.put _ (some 37) _ = _
      simp only [Act.put, jD, jE, jF, i64_w, i32_w]
      rfl
     refine one_ (i := 7) (N := some 40) m13_1ffc rfl rfl zr (by decide) (fun K hK => ?_)
     obtain ⟨AN, cN, eN⟩ := Kd.R_slice HN.out
     subst eN
     have hrd := jA (jO HN.out).2.2
     refine Kd.R_append_rows_step (Kd.int .i64) (w0 := w0) w0.heap.size (by rfl) (.tmp 37) (.tmp 39) 35 2 (.int .i64 0) 8 rfl Try.underlying35 info2 rfl (by decide) (by omega) vb12 ([] ++ (l0.take x5_1.toNat)) [a1] _ _ _ (fun k_ => w.heap.size ≤ k_) (fun _ => False) rfl rfl ?aO ?aR (fun _ _ h => h) (fun _ h => h.elim) ?aF ?aB ?aS ?aL ?_
     (case aR => exact hrd.out)
     (case aB => exact HB.out)
     (case aF => exact fun k_ hk => Nat.le_trans HK.out.1 hk)
     (case aO => exact Kd.R_mono H4.out (fun k_ hk => hk))
     (case aS => exact jT HB.out)
     (case aL => have := D0.out; have := D1.out; have := D2.out; (try simp only [List.length_append, List.length_take, List.length_drop, List.length_singleton, List.length_nil]); omega)
     intro vb13 wl13 ho hb hg hat
     replace HB := jA hb
     replace HK := jA (Kept.of_grown (S := fun _ => False) hg HK.out (fun k_ e_ => .inr (H4.out.1 k_ e_)))
     have H7 := jA ho
     clear hrd ho hb hg hat H4
     refine hK.out _ _ trivial (fun hHeld => ?_)
     clear hK K
     refine norm_ (a' := ?_) ?_ ?_
     rotate_left
     ·show Act.put _ (some 40) _ = _
      simp only [Act.put, jD, jE, jF, i64_w, i32_w]
      rfl
     refine one_ (i := 11) (N := some 44) m13_1ffe rfl rfl zr (by decide) (fun K hK => ?_)
     have hrd := jA (show Kd.C (Kd.int .i64) _ AD (l0.length - x5_1.toNat) (l0.drop x5_1.toNat) from by have h_ := Kd.C_drop (m := x5_1.toNat) (c := co) (jO (Kd.R_kept HO0.out (zr0 HK) (fun k_ _ h_ => h_))).2.2 (by have := D1.out; omega) HROOM.out; rw [List.length_drop] at h_; rw [HAD.out]; exact h_)
     refine Kd.R_append_rows_step (Kd.int .i64) (w0 := w0) w0.heap.size (by rfl) (.tmp 40) (.tmp 43) 35 2 (.int .i64 0) 8 rfl Try.underlying35 info2 rfl (by decide) (by omega) vb13 (([] ++ (l0.take x5_1.toNat)) ++ [a1]) (l0.drop x5_1.toNat) _ _ _ (fun k_ => w.heap.size ≤ k_) (fun _ => False) rfl rfl ?aO ?aR (fun _ _ h => h) (fun _ h => h.elim) ?aF ?aB ?aS ?aL ?_
     (case aR => exact hrd.out)
     (case aB => exact HB.out)
     (case aF => exact fun k_ hk => Nat.le_trans HK.out.1 hk)
     (case aO => exact Kd.R_mono H7.out (fun k_ hk => hk))
     (case aS => exact jT HB.out)
     (case aL => have := D0.out; have := D1.out; have := D2.out; (try simp only [List.length_append, List.length_take, List.length_drop, List.length_singleton, List.length_nil]); omega)
     intro vb14 wl14 ho hb hg hat
     replace HB := jA hb
     replace HK := jA (Kept.of_grown (S := fun _ => False) hg HK.out (fun k_ e_ => .inr (H7.out.1 k_ e_)))
     have H11 := jA ho
     clear hrd ho hb hg hat H7
     refine hK.out _ _ trivial (fun hHeld => ?_)
     clear hK K
     refine norm_ (a' := ?_) ?_ ?_
     rotate_left
     ·show Act.put _ (some 44) _ = _
      simp only [Act.put, jD, jE, jF, i64_w, i32_w]
      rfl
     refine pure_ (i := 12) (N := some 4) (v := ?_) (a' := ?_) m13_1fff rfl rfl zr (fun _ _ _ h => h) (Or.inl ⟨by rfl, ?_⟩) ?_ ?_
     rotate_left
     ·intro w'
      go_simp
      with_reducible rfl
     rotate_left
     ·simp only [Act.put, jD, jE, jF, i64_w, i32_w]
      rfl
     refine done_ zr ?_
     go_wp2
     go_ret
     exact ⟨_, rfl, Kd.R_mono (ok' := fun k_ => (P0_ k_ ∨ w.heap.size ≤ k_)) (show Kd.R (Kd.int .i64) 2 _ w0.heap.size _ _ r from by rw [← HR.out]; have h_ := H11.out; rw [List.nil_append] at h_; exact h_) (fun k_ hk => .inr hk), HB.out, HK.out.mono (fun _ h_ => h_.elim)⟩
end Go.Proofs.Ythieppjmjgijfaa.PFnProofs
