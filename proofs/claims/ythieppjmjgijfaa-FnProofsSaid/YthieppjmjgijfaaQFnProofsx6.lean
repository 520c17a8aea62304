/- Functions and contracts that FnProofs reaches (7 of 22). -/
import Derived.Test.YthieppjmjgijfaaQFnProofsx5
namespace Go.Proofs.Ythieppjmjgijfaa.PFnProofs
open Go.RowKit Go.Proofs.YthieppjmjgijfaaW.PrintWords Go.Proofs.YthieppjmjgijfaaW.PrintLast Go.Proofs.YthieppjmjgijfaaW.PrintMore
attribute [local go_sem] max2_int min2_int max_two min_two max_three min_three max_four min_four   -- for this text's walks alone
set_option linter.unusedVariables false
set_option linter.unusedSimpArgs false

/-! ### spec_l25Reached: function 74 -/
mutual
def spec_l25Reached.l0 : Nat → List Int → List Int → Int → Option (List Int)
 | 0, _, _, _ => none
 | k + 1, x1, x5, x6 => if x6 < (x5.length : Int) then (if 0 ≤ x6 then ((spec_l25Next.f k (rd x5 x6) x1).bind fun t242 => (spec_l25Reached.l1 k x1 x5 x6 t242 0)) else (none)) else (spec_l25Reached.l2 k x5 (([] : List Int)) 0)
def spec_l25Reached.l1 : Nat → List Int → List Int → Int → List Int → Int → Option (List Int)
 | 0, _, _, _, _, _ => none
 | k + 1, x1, x5, x6, x7, x8 => if x8 < (x7.length : Int) then (if 0 ≤ x8 then (if (rd x7 x8) ≥ 0 then ((spec_l01Has.f k x5 (rd x7 x8)).bind fun t247 => (if t247 = true then (spec_l25Reached.l1 k x1 x5 x6 x7 (wrap64 (x8 + 1))) else (if x5.length < 17592186044416 then (spec_l25Reached.l1 k x1 (x5 ++ [rd x7 x8]) x6 x7 (wrap64 (x8 + 1))) else (none)))) else (spec_l25Reached.l1 k x1 x5 x6 x7 (wrap64 (x8 + 1)))) else (none)) else (spec_l25Reached.l0 k x1 x5 (wrap64 (x6 + 1)))
def spec_l25Reached.l2 : Nat → List Int → List Int → Int → Option (List Int)
 | 0, _, _, _ => none
 | k + 1, x5, x9, x10 => if x10 < (x5.length : Int) then (if 0 ≤ x10 then ((spec_l03Insert.f k x9 (rd x5 x10)).bind fun t256 => (spec_l25Reached.l2 k x5 t256 (wrap64 (x10 + 1)))) else (none)) else (some x9)
end
def spec_l25Reached.f (k : Nat) (a0 : Int) (l1 : List Int) : Option (List Int) := spec_l25Reached.l0 k l1 (([a0] : List Int)) 0
theorem spec_l25Reached.mono_l : ∀ k, (∀ y0 y1 y2, LeO (spec_l25Reached.l0 k y0 y1 y2) (spec_l25Reached.l0 (k + 1) y0 y1 y2)) ∧ (∀ y0 y1 y2 y3 y4, LeO (spec_l25Reached.l1 k y0 y1 y2 y3 y4) (spec_l25Reached.l1 (k + 1) y0 y1 y2 y3 y4)) ∧ (∀ y0 y1 y2, LeO (spec_l25Reached.l2 k y0 y1 y2) (spec_l25Reached.l2 (k + 1) y0 y1 y2))
 | 0 => ⟨fun _ _ _ r h => by simp [spec_l25Reached.l0] at h, fun _ _ _ _ _ r h => by simp [spec_l25Reached.l1] at h, fun _ _ _ r h => by simp [spec_l25Reached.l2] at h⟩
 | k + 1 => by
  obtain ⟨ih0, ih1, ih2⟩ := spec_l25Reached.mono_l k
  refine ⟨?_, ?_, ?_⟩
  ·intro y0 y1 y2
   unfold spec_l25Reached.l0
   repeat' first
   | (with_reducible exact ih0 _ _ _)
   | (with_reducible exact ih1 _ _ _ _ _)
   | (with_reducible exact ih2 _ _ _)
   | (with_reducible exact spec_l01Has.mono _ _ _)
   | (with_reducible exact spec_l03Insert.mono _ _ _)
   | (with_reducible exact spec_l25Next.mono _ _ _)
   | (with_reducible exact LeO.refl _)
   | (with_reducible exact LeO.none _)
   | (with_reducible refine LeO.ite ?_ ?_)
   | (with_reducible refine LeO.bind ?_ (fun _ => ?_))
   | exact ih0 _ _ _
   | exact ih1 _ _ _ _ _
   | exact ih2 _ _ _
   | exact spec_l01Has.mono _ _ _
   | exact spec_l03Insert.mono _ _ _
   | exact spec_l25Next.mono _ _ _
   | exact LeO.none _
   | refine LeO.ite ?_ ?_
   | refine LeO.bind ?_ (fun _ => ?_)
  ·intro y0 y1 y2 y3 y4
   unfold spec_l25Reached.l1
   repeat' first
   | (with_reducible exact ih0 _ _ _)
   | (with_reducible exact ih1 _ _ _ _ _)
   | (with_reducible exact ih2 _ _ _)
   | (with_reducible exact spec_l01Has.mono _ _ _)
   | (with_reducible exact spec_l03Insert.mono _ _ _)
   | (with_reducible exact spec_l25Next.mono _ _ _)
   | (with_reducible exact LeO.refl _)
   | (with_reducible exact LeO.none _)
   | (with_reducible refine LeO.ite ?_ ?_)
   | (with_reducible refine LeO.bind ?_ (fun _ => ?_))
   | exact ih0 _ _ _
   | exact ih1 _ _ _ _ _
   | exact ih2 _ _ _
   | exact spec_l01Has.mono _ _ _
   | exact spec_l03Insert.mono _ _ _
   | exact spec_l25Next.mono _ _ _
   | exact LeO.none _
   | refine LeO.ite ?_ ?_
   | refine LeO.bind ?_ (fun _ => ?_)
  ·intro y0 y1 y2
   unfold spec_l25Reached.l2
   repeat' first
   | (with_reducible exact ih0 _ _ _)
   | (with_reducible exact ih1 _ _ _ _ _)
   | (with_reducible exact ih2 _ _ _)
   | (with_reducible exact spec_l01Has.mono _ _ _)
   | (with_reducible exact spec_l03Insert.mono _ _ _)
   | (with_reducible exact spec_l25Next.mono _ _ _)
   | (with_reducible exact LeO.refl _)
   | (with_reducible exact LeO.none _)
   | (with_reducible refine LeO.ite ?_ ?_)
   | (with_reducible refine LeO.bind ?_ (fun _ => ?_))
   | exact ih0 _ _ _
   | exact ih1 _ _ _ _ _
   | exact ih2 _ _ _
   | exact spec_l01Has.mono _ _ _
   | exact spec_l03Insert.mono _ _ _
   | exact spec_l25Next.mono _ _ _
   | exact LeO.none _
   | refine LeO.ite ?_ ?_
   | refine LeO.bind ?_ (fun _ => ?_)
theorem spec_l25Reached.mono : ∀ a0 a1 k, LeO (spec_l25Reached.f k a0 a1) (spec_l25Reached.f (k + 1) a0 a1) := by
 intro a0 a1 k
 obtain ⟨ih0, ih1, ih2⟩ := spec_l25Reached.mono_l k
 unfold spec_l25Reached.f
 repeat' first
   | (with_reducible exact ih0 _ _ _)
   | (with_reducible exact ih1 _ _ _ _ _)
   | (with_reducible exact ih2 _ _ _)
   | (with_reducible exact spec_l01Has.mono _ _ _)
   | (with_reducible exact spec_l03Insert.mono _ _ _)
   | (with_reducible exact spec_l25Next.mono _ _ _)
   | (with_reducible exact LeO.refl _)
   | (with_reducible exact LeO.none _)
   | (with_reducible refine LeO.ite ?_ ?_)
   | (with_reducible refine LeO.bind ?_ (fun _ => ?_))
   | exact ih0 _ _ _
   | exact ih1 _ _ _ _ _
   | exact ih2 _ _ _
   | exact spec_l01Has.mono _ _ _
   | exact spec_l03Insert.mono _ _ _
   | exact spec_l25Next.mono _ _ _
   | exact LeO.none _
   | refine LeO.ite ?_ ?_
   | refine LeO.bind ?_ (fun _ => ?_)
set_option maxHeartbeats 8000000 in
set_option maxRecDepth 100000 in
theorem spec_l25Reached.calls (k : Nat) (a0 : Int) (A1 : Option Addr) (c1 : Nat) (l1 : List Int) (r : List Int) (w : World) (hr1 : Kd.C (Kd.int .i64) w A1 l1.length l1) (hc1 : l1.length ≤ c1) (h : spec_l25Reached.f k a0 l1 = some r) :
  Calls Try.prog 74 #[.int .i64 a0, .slice A1 l1.length c1] w fun e w' => ∃ v0_ : Value, e = .returned (v0_) ∧ Kd.R (Kd.int .i64) 2 w' w.heap.size (fun _ => True) v0_ r ∧ Below w.heap.size w w' := by
 have HR1 := jA hr1
 have HC1 := jA hc1
 clear hr1 hc1
 have HB := jA (Below.refl w.heap.size w)
 have H : (spec_l25Reached.l0 k l1 (([a0] : List Int)) 0) = some r := h
 clear h
 obtain ⟨y238, hy238⟩ : ∃ y_ : List Int, y_ = (([a0] : List Int)) := ⟨_, rfl⟩
 replace H : (spec_l25Reached.l0 k l1 y238 0) = some r := by first | (rw [hy238]; with_reducible exact H) | (have H2_ := (Option.bind_some _ _).symm.trans H; rw [hy238]; with_reducible exact H2_) | (have H2_ := (Option.bind_some _ _).symm.trans H; with_reducible exact H2_) | with_reducible exact H | (rw [hy238]; exact H) | exact H
 have Ny238 := jA hy238
 clear hy238
 have H' := jA H
 clear H
 go_enter Try.func74, Try.ntmps74
 go_wp2_with (first | ((with_reducible refine jJ (N := 12) rfl ?_); refine Kd.R_lit (Kd.int .i64) _ 2 ?hg (N := 12) ?hd (xs := ([a0] : List Int)) (inner := [.int .i64 a0]) (ok := fun _ => True) (okp := fun _ => True) ?hr ?hp (fun _ hk => hk) trivial (Below.refl _ _) (Nat.le_refl _) (by simp) ?_; (case hd => rfl); (case hg => rfl); (case hr => first | (go_simp; done) | (go_simp; rfl)); (case hp => exact (Reps.one (show Kd.M (Kd.int .i64) _ _ _ a0 [.int .i64 a0] from rfl) (Reps.none _ _))); intro v239 w3 ho4 hb hg_ hnew_; clear hg_ hnew_; (first | rw [← Ny238.out] at ho4 | (simp only [Int.reduceToNat] at ho4; rw [← Ny238.out] at ho4)); have HO240 := jA (jX ho4 (jT (zb0 HB))); replace HB := zS0 HB hb; clear hb ho4))
 go_loopg [5, 6] k (fun kq v5 v6 w' => ∃ (x5_1 : List Int) (x6_1 : Int), v6 = .int .i64 x6_1 ∧ Aside0 (spec_l25Reached.l0 kq l1 x5_1 x6_1 = some r) ∧ Aside0 (kq ≤ k) ∧ Aside0 (Kd.R (Kd.int .i64) 2 w' w.heap.size (fun _ => True) v5 x5_1) ∧ Aside0 (Below w.heap.size w w'))
 case atStart => exact ⟨(y238), (0), zz, H', ⟨Nat.le_refl _⟩, ⟨zo HO240⟩, ⟨zb0 HB⟩⟩
 case round =>
  clear H'
  try clear c1
  try clear p2
  obtain ⟨x5_1, x6_1, rfl, HA, HK1, HO_5, HB⟩ := hrel
  cases gk with
  | zero => exact absurd HA.out (by simp [spec_l25Reached.l0])
  | succ k1 =>
   have H := HA.out
   clear HA
   simp only [spec_l25Reached.l0] at H
   by_cases c5 : x6_1 < (x5_1.length : Int)
   ·rw [if_pos c5] at H
    have c5b0 : decide (x6_1 < (x5_1.length : Int)) = true := jI c5
    clear c5
    by_cases c6 : 0 ≤ x6_1
    ·rw [if_pos c6] at H
     have c6b0 : decide (0 ≤ x6_1) = true := jI c6
     clear c6
     replace H := jC.mp H
     obtain ⟨t242, A70, H⟩ := H
     try dsimp only at H
     have A7 := jA A70
     clear A70
     have H' := jA H
     clear H
     obtain ⟨Ao8, co8, eo8⟩ := Kd.R_slice HO_5.out
     subst eo8
     have p241 : 0 ≤ (x6_1 : Int) := jB za
     have q241 : x6_1 < (x5_1.length : Int) := jB za
     obtain ⟨ad241, e241, hx241_0⟩ := jR (jO HO_5.out).2.2 x6_1 p241 q241
     cases e241
     replace p241 := eq_true p241
     replace q241 := eq_true q241
     go_wp2_with (first | ((with_reducible refine jG (f := 71) rfl ?_); refine zL (some 24) Try.func71 #[.int .i64 (rd x5_1 x6_1), .slice A1 l1.length c1] ?_; (with_reducible refine (spec_l25Next.calls k1 (rd x5_1 x6_1) _ _ l1 t242 _ ?side1 ?side2 A7.out).mono ?_); (case side1 => exact zs HR1 HB); (case side2 => exact HC1.out); rintro e w9 ⟨v243, rfl, ho0, hb⟩; refine ⟨_, rfl, ?_⟩; have HO244 := jA (jX (Kd.R_new' ho0 (Kd.R_lt (zo HO_5))) (jT (zb0 HB))); replace HO_5 := jA (Kd.R_elder' (zo HO_5) (Kd.R_base ho0) hb); replace HB := zS0 HB hb; (try clear hb); (try clear hb2); (try clear hk); (try clear hi); (try clear ho0)))
     go_loopg [5, 8] k1 (fun kq v5 v8 w' => ∃ (x5_2 : List Int) (x8_2 : Int), v8 = .int .i64 x8_2 ∧ Aside0 (spec_l25Reached.l1 kq l1 x5_2 x6_1 t242 x8_2 = some r) ∧ Aside0 (kq ≤ k1) ∧ Aside0 (Kd.R (Kd.int .i64) 2 w' w.heap.size (fun k_ => some k_ ≠ (v243 : Value).ownBlock) v5 x5_2) ∧ Aside0 (Kd.R (Kd.int .i64) 2 w' w.heap.size (fun k_ => some k_ ≠ (v5 : Value).ownBlock) v243 t242) ∧ Aside0 (Below w.heap.size w w'))
     case atStart => exact ⟨(x5_1), (0), zz, H', ⟨Nat.le_refl _⟩, ⟨by (with_reducible repeat (first | apply ja | apply jZ | apply Kd.R_drew)); exact Kd.R_mono HO_5.out (fun _ hk => hk.2)⟩, ⟨by (with_reducible repeat (first | apply ja | apply jZ | apply Kd.R_drew)); exact Kd.R_mono HO244.out (fun _ hk => hk.2)⟩, ⟨zb0 HB⟩⟩
     case round =>
      clear H'
      try clear c1
      try clear p2
      try clear q2
      try clear hx2
      try clear c5
      try clear c5b0
      try clear c6
      try clear c6b0
      try clear c7
      try clear hx241_0
      try clear p2
      try clear p241
      try clear q241
      obtain ⟨x5_2, x8_2, rfl, HA, HK2, HO_5, HO_7, HB⟩ := hrel
      cases gk with
      | zero => exact absurd HA.out (by simp [spec_l25Reached.l1])
      | succ k2 =>
       have H := HA.out
       clear HA
       simp only [spec_l25Reached.l1] at H
       by_cases c10 : x8_2 < (t242.length : Int)
       ·rw [if_pos c10] at H
        have c10b0 : decide (x8_2 < (t242.length : Int)) = true := jI c10
        clear c10
        by_cases c11 : 0 ≤ x8_2
        ·rw [if_pos c11] at H
         have c11b0 : decide (0 ≤ x8_2) = true := jI c11
         clear c11
         by_cases c12 : (rd t242 x8_2) ≥ 0
         ·rw [if_pos c12] at H
          have c12b0 : decide (0 ≤ (rd t242 x8_2)) = true := jI c12
          clear c12
          replace H := jC.mp H
          obtain ⟨t247, A130, H⟩ := H
          replace H : (if t247 = true then (spec_l25Reached.l1 k2 l1 x5_2 x6_1 t242 (wrap64 (x8_2 + 1))) else (if x5_2.length < 17592186044416 then (spec_l25Reached.l1 k2 l1 (x5_2 ++ [rd t242 x8_2]) x6_1 t242 (wrap64 (x8_2 + 1))) else (none))) = some r := H
          have A13 := jA A130
          clear A130
          by_cases c14 : t247 = true
          ·subst c14
           rw [if_pos rfl] at H
           have H' := jA H
           clear H
           obtain ⟨Ao15, co15, eo15⟩ := Kd.R_slice HO_7.out
           subst eo15
           have p245 : 0 ≤ (x8_2 : Int) := jB za
           have q245 : x8_2 < (t242.length : Int) := jB za
           obtain ⟨ad245, e245, hx245_0⟩ := jR (jO HO_7.out).2.2 x8_2 p245 q245
           cases e245
           replace p245 := eq_true p245
           replace q245 := eq_true q245
           have p246 : 0 ≤ (x8_2 : Int) := jB za
           have q246 : x8_2 < (t242.length : Int) := jB za
           obtain ⟨ad246, e246, hx246_0⟩ := jR (jO HO_7.out).2.2 x8_2 p246 q246
           obtain rfl : ad245 = ad246 := (by injection e246)
           replace p246 := eq_true p246
           replace q246 := eq_true q246
           obtain ⟨Ao16, co16, eo16⟩ := Kd.R_slice HO_5.out
           subst eo16
           go_wp2_with (first | (go_at_call 72; (with_reducible refine (spec_l01Has.calls k2 _ _ x5_2 (rd t242 x8_2) true _ ?side1 ?side2 A13.out).mono ?_); (case side1 => exact zv HO_5); (case side2 => exact (jO HO_5.out).2.1); rintro e w' ⟨rfl, ⟨nd, rfl⟩⟩))
           go_roundg k2
           case measure => have := HK1.out; have := HK2.out; omega
           case rel => exact ⟨(x5_2), (wrap64 (x8_2 + 1)), zz, H', ⟨by have := HK1.out; have := HK2.out; omega⟩, ⟨zo HO_5⟩, ⟨zo HO_7⟩, ⟨zb0 HB⟩⟩
          ·replace c14 := Bool.eq_false_iff.mpr c14
           subst c14
           rw [if_neg zfalse] at H
           by_cases c17 : x5_2.length < 17592186044416
           ·rw [if_pos c17] at H
            have LMc17 := jA c17
            clear c17
            obtain ⟨y249, hy249⟩ : ∃ y_ : List Int, y_ = (x5_2 ++ [rd t242 x8_2]) := ⟨_, rfl⟩
            replace H : (spec_l25Reached.l1 k2 l1 y249 x6_1 t242 (wrap64 (x8_2 + 1))) = some r := by first | (rw [hy249]; with_reducible exact H) | (have H2_ := (Option.bind_some _ _).symm.trans H; rw [hy249]; with_reducible exact H2_) | (have H2_ := (Option.bind_some _ _).symm.trans H; with_reducible exact H2_) | with_reducible exact H | (rw [hy249]; exact H) | exact H
            have Ny249 := jA hy249
            clear hy249
            have H' := jA H
            clear H
            obtain ⟨Ao18, co18, eo18⟩ := Kd.R_slice HO_7.out
            subst eo18
            have p245 : 0 ≤ (x8_2 : Int) := jB za
            have q245 : x8_2 < (t242.length : Int) := jB za
            obtain ⟨ad245, e245, hx245_0⟩ := jR (jO HO_7.out).2.2 x8_2 p245 q245
            cases e245
            replace p245 := eq_true p245
            replace q245 := eq_true q245
            have p246 : 0 ≤ (x8_2 : Int) := jB za
            have q246 : x8_2 < (t242.length : Int) := jB za
            obtain ⟨ad246, e246, hx246_0⟩ := jR (jO HO_7.out).2.2 x8_2 p246 q246
            obtain rfl : ad245 = ad246 := (by injection e246)
            replace p246 := eq_true p246
            replace q246 := eq_true q246
            obtain ⟨Ao19, co19, eo19⟩ := Kd.R_slice HO_5.out
            subst eo19
            go_wp2_with (first | (go_at_call 72; (with_reducible refine (spec_l01Has.calls k2 _ _ x5_2 (rd t242 x8_2) false _ ?side1 ?side2 A13.out).mono ?_); (case side1 => exact zv HO_5); (case side2 => exact (jO HO_5.out).2.1); rintro e w' ⟨rfl, ⟨nd, rfl⟩⟩; have p248 : 0 ≤ (x8_2 : Int) := jB za; have q248 : x8_2 < (t242.length : Int) := jB za; obtain ⟨ad248, e248, hx248_0⟩ := jR (jO HO_7.out).2.2 x8_2 p248 q248; obtain rfl : ad245 = ad248 := (by injection e248); replace p248 := eq_true p248; replace q248 := eq_true q248) | ((with_reducible refine gate_builtin (b := .append) (xs := #[.tmp 45, .tmp 50]) rfl ?_); at_builtin; refine Kd.R_append (Kd.int .i64) (w0 := w) w.heap.size rfl (.tmp 45) (.tmp 50) 35 2 (.int .i64 0) 8 rfl Try.underlying35 info2 rfl (by decide) (by omega) (.slice Ao19 x5_2.length co19) x5_2 (rd t242 x8_2) [.int .i64 (rd t242 x8_2)] (fun k_ => some k_ ≠ (.slice (some ad245) t242.length co18 : Value).ownBlock) (fun _ => False) rfl rfl ?aP (fun _ hk => hk.elim) ?aF ?aO ?aB ?aS ?aL ?_; (case aP => exact rfl); (case aB => exact (zb0 HB)); (case aF => exact (fun k_ hk => Kd.fresh' (Kd.R_lt (zo HO_7)) k_ hk)); (case aO => exact (zo HO_5)); (case aS => exact (jT (zb0 HB))); (case aL => have := LMc17.out; omega); intro v250 w20 ho hb hg hat; rw [← Ny249.out] at ho; replace HO_7 := jA (Kd.R_after (ok := (fun _ => True)) (by (with_reducible repeat (first | apply ja | apply jZ | apply Kd.R_drew)); exact Kd.R_mono HO_7.out (fun _ hk => ⟨trivial, hk⟩)) hg hat); replace HB := jA (hb); have HO251 := jA (ho); clear HO_5; clear ho hb hg hat))
            go_roundg k2
            case measure => have := HK1.out; have := HK2.out; omega
            case rel => exact ⟨(y249), (wrap64 (x8_2 + 1)), zz, H', ⟨by have := HK1.out; have := HK2.out; omega⟩, ⟨zo HO251⟩, ⟨by (with_reducible repeat (first | apply ja | apply jZ | apply Kd.R_drew)); exact Kd.R_mono HO_7.out (fun _ hk => hk.2)⟩, ⟨zb0 HB⟩⟩
           ·rw [if_neg c17] at H
            exact absurd H (by simp)
         ·rw [if_neg c12] at H
          have c12b0 : decide (0 ≤ (rd t242 x8_2)) = false := jS c12
          clear c12
          have H' := jA H
          clear H
          obtain ⟨Ao21, co21, eo21⟩ := Kd.R_slice HO_7.out
          subst eo21
          have p245 : 0 ≤ (x8_2 : Int) := jB za
          have q245 : x8_2 < (t242.length : Int) := jB za
          obtain ⟨ad245, e245, hx245_0⟩ := jR (jO HO_7.out).2.2 x8_2 p245 q245
          cases e245
          replace p245 := eq_true p245
          replace q245 := eq_true q245
          go_wp2
          go_roundg k2
          case measure => have := HK1.out; have := HK2.out; omega
          case rel => exact ⟨(x5_2), (wrap64 (x8_2 + 1)), zz, H', ⟨by have := HK1.out; have := HK2.out; omega⟩, ⟨zo HO_5⟩, ⟨zo HO_7⟩, ⟨zb0 HB⟩⟩
        ·rw [if_neg c11] at H
         exact absurd H (by simp)
       ·rw [if_neg c10] at H
        have c10b0 : decide (x8_2 < (t242.length : Int)) = false := jS c10
        clear c10
        have H' := jA H
        clear H
        obtain ⟨Ao22, co22, eo22⟩ := Kd.R_slice HO_7.out
        subst eo22
        go_wp2
        go_roundg k2
        case measure => have := HK1.out; have := HK2.out; omega
        case rel => exact ⟨(x5_2), (wrap64 (x6_1 + 1)), zz, H', ⟨by have := HK1.out; have := HK2.out; omega⟩, ⟨by (with_reducible repeat (first | apply ja | apply jZ | apply Kd.R_drew)); exact Kd.R_mono HO_5.out (fun _ hk => trivial)⟩, ⟨zb0 HB⟩⟩
    ·rw [if_neg c6] at H
     exact absurd H (by simp)
   ·rw [if_neg c5] at H
    have c5b0 : decide (x6_1 < (x5_1.length : Int)) = false := jS c5
    clear c5
    obtain ⟨y252, hy252⟩ : ∃ y_ : List Int, y_ = (([] : List Int)) := ⟨_, rfl⟩
    replace H : (spec_l25Reached.l2 k1 x5_1 y252 0) = some r := by first | (rw [hy252]; with_reducible exact H) | (have H2_ := (Option.bind_some _ _).symm.trans H; rw [hy252]; with_reducible exact H2_) | (have H2_ := (Option.bind_some _ _).symm.trans H; with_reducible exact H2_) | with_reducible exact H | (rw [hy252]; exact H) | exact H
    have Ny252 := jA hy252
    clear hy252
    have H' := jA H
    clear H
    obtain ⟨Ao23, co23, eo23⟩ := Kd.R_slice HO_5.out
    subst eo23
    go_wp2_with (first | ((with_reducible refine jJ (N := 52) rfl ?_); refine Kd.R_lit (Kd.int .i64) _ 2 ?hg (N := 52) ?hd (xs := ([] : List Int)) (inner := []) (ok := fun _ => True) (okp := fun _ => True) ?hr ?hp (fun _ hk => hk) trivial (Below.refl _ _) (Nat.le_refl _) (by simp) ?_; (case hd => rfl); (case hg => rfl); (case hr => first | (go_simp; done) | (go_simp; rfl)); (case hp => exact (Reps.none _ _)); intro v253 w24 ho25 hb hg_ hnew_; clear hg_ hnew_; (first | rw [← Ny252.out] at ho25 | (simp only [Int.reduceToNat] at ho25; rw [← Ny252.out] at ho25)); have HO254 := jA (jX (Kd.R_new' ho25 (Kd.R_lt (zo HO_5))) (jT (zb0 HB))); replace HO_5 := jA (Kd.R_elder' (zo HO_5) (Kd.R_base ho25) hb); replace HB := zS0 HB hb; clear hb ho25))
    go_loopg [9, 10] k1 (fun kq v9 v10 w' => ∃ (x9_2 : List Int) (x10_2 : Int), v10 = .int .i64 x10_2 ∧ Aside0 (spec_l25Reached.l2 kq x5_1 x9_2 x10_2 = some r) ∧ Aside0 (kq ≤ k1) ∧ Aside0 (Kd.R (Kd.int .i64) 2 w' w.heap.size (fun k_ => some k_ ≠ (v9 : Value).ownBlock) (.slice Ao23 x5_1.length co23) x5_1) ∧ Aside0 (Kd.R (Kd.int .i64) 2 w' w.heap.size (fun k_ => some k_ ≠ ((.slice Ao23 x5_1.length co23) : Value).ownBlock) v9 x9_2) ∧ Aside0 (Below w.heap.size w w'))
    case atStart => exact ⟨(y252), (0), zz, H', ⟨Nat.le_refl _⟩, ⟨by (with_reducible repeat (first | apply ja | apply jZ | apply Kd.R_drew)); exact Kd.R_mono HO_5.out (fun _ hk => hk.2)⟩, ⟨by (with_reducible repeat (first | apply ja | apply jZ | apply Kd.R_drew)); exact Kd.R_mono HO254.out (fun _ hk => hk.2)⟩, ⟨zb0 HB⟩⟩
    case round =>
     clear H'
     try clear c1
     try clear p2
     try clear q2
     try clear hx2
     try clear c5
     try clear c5b0
     try clear c6
     try clear c6b0
     try clear p6
     try clear c7
     try clear c10
     try clear c10b0
     try clear c11
     try clear c11b0
     try clear c12
     try clear c12b0
     try clear c14
     try clear c17
     try clear p24
     try clear q24
     try clear hx24
     try clear hx241_0
     try clear hx245_0
     try clear hx246_0
     try clear hx248_0
     try clear p2
     try clear p241
     try clear p245
     try clear p246
     try clear p248
     try clear q2
     try clear q241
     try clear q245
     try clear q246
     try clear q248
     obtain ⟨x9_2, x10_2, rfl, HA, HK2, HO_5, HO_9, HB⟩ := hrel
     cases gk with
     | zero => exact absurd HA.out (by simp [spec_l25Reached.l2])
     | succ k2 =>
      have H := HA.out
      clear HA
      simp only [spec_l25Reached.l2] at H
      by_cases c26 : x10_2 < (x5_1.length : Int)
      ·rw [if_pos c26] at H
       have c26b0 : decide (x10_2 < (x5_1.length : Int)) = true := jI c26
       clear c26
       by_cases c27 : 0 ≤ x10_2
       ·rw [if_pos c27] at H
        have c27b0 : decide (0 ≤ x10_2) = true := jI c27
        clear c27
        replace H := jC.mp H
        obtain ⟨t256, A280, H⟩ := H
        replace H : (spec_l25Reached.l2 k2 x5_1 t256 (wrap64 (x10_2 + 1))) = some r := H
        have A28 := jA A280
        clear A280
        have H' := jA H
        clear H
        have p255 : 0 ≤ (x10_2 : Int) := jB za
        have q255 : x10_2 < (x5_1.length : Int) := jB za
        obtain ⟨ad255, e255, hx255_0⟩ := jR (jO HO_5.out).2.2 x10_2 p255 q255
        cases e255
        replace p255 := eq_true p255
        replace q255 := eq_true q255
        obtain ⟨Ao29, co29, eo29⟩ := Kd.R_slice HO_9.out
        subst eo29
        go_wp2_with (first | ((with_reducible refine jG (f := 88) rfl ?_); refine zL (some 64) Try.func88 #[.slice Ao29 x9_2.length co29, .int .i64 (rd x5_1 x10_2)] ?_; (with_reducible refine (spec_l03Insert.calls k2 (fun k_ => some k_ = (.slice Ao29 x9_2.length co29 : Value).ownBlock) (.slice Ao29 x9_2.length co29) x9_2 (rd x5_1 x10_2) t256 w _ ?side1 ?side2 A28.out).mono ?_); (case side1 => exact zr1 HB); (case side2 => exact Kd.R_tight rfl HO_9.out); rintro e w30 ⟨v257, rfl, ho0, hb, hkp⟩; refine ⟨_, rfl, ?_⟩; have HO258 := jA (Kd.R_mono (ok' := fun k_ => some k_ ≠ (.slice (some ad255) x5_1.length co23 : Value).ownBlock) ho0 (fun k_ hk_ => Or.elim hk_ (fun hs_ => fun e_ => (((HO_5.out).1 k_ e_.symm)) hs_) (fun hn_ => (Kd.fresh' (Kd.R_lt (zo HO_5)) k_ hn_)))); replace HO_5 := jA (Kd.R_mono (ok' := fun k_ => some k_ ≠ (v257 : Value).ownBlock) (Kd.R_keptB (HO_5.out) hkp (fun k_ hk_ hs_ => (hk_) hs_)) (fun k_ hk_ => fun e_ => Or.elim (ho0.1 k_ e_.symm) (fun hs_ => hk_.2.1 hs_) (fun hn_ => Nat.not_le.2 hk_.2.2 hn_))); replace HB := jA (hb); clear HO_9; (try clear hb); (try clear hkp); (try clear ho0)))
        go_roundg k2
        case measure => have := HK1.out; have := HK2.out; omega
        case rel => exact ⟨(t256), (wrap64 (x10_2 + 1)), zz, H', ⟨by have := HK1.out; have := HK2.out; omega⟩, ⟨zo HO_5⟩, ⟨zo HO258⟩, ⟨zb0 HB⟩⟩
       ·rw [if_neg c27] at H
        exact absurd H (by simp)
      ·rw [if_neg c26] at H
       have c26b0 : decide (x10_2 < (x5_1.length : Int)) = false := jS c26
       clear c26
       obtain rfl := jN H
       go_wp2
       go_ret
       exact ⟨_, ze, by (with_reducible repeat (first | apply ja | apply jZ | apply Kd.R_drew)); exact Kd.R_mono HO_9.out (fun _ hk => trivial), zb0 HB⟩

/-! ### spec_ReachedFrom: function 36 -/
def spec_ReachedFrom.f (k : Nat) (a0_0 : Bool) (a0_1 : Bool) (a0_2 : Bool) (a0_3 : Bool) (a0_4 : Bool) (a0_5 : Int) (l1 : List Int) : Option (List Int × Int) := (spec_l25Code.f k a0_0 a0_1 a0_2 a0_3 a0_4 a0_5 l1).bind fun t260 => (if t260 = 0 then ((spec_l25Number.f k a0_0 a0_1 a0_2 a0_3 a0_4 a0_5).bind fun t261 => ((spec_l25Reached.f k t261 l1).bind fun t262 => (some (t262, 0)))) else (some (([] : List Int), t260)))
theorem spec_ReachedFrom.mono : ∀ a0 a1 a2 a3 a4 a5 a6 k, LeO (spec_ReachedFrom.f k a0 a1 a2 a3 a4 a5 a6) (spec_ReachedFrom.f (k + 1) a0 a1 a2 a3 a4 a5 a6) := by
 intro a0 a1 a2 a3 a4 a5 a6 k
 unfold spec_ReachedFrom.f
 repeat' first
   | (with_reducible exact spec_l25Code.mono _ _ _ _ _ _ _ _)
   | (with_reducible exact spec_l25Number.mono _ _ _ _ _ _ _)
   | (with_reducible exact spec_l25Reached.mono _ _ _)
   | (with_reducible exact LeO.refl _)
   | (with_reducible exact LeO.none _)
   | (with_reducible refine LeO.ite ?_ ?_)
   | (with_reducible refine LeO.bind ?_ (fun _ => ?_))
   | exact spec_l25Code.mono _ _ _ _ _ _ _ _
   | exact spec_l25Number.mono _ _ _ _ _ _ _
   | exact spec_l25Reached.mono _ _ _
   | exact LeO.none _
   | refine LeO.ite ?_ ?_
   | refine LeO.bind ?_ (fun _ => ?_)
set_option maxHeartbeats 8000000 in
set_option maxRecDepth 100000 in
theorem spec_ReachedFrom.calls (k : Nat) (a0_0 : Bool) (a0_1 : Bool) (a0_2 : Bool) (a0_3 : Bool) (a0_4 : Bool) (a0_5 : Int) (A1 : Option Addr) (c1 : Nat) (l1 : List Int) (r1 : List Int) (r2 : Int) (w : World) (hr1 : Kd.C (Kd.int .i64) w A1 l1.length l1) (hc1 : l1.length ≤ c1) (h : spec_ReachedFrom.f k a0_0 a0_1 a0_2 a0_3 a0_4 a0_5 l1 = some (r1, r2)) :
  Calls Try.prog 36 #[.agg #[.bool a0_0, .bool a0_1, .bool a0_2, .bool a0_3, .bool a0_4, .int .i64 a0_5], .slice A1 l1.length c1] w fun e w' => ∃ v0_ : Value, e = .returned (.tuple #[v0_, .int .i64 r2]) ∧ Kd.R (Kd.int .i64) 2 w' w.heap.size (fun _ => True) v0_ r1 ∧ Below w.heap.size w w' := by
 have hu23 := Try.underlying23
 have HR1 := jA hr1
 have HC1 := jA hc1
 clear hr1 hc1
 have HB := jA (Below.refl w.heap.size w)
 have H := h
 unfold spec_ReachedFrom.f at H
 clear h
 replace H := jC.mp H
 obtain ⟨t260, A30, H⟩ := H
 try dsimp only at H
 have A3 := jA A30
 clear A30
 by_cases c4 : t260 = 0
 ·rw [if_pos c4] at H
  have c4b0 : (t260 == 0) = true := beq_iff_eq.mpr c4
  have c4b1 : (t260 != 0) = false := bne_eq_false_iff_eq.mpr c4
  clear c4
  replace H := jC.mp H
  obtain ⟨t261, A50, H⟩ := H
  try dsimp only at H
  have A5 := jA A50
  clear A50
  replace H := jC.mp H
  obtain ⟨t262, A60, H⟩ := H
  replace H : (some (t262, 0)) = some (r1, r2) := H
  have A6 := jA A60
  clear A60
  simp only [jH, jK] at H
  obtain ⟨rfl, rfl⟩ := H
  go_enter Try.func36, Try.ntmps36
  go_wp2_with (first | ((with_reducible refine jJ (N := 2) rfl ?_); refine zE 2 #[.bool a0_0, .bool a0_1, .bool a0_2, .bool a0_3, .bool a0_4, .int .i64 a0_5] 23 ?_; intro gb259 hg w7 hbox hb; have BK259 := jA (hbox); have GW259 := zg0 hg HB; have GE259 := zg0 hg HB; replace HB := zS0 HB hb; clear hb hbox hg; have hcz8 := zc6 BK259) | ((with_reducible refine jG (f := 70) rfl ?_); refine zL (some 9) Try.func70 #[.agg #[.bool a0_0, .bool a0_1, .bool a0_2, .bool a0_3, .bool a0_4, .int .i64 a0_5], .slice A1 l1.length c1] ?_; (with_reducible refine (spec_l25Code.calls k a0_0 a0_1 a0_2 a0_3 a0_4 a0_5 _ _ l1 t260 _ ?side1 ?side2 A3.out).mono ?_); (case side1 => exact zs HR1 HB); (case side2 => exact HC1.out); rintro e w9 ⟨rfl, hb⟩; refine ⟨_, rfl, ?_⟩; replace BK259 := zB BK259 hb; replace HB := zS1 HB GE259 hb; clear hb; have hcz10 := zc6 BK259) | ((with_reducible refine jG (f := 52) rfl ?_); refine zL (some 14) Try.func52 #[.agg #[.bool a0_0, .bool a0_1, .bool a0_2, .bool a0_3, .bool a0_4, .int .i64 a0_5]] ?_; (with_reducible refine (spec_l25Number.calls k a0_0 a0_1 a0_2 a0_3 a0_4 a0_5 t261 _ A5.out).mono ?_); rintro e w11 ⟨rfl, hb⟩; refine ⟨_, rfl, ?_⟩; replace BK259 := zB BK259 hb; replace HB := zS1 HB GE259 hb; clear hb) | ((with_reducible refine jG (f := 74) rfl ?_); refine zL (some 16) Try.func74 #[.int .i64 t261, .slice A1 l1.length c1] ?_; (with_reducible refine (spec_l25Reached.calls k t261 _ _ l1 t262 _ ?side1 ?side2 A6.out).mono ?_); (case side1 => exact zs HR1 HB); (case side2 => exact HC1.out); rintro e w12 ⟨v263, rfl, ho0, hb⟩; refine ⟨_, rfl, ?_⟩; have HO264 := jA (jX ho0 (jT (zb1 HB GE259))); replace BK259 := zB BK259 hb; replace HB := zS1 HB GE259 hb; (try clear hb); (try clear hb2); (try clear hk); (try clear hi); (try clear ho0)))
  go_ret2
  exact ⟨_, ze, zo HO264, zb1 HB GE259⟩
 ·rw [if_neg c4] at H
  have c4b0 : (t260 == 0) = false := beq_eq_false_iff_ne.mpr c4
  have c4b1 : (t260 != 0) = true := bne_iff_ne.mpr c4
  simp only [jH, jK] at H
  obtain ⟨rfl, rfl⟩ := H
  go_enter Try.func36, Try.ntmps36
  go_wp2_with (first | ((with_reducible refine jJ (N := 2) rfl ?_); refine zE 2 #[.bool a0_0, .bool a0_1, .bool a0_2, .bool a0_3, .bool a0_4, .int .i64 a0_5] 23 ?_; intro gb259 hg w13 hbox hb; have BK259 := jA (hbox); have GW259 := zg0 hg HB; have GE259 := zg0 hg HB; replace HB := zS0 HB hb; clear hb hbox hg; have hcz14 := zc6 BK259) | ((with_reducible refine jG (f := 70) rfl ?_); refine zL (some 9) Try.func70 #[.agg #[.bool a0_0, .bool a0_1, .bool a0_2, .bool a0_3, .bool a0_4, .int .i64 a0_5], .slice A1 l1.length c1] ?_; (with_reducible refine (spec_l25Code.calls k a0_0 a0_1 a0_2 a0_3 a0_4 a0_5 _ _ l1 t260 _ ?side1 ?side2 A3.out).mono ?_); (case side1 => exact zs HR1 HB); (case side2 => exact HC1.out); rintro e w15 ⟨rfl, hb⟩; refine ⟨_, rfl, ?_⟩; replace BK259 := zB BK259 hb; replace HB := zS1 HB GE259 hb; clear hb))
  go_ret2
  exact ⟨_, ze, by first | exact Kd.R_nil _ _ _ _ _ | exact Kd.N_nil _ _ _ _ _ | exact Kd.V_nil _ _ _ _ _ | exact Kd.Q_nil _ _ _ _ _ | exact Kd.S_nil _ _ _ _ _, zb1 HB GE259⟩

/-! ### spec_l01From: function 60 -/
def spec_l01From.l0 : Nat → List Int → Int → List Int → Int → Int → Option (List Int × Int × Int)
 | 0, _, _, _, _, _ => none
 | k + 1, x0, x4, x266000, x266001, x266002 => if x4 < (x0.length : Int) then (if x4 < 64 then (if 0 ≤ x4 then (spec_l01From.l0 k x0 (wrap64 (x4 + 1)) x266000 x266001 (Int.tmod (wrap64 ((wrap64 (x266002 * 83)) + (wrap64 (rd x0 x4)))) 2147483647)) else (none)) else (some (x266000, x266001, x266002))) else (some (x266000, x266001, x266002))
def spec_l01From.f (k : Nat) (l0 : List Int) : Option (List Int × Int × Int) := spec_l01From.l0 k l0 0 l0 0 61043
theorem spec_l01From.mono_l : ∀ k, (∀ y0 y1 y2 y3 y4, LeO (spec_l01From.l0 k y0 y1 y2 y3 y4) (spec_l01From.l0 (k + 1) y0 y1 y2 y3 y4))
 | 0 => fun _ _ _ _ _ r h => by simp [spec_l01From.l0] at h
 | k + 1 => by
  have ih0 := spec_l01From.mono_l k
  ·intro y0 y1 y2 y3 y4
   unfold spec_l01From.l0
   repeat' first
   | (with_reducible exact ih0 _ _ _ _ _)
   | (with_reducible exact LeO.refl _)
   | (with_reducible exact LeO.none _)
   | (with_reducible refine LeO.ite ?_ ?_)
   | (with_reducible refine LeO.bind ?_ (fun _ => ?_))
   | exact ih0 _ _ _ _ _
   | exact LeO.none _
   | refine LeO.ite ?_ ?_
   | refine LeO.bind ?_ (fun _ => ?_)
theorem spec_l01From.mono : ∀ a0 k, LeO (spec_l01From.f k a0) (spec_l01From.f (k + 1) a0) := by
 intro a0 k
 have ih0 := spec_l01From.mono_l k
 unfold spec_l01From.f
 repeat' first
   | (with_reducible exact ih0 _ _ _ _ _)
   | (with_reducible exact LeO.refl _)
   | (with_reducible exact LeO.none _)
   | (with_reducible refine LeO.ite ?_ ?_)
   | (with_reducible refine LeO.bind ?_ (fun _ => ?_))
   | exact ih0 _ _ _ _ _
   | exact LeO.none _
   | refine LeO.ite ?_ ?_
   | refine LeO.bind ?_ (fun _ => ?_)
def spec_l01From.T5 : Bool × List (List Nat × List Nat) := (true, [([], []), ([], []), ([1], [1]), ([2], [2]), ([3], [3]), ([4], [4]), ([], []), ([], []), ([6, 7], [6, 7]), ([8], [8]), ([9], [9]), ([5, 10], [5, 10]), ([11], [11]), ([0, 0, 1, 2, 3, 4, 5, 6, 7, 8, 9, 10, 11, 12], [0]), ([13, 0, 1, 2, 3, 4, 5, 6, 7, 8, 9, 10, 11, 12], [13]), ([14, 12, 0, 1, 2, 3, 4, 5, 6, 7, 8, 9, 10, 11, 12], [12, 14])])
def spec_l01From.B5 : List Nat := [0, 0, 2, 6, 14, 30, 0, 0, 192, 448, 960, 2046, 4094, 8191, 16383, 32767]
theorem spec_l01From.tab5 : rtab .any (opsOf Try.f60 5) = spec_l01From.T5 := by kernel_rfl
theorem spec_l01From.bits5 : waitsOk spec_l01From.T5.2 spec_l01From.B5 = true := by kernel_rfl
set_option maxHeartbeats 8000000 in
set_option maxRecDepth 100000 in
theorem spec_l01From.calls (k : Nat) (A0 : Option Addr) (c0 : Nat) (l0 : List Int) (r1 : List Int) (r2 : Int) (r3 : Int) (w0 w : World) (hB : Below w0.heap.size w0 w) (hr0 : Kd.C (Kd.int .u8) w0 A0 l0.length l0) (hc0 : l0.length ≤ c0) (h : spec_l01From.f k l0 = some (r1, r2, r3)) :
  Calls Try.prog 60 #[.slice A0 l0.length c0] w fun e w' => ∃ g_ : Nat, e = .returned (.pointer (some ⟨g_, 0, none⟩)) ∧ IsS95 w0 w' g_ r1 r2 r3 ∧ Below w0.heap.size w0 w' ∧ Below w.heap.size w w' := by
 have hu95 := Try.underlying95
 have HR0 := jA hr0
 have HC0 := jA hc0
 clear hr0 hc0
 have HBW := jA (Below.refl w.heap.size w)
 have HW0 := jA hB.size
 have HB := jA hB
 clear hB
 have H : (spec_l01From.l0 k l0 0 l0 0 61043) = some (r1, r2, r3) := h
 clear h
 have H' := jA H
 clear H
 go_enter Try.func60, Try.ntmps60
 go_wp2_with (first | ((with_reducible refine jJ (N := 7) rfl ?_); refine zE 7 #[.slice A0 l0.length c0, .int .i64 0, .int .i64 61043] 95 ?_; intro gb265 hg w2 hbox hb; replace HB := zS0 HB hb; have BK265 := jA (hbox); have GW265 := jA ((by rw [hg]; exact (jT (zr1 HBW)) : w.heap.size ≤ gb265)); have GE265 := jA ((Nat.le_trans HW0.out (by rw [hg]; exact (jT (zr1 HBW)) : w.heap.size ≤ gb265) : w0.heap.size ≤ gb265)); replace HBW := jA (jY HBW.out hb); clear hb hbox hg))
 go_loopg [4] k (fun kq v4 w' => ∃ (x4_1 : Int) (x266002_1 : Int), v4 = .int .i64 x4_1 ∧ Aside0 (spec_l01From.l0 kq l0 x4_1 l0 0 x266002_1 = some (r1, r2, r3)) ∧ Aside0 (kq ≤ k) ∧ Aside0 (w'.heap[gb265]? = some (.cells #[(.slice A0 l0.length c0), .int .i64 0, .int .i64 x266002_1] 95 (0, 0))) ∧ Aside0 (Below w0.heap.size w0 w') ∧ Aside0 (Below w.heap.size w w'))
 case atStart => exact ⟨(0), (61043), zz, H', ⟨Nat.le_refl _⟩, ⟨zk BK265⟩, ⟨zb1 HB GE265⟩, ⟨zr2 HBW GW265⟩⟩
 case round =>
  clear H'
  try clear p2
  obtain ⟨x4_1, x266002_1, rfl, HA, HK1, BK265, HB, HBW⟩ := hrel
  cases gk with
  | zero => exact absurd HA.out (by simp [spec_l01From.l0])
  | succ k1 =>
   have H := HA.out
   clear HA
   simp only [spec_l01From.l0] at H
   by_cases c3 : x4_1 < (l0.length : Int)
   ·rw [if_pos c3] at H
    have c3b0 : decide (x4_1 < (l0.length : Int)) = true := jI c3
    clear c3
    by_cases c4 : x4_1 < 64
    ·rw [if_pos c4] at H
     have c4b0 : decide (x4_1 < 64) = true := jI c4
     clear c4
     by_cases c5 : 0 ≤ x4_1
     ·rw [if_pos c5] at H
      have c5b0 : decide (0 ≤ x4_1) = true := jI c5
      clear c5
      have H' := jA H
      clear H
      try go_wp2
      have n0_ := jA (blk_drew BK265.out)
      have n1_ := jA (below_drew1 HB.out)
      have n2_ := jA (below_drew1 HBW.out)
      clear HBW
      have HBW := n2_
      clear n2_
      clear BK265
      clear HB
      have BK265 := n0_
      have HB := n1_
      clear n0_ n1_
      have p266 : 0 ≤ (x4_1 : Int) := jB za
      have q266 : x4_1 < (l0.length : Int) := jB za
      obtain ⟨ad266, e266, hx266_0⟩ := jR HR0.out x4_1 p266 q266
      have hw266_0 := hx266_0
      cases e266
      replace hx266_0 := pw_cell_below HB.out hx266_0
      replace p266 := eq_true p266
      replace q266 := eq_true q266
      refine start_ (n := 16) (S := fun w' => w'.cell? ⟨gb265, 0, none⟩ = some (.slice (some ad266) l0.length c0) ∧ w'.cell? ⟨gb265, 1, none⟩ = some (.int .i64 0) ∧ w'.cell? ⟨gb265, 2, none⟩ = some (.int .i64 x266002_1) ∧ w'.cell? (ad266.add (x4_1).toNat) = some (.int .u8 (rd l0 x4_1))) (ds := [15]) m16_0 zr rfl rfl ⟨(jL BK265.out 0).trans rfl, (jL BK265.out 1).trans rfl, (jL BK265.out 2).trans rfl, ((HB.out.cell (World.block_lt_of_cell? _ _ hw266_0)).trans hw266_0)⟩ (fun hHeld => ?_); refine with_tabW spec_l01From.tab5 spec_l01From.bits5 (fun HT_ HW_ => ?_)
      generalize wr.drew = w6 at BK265 HB HBW hx266_0 hHeld ⊢
      refine zp HT_ 0 18 m16_8000 ?_
      refine zp HT_ 1 19 m16_c000 ?_
      refine zp HT_ 2 20 m16_e000 ?_
      refine zp HT_ 3 21 m16_f000 ?_
      refine zp HT_ 6 24 m16_f200 ?_
      refine zp HT_ 7 25 m16_f300 ?_
      refine zp HT_ 8 26 m16_f380 ?_
      refine zt4 HT_ HW_ hHeld 4 22 m16_fb80 ?_
      refine zp HT_ 5 23 m16_ff80 ?_
      refine zt4 HT_ HW_ hHeld 9 27 m16_ffc0 ?_
      refine zp HT_ 10 28 m16_ffe0 ?_
      refine zp HT_ 11 29 m16_fff0 ?_
      refine zp HT_ 12 30 m16_fff8 ?_
      refine zp HT_ 13 31 m16_fffc ?_
      refine zp HT_ 14 32 m16_fffe ?_
      refine last_ (i := 15) (N := none) m16_ffff rfl rfl (one_of HT_.out zr) (by decide) (fun K hK => ?_)
      have hs7 : w6.cell? ⟨gb265, 2, none⟩ = some (.int .i64 x266002_1) := (jL BK265.out 2).trans rfl
      have hfs7 := jW BK265.out 2
      refine skip_ (w1 := ?_) (by rfl) rfl ?_ ?_
      rotate_left
      ·go_simp
       rfl
      refine hK.out _ _ ?_
      clear hK K
      refine done_ (done_of HT_.out zr) ?_
      try go_wp2
      go_roundg k1
      case measure => have := HK1.out; omega
      case rel => exact ⟨(wrap64 (x4_1 + 1)), (Int.tmod (wrap64 ((wrap64 (x266002_1 * 83)) + (wrap64 (rd l0 x4_1)))) 2147483647), zz, H', ⟨by have := HK1.out; omega⟩, ⟨zP0 BK265⟩, ⟨zb1 HB GE265⟩, ⟨zr2 HBW GW265⟩⟩
     ·rw [if_neg c5] at H
      exact absurd H (by simp)
    ·rw [if_neg c4] at H
     have c4b0 : decide (x4_1 < 64) = false := jS c4
     clear c4
     simp only [jH, jK] at H
     obtain ⟨rfl, rfl, rfl⟩ := H
     go_wp2
     go_ret
     exact ⟨_, rfl, (show IsS95 w0 _ gb265 l0 0 x266002_1 from ⟨_, _, zk BK265, GE265.out, HR0.out⟩), zb1 HB GE265, zr2 HBW GW265⟩
   ·rw [if_neg c3] at H
    have c3b0 : decide (x4_1 < (l0.length : Int)) = false := jS c3
    clear c3
    simp only [jH, jK] at H
    obtain ⟨rfl, rfl, rfl⟩ := H
    go_wp2
    go_ret
    exact ⟨_, rfl, (show IsS95 w0 _ gb265 l0 0 x266002_1 from ⟨_, _, zk BK265, GE265.out, HR0.out⟩), zb1 HB GE265, zr2 HBW GW265⟩

/-! ### spec_l01Next: function 62 -/
def spec_l01Next.f (s0_0 : List Int) (s0_1 : Int) (s0_2 : Int) (a1 : Int) : Option (Int × Int × Int) := if a1 ≤ 1 then (some (0, s0_1, s0_2)) else (if s0_1 < (s0_0.length : Int) then (if 0 ≤ s0_1 then (if a1 ≤ 256 then (if (Int.tmod (wrap64 (s0_1 + 1)) 2) = 0 then (if 0 ≤ (wrap64 ((wrap64 (s0_1 + 1)) - 1)) then (if (wrap64 ((wrap64 (s0_1 + 1)) - 1)) < (s0_0.length : Int) then (if a1 = 0 then (none) else (some (Int.tmod (wrap64 (rd s0_0 (wrap64 ((wrap64 (s0_1 + 1)) - 1)))) a1, wrap64 (s0_1 + 1), Int.tmod (wrap64 ((wrap64 (s0_2 * 48271)) + 29)) 2147483647))) else (none)) else (none)) else (if a1 = 0 then (none) else (some (Int.tmod (wrap64 ((wrap64 (Int.tdiv (Int.tmod (wrap64 ((wrap64 (s0_2 * 48271)) + 29)) 2147483647) 31)) + (wrap64 (rd s0_0 s0_1)))) a1, wrap64 (s0_1 + 1), Int.tmod (wrap64 ((wrap64 (s0_2 * 48271)) + 29)) 2147483647)))) else (if a1 = 0 then (none) else (some (Int.tmod (wrap64 ((wrap64 (Int.tdiv (Int.tmod (wrap64 ((wrap64 (s0_2 * 48271)) + 29)) 2147483647) 31)) + (wrap64 (rd s0_0 s0_1)))) a1, wrap64 (s0_1 + 1), Int.tmod (wrap64 ((wrap64 (s0_2 * 48271)) + 29)) 2147483647)))) else (none)) else (if a1 = 0 then (none) else (some (Int.tmod (wrap64 (Int.tdiv (Int.tmod (wrap64 ((wrap64 (s0_2 * 48271)) + 29)) 2147483647) 31)) a1, s0_1, Int.tmod (wrap64 ((wrap64 (s0_2 * 48271)) + 29)) 2147483647))))
set_option maxHeartbeats 8000000 in
set_option maxRecDepth 100000 in
theorem spec_l01Next.calls (g : Nat) (s0_0 : List Int) (s0_1 : Int) (s0_2 : Int) (a1 : Int) (r1 : Int) (r2 : Int) (r3 : Int) (w0 w : World) (hI : IsS95 w0 w g s0_0 s0_1 s0_2) (hB : Below w0.heap.size w0 w) (h : spec_l01Next.f s0_0 s0_1 s0_2 a1 = some (r1, r2, r3)) :
  Calls Try.prog 62 #[.pointer (some ⟨g, 0, none⟩), .int .i64 a1] w fun e w' => e = .returned (.int .i64 r1) ∧ IsS95 w0 w' g s0_0 r2 r3 ∧ Below w0.heap.size w0 w' ∧ KeepBut w w' g none := by
 have HI0 := jA hI
 have HK := jA (KeepBut.refl w g none)
 have HL := jA hB.size
 clear hI
 have HW0 := jA hB.size
 have HB := jA hB
 clear hB
 have H := h
 unfold spec_l01Next.f at H
 clear h
 by_cases c3 : a1 ≤ 1
 ·rw [if_pos c3] at H
  have c3b0 : decide (a1 ≤ 1) = true := jI c3
  clear c3
  simp only [jH, jK] at H
  obtain ⟨rfl, rfl, rfl⟩ := H
  go_enter Try.func62, Try.ntmps62
  go_wp2
  repeat (go_quiet (fail); try go_wp2)
  go_ret
  exact ⟨ze, zr3 HI0, zr4 HB HI0, zh0 HK⟩
 ·rw [if_neg c3] at H
  have c3b0 : decide (a1 ≤ 1) = false := jS c3
  clear c3
  by_cases c4 : s0_1 < (s0_0.length : Int)
  ·rw [if_pos c4] at H
   have c4b0 : decide (s0_1 < (s0_0.length : Int)) = true := jI c4
   clear c4
   by_cases c5 : 0 ≤ s0_1
   ·rw [if_pos c5] at H
    have c5b0 : decide (0 ≤ s0_1) = true := jI c5
    clear c5
    by_cases c6 : a1 ≤ 256
    ·rw [if_pos c6] at H
     have c6b0 : decide (a1 ≤ 256) = true := jI c6
     clear c6
     by_cases c7 : (Int.tmod (wrap64 (s0_1 + 1)) 2) = 0
     ·rw [if_pos c7] at H
      have c7b0 : ((Int.tmod (wrap64 (s0_1 + 1)) 2) == 0) = true := beq_iff_eq.mpr c7
      have c7b1 : ((Int.tmod (wrap64 (s0_1 + 1)) 2) != 0) = false := bne_eq_false_iff_eq.mpr c7
      clear c7
      obtain ⟨ji8, hji8⟩ : ∃ j_ : Int, (wrap64 ((wrap64 (s0_1 + 1)) - 1)) = j_ := ⟨_, rfl⟩
      replace H : (if 0 ≤ (ji8) then (if (ji8) < (s0_0.length : Int) then (if a1 = 0 then (none) else (some (Int.tmod (wrap64 (rd s0_0 (ji8))) a1, wrap64 (s0_1 + 1), Int.tmod (wrap64 ((wrap64 (s0_2 * 48271)) + 29)) 2147483647))) else (none)) else (none)) = some (r1, r2, r3) := by first | (rw [hji8] at H; exact H) | (simp only [hji8] at H ⊢; exact H)
      have hji8w : (IntKind.i64.wrap ((wrap64 (s0_1 + 1)) - 1)) = ji8 := (i64_w _).trans hji8
      by_cases c9 : 0 ≤ (ji8)
      ·rw [if_pos c9] at H
       have c9b0 : decide (0 ≤ (ji8)) = true := jI c9
       clear c9
       by_cases c10 : (ji8) < (s0_0.length : Int)
       ·rw [if_pos c10] at H
        have c10b0 : decide ((ji8) < (s0_0.length : Int)) = true := jI c10
        clear c10
        by_cases c11 : a1 = 0
        ·rw [if_pos c11] at H
         exact absurd H (by simp)
        ·rw [if_neg c11] at H
         have c11b0 : (a1 == 0) = false := beq_eq_false_iff_ne.mpr c11
         have c11b1 : (a1 != 0) = true := bne_iff_ne.mpr c11
         simp only [jH, jK] at H
         obtain ⟨rfl, rfl, rfl⟩ := H
         obtain ⟨ASz12_0, cSz12_0, HGz12, hgz12, HSz12_0⟩ := HI0.out
         have hcz12_0 := cellS95_0 HGz12
         have hcz12_1 := cellS95_1 HGz12
         have hcz12_2 := cellS95_2 HGz12
         have hfz12_1 := jW HGz12 1
         have hfz12_2 := jW HGz12 2
         clear HGz12 hgz12
         have p267 : 0 ≤ (s0_1 : Int) := jB za
         have q267 : s0_1 < (s0_0.length : Int) := jB za
         obtain ⟨ad267, e267, hx267_0⟩ := jR HSz12_0 s0_1 p267 q267
         cases e267
         have hn267_0 : ad267.block ≠ g := Nat.ne_of_lt (Nat.lt_of_lt_of_le (by have := World.block_lt_of_cell? _ _ hx267_0; first | rwa [jV] at this | exact this) (IsS95.ge HI0.out))
         replace hx267_0 := pw_cell_below HB.out hx267_0
         replace hx267_0 := (jM (p := ⟨g, 2, none⟩) (zf hn267_0) (.int .i64 (Int.tmod (wrap64 ((wrap64 (s0_2 * 48271)) + 29)) 2147483647))).trans hx267_0
         (try have hy267_0 := fun (n_ : Nat) => (show (((w.drewN n_).setCell ⟨g, 2, none⟩ (.int .i64 (Int.tmod (wrap64 ((wrap64 (s0_2 * 48271)) + 29)) 2147483647)))).cell? _ = some _ from hx267_0))
         clear hn267_0
         replace p267 := eq_true p267
         replace q267 := eq_true q267
         have p268 : 0 ≤ ((ji8) : Int) := jB za
         have q268 : (ji8) < (s0_0.length : Int) := jB za
         obtain ⟨ad268, e268, hx268_0⟩ := jR HSz12_0 (ji8) p268 q268
         obtain rfl : ad267 = ad268 := (by injection e268)
         have hn268_0 : ad267.block ≠ g := Nat.ne_of_lt (Nat.lt_of_lt_of_le (by have := World.block_lt_of_cell? _ _ hx268_0; first | rwa [jV] at this | exact this) (IsS95.ge HI0.out))
         have hn268_1 : ad267.block ≠ g := Nat.ne_of_lt (Nat.lt_of_lt_of_le (by have := World.block_lt_of_cell? _ _ hx268_0; first | rwa [jV] at this | exact this) (IsS95.ge HI0.out))
         replace hx268_0 := pw_cell_below HB.out hx268_0
         replace hx268_0 := (jM (p := ⟨g, 2, none⟩) (zf hn268_0) (.int .i64 (Int.tmod (wrap64 ((wrap64 (s0_2 * 48271)) + 29)) 2147483647))).trans hx268_0
         replace hx268_0 := (jM (p := ⟨g, 1, none⟩) (zf hn268_1) (.int .i64 (wrap64 (s0_1 + 1)))).trans hx268_0
         (try have hy268_0 := fun (n_ : Nat) => (show ((((w.drewN n_).setCell ⟨g, 2, none⟩ (.int .i64 (Int.tmod (wrap64 ((wrap64 (s0_2 * 48271)) + 29)) 2147483647))).setCell ⟨g, 1, none⟩ (.int .i64 (wrap64 (s0_1 + 1))))).cell? _ = some _ from hx268_0))
         (try have hv268_0 := fun (n_ : Nat) => (show ((((w.setCell ⟨g, 2, none⟩ (.int .i64 (Int.tmod (wrap64 ((wrap64 (s0_2 * 48271)) + 29)) 2147483647))).drewN n_).setCell ⟨g, 1, none⟩ (.int .i64 (wrap64 (s0_1 + 1))))).cell? _ = some _ from hx268_0))
         clear hn268_0
         clear hn268_1
         replace p268 := eq_true p268
         replace q268 := eq_true q268
         go_enter Try.func62, Try.ntmps62
         go_wp2
         repeat (go_quiet (fail); try go_wp2)
         go_ret
         exact ⟨by first | rfl | (simp [errW_none, errW_some] <;> rfl) | (simp only [← hji8]; first | rfl | (simp [errW_none, errW_some] <;> rfl)) | (simp [*, errW_none, errW_some] <;> rfl), zr3 HI0, zr4 HB HI0, zh0 HK⟩
       ·rw [if_neg c10] at H
        exact absurd H (by simp)
      ·rw [if_neg c9] at H
       exact absurd H (by simp)
     ·rw [if_neg c7] at H
      have c7b0 : ((Int.tmod (wrap64 (s0_1 + 1)) 2) == 0) = false := beq_eq_false_iff_ne.mpr c7
      have c7b1 : ((Int.tmod (wrap64 (s0_1 + 1)) 2) != 0) = true := bne_iff_ne.mpr c7
      by_cases c13 : a1 = 0
      ·rw [if_pos c13] at H
       exact absurd H (by simp)
      ·rw [if_neg c13] at H
       have c13b0 : (a1 == 0) = false := beq_eq_false_iff_ne.mpr c13
       have c13b1 : (a1 != 0) = true := bne_iff_ne.mpr c13
       simp only [jH, jK] at H
       obtain ⟨rfl, rfl, rfl⟩ := H
       obtain ⟨ASz14_0, cSz14_0, HGz14, hgz14, HSz14_0⟩ := HI0.out
       have hcz14_0 := cellS95_0 HGz14
       have hcz14_1 := cellS95_1 HGz14
       have hcz14_2 := cellS95_2 HGz14
       have hfz14_1 := jW HGz14 1
       have hfz14_2 := jW HGz14 2
       clear HGz14 hgz14
       have p267 : 0 ≤ (s0_1 : Int) := jB za
       have q267 : s0_1 < (s0_0.length : Int) := jB za
       obtain ⟨ad267, e267, hx267_0⟩ := jR HSz14_0 s0_1 p267 q267
       cases e267
       have hn267_0 : ad267.block ≠ g := Nat.ne_of_lt (Nat.lt_of_lt_of_le (by have := World.block_lt_of_cell? _ _ hx267_0; first | rwa [jV] at this | exact this) (IsS95.ge HI0.out))
       replace hx267_0 := pw_cell_below HB.out hx267_0
       replace hx267_0 := (jM (p := ⟨g, 2, none⟩) (zf hn267_0) (.int .i64 (Int.tmod (wrap64 ((wrap64 (s0_2 * 48271)) + 29)) 2147483647))).trans hx267_0
       (try have hy267_0 := fun (n_ : Nat) => (show (((w.drewN n_).setCell ⟨g, 2, none⟩ (.int .i64 (Int.tmod (wrap64 ((wrap64 (s0_2 * 48271)) + 29)) 2147483647)))).cell? _ = some _ from hx267_0))
       clear hn267_0
       replace p267 := eq_true p267
       replace q267 := eq_true q267
       go_enter Try.func62, Try.ntmps62
       go_wp2
       repeat (go_quiet (fail); try go_wp2)
       go_ret
       exact ⟨ze, zr3 HI0, zr4 HB HI0, zh0 HK⟩
    ·rw [if_neg c6] at H
     have c6b0 : decide (a1 ≤ 256) = false := jS c6
     clear c6
     by_cases c15 : a1 = 0
     ·rw [if_pos c15] at H
      exact absurd H (by simp)
     ·rw [if_neg c15] at H
      have c15b0 : (a1 == 0) = false := beq_eq_false_iff_ne.mpr c15
      have c15b1 : (a1 != 0) = true := bne_iff_ne.mpr c15
      simp only [jH, jK] at H
      obtain ⟨rfl, rfl, rfl⟩ := H
      obtain ⟨ASz16_0, cSz16_0, HGz16, hgz16, HSz16_0⟩ := HI0.out
      have hcz16_0 := cellS95_0 HGz16
      have hcz16_1 := cellS95_1 HGz16
      have hcz16_2 := cellS95_2 HGz16
      have hfz16_1 := jW HGz16 1
      have hfz16_2 := jW HGz16 2
      clear HGz16 hgz16
      have p267 : 0 ≤ (s0_1 : Int) := jB za
      have q267 : s0_1 < (s0_0.length : Int) := jB za
      obtain ⟨ad267, e267, hx267_0⟩ := jR HSz16_0 s0_1 p267 q267
      cases e267
      have hn267_0 : ad267.block ≠ g := Nat.ne_of_lt (Nat.lt_of_lt_of_le (by have := World.block_lt_of_cell? _ _ hx267_0; first | rwa [jV] at this | exact this) (IsS95.ge HI0.out))
      replace hx267_0 := pw_cell_below HB.out hx267_0
      replace hx267_0 := (jM (p := ⟨g, 2, none⟩) (zf hn267_0) (.int .i64 (Int.tmod (wrap64 ((wrap64 (s0_2 * 48271)) + 29)) 2147483647))).trans hx267_0
      (try have hy267_0 := fun (n_ : Nat) => (show (((w.drewN n_).setCell ⟨g, 2, none⟩ (.int .i64 (Int.tmod (wrap64 ((wrap64 (s0_2 * 48271)) + 29)) 2147483647)))).cell? _ = some _ from hx267_0))
      clear hn267_0
      replace p267 := eq_true p267
      replace q267 := eq_true q267
      go_enter Try.func62, Try.ntmps62
      go_wp2
      repeat (go_quiet (fail); try go_wp2)
      go_ret
      exact ⟨ze, zr3 HI0, zr4 HB HI0, zh0 HK⟩
   ·rw [if_neg c5] at H
    exact absurd H (by simp)
  ·rw [if_neg c4] at H
   have c4b0 : decide (s0_1 < (s0_0.length : Int)) = false := jS c4
   clear c4
   by_cases c17 : a1 = 0
   ·rw [if_pos c17] at H
    exact absurd H (by simp)
   ·rw [if_neg c17] at H
    have c17b0 : (a1 == 0) = false := beq_eq_false_iff_ne.mpr c17
    have c17b1 : (a1 != 0) = true := bne_iff_ne.mpr c17
    simp only [jH, jK] at H
    obtain ⟨rfl, rfl, rfl⟩ := H
    obtain ⟨ASz18_0, cSz18_0, HGz18, hgz18, HSz18_0⟩ := HI0.out
    have hcz18_0 := cellS95_0 HGz18
    have hcz18_1 := cellS95_1 HGz18
    have hcz18_2 := cellS95_2 HGz18
    have hfz18_1 := jW HGz18 1
    have hfz18_2 := jW HGz18 2
    clear HGz18 hgz18
    go_enter Try.func62, Try.ntmps62
    go_wp2
    repeat (go_quiet (fail); try go_wp2)
    go_ret
    exact ⟨ze, zr3 HI0, zr4 HB HI0, zh0 HK⟩

end Go.Proofs.Ythieppjmjgijfaa.PFnProofs
