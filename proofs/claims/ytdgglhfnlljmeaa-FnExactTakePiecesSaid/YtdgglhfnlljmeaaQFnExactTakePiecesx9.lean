/- Functions and contracts that FnExactTakePieces reaches (10 of 15). -/
import Derived.Test.YtdgglhfnlljmeaaQFnExactTakePiecesx8
namespace Go.Proofs.Ytdgglhfnlljmeaa.PFnExactTakePieces
open Go.RowKit Go.Proofs.YtdgglhfnlljmeaaW.PrintWords Go.Proofs.YtdgglhfnlljmeaaW.PrintLast Go.Proofs.YtdgglhfnlljmeaaW.PrintMore
attribute [local go_sem] max2_int min2_int max_two min_two max_three min_three max_four min_four   -- for this text's walks alone
set_option linter.unusedVariables false
set_option linter.unusedSimpArgs false
open Go.Proofs.YtdgglhfnlljmeaaX

/-! ### spec_l26With: function 72 -/
def spec_l26With.f (a0_0 : Int) (l0_1 : List Int) (a1 : Int) (a2 : Int) : Option (Int × List Int) := (spec_l01Own.f l0_1).bind fun t235 => (if 0 ≤ a1 then (if a1 < (t235.length : Int) then (some (a0_0, (t235.set (a1 : Int).toNat (wrap64 ((rd t235 a1) + a2))))) else (none)) else (none))
def spec_l26With.T1 : Bool × List (List Nat × List Nat) := (true, [([], []), ([0], [0]), ([], []), ([2], [2]), ([3], [3]), ([1, 4], [1, 4]), ([], []), ([6, 5, 4, 0, 1, 2, 3, 4, 5, 6], [5, 6])])
def spec_l26With.B1 : List Nat := [0, 1, 0, 4, 12, 31, 0, 127]
theorem spec_l26With.tab1 : rtab .any (opsOf Try.f72 1) = spec_l26With.T1 := by kernel_rfl
theorem spec_l26With.bits1 : waitsOk spec_l26With.T1.2 spec_l26With.B1 = true := by kernel_rfl
def spec_l26With.T2 : Bool × List (List Nat × List Nat) := (true, [([], []), ([0], [0]), ([], []), ([], []), ([3], [3]), ([], []), ([4, 5], [4, 5]), ([6], [6]), ([], []), ([7, 8], [7, 8]), ([1, 2, 0, 1, 2, 3, 4, 5, 6, 7, 8, 9], [1, 2]), ([10, 9, 0, 1, 2, 3, 4, 5, 6, 7, 8, 9], [9, 10])])
def spec_l26With.B2 : List Nat := [0, 1, 0, 0, 8, 0, 56, 120, 0, 504, 1023, 2047]
theorem spec_l26With.tab2 : rtab .any (opsOf Try.f72 2) = spec_l26With.T2 := by kernel_rfl
theorem spec_l26With.bits2 : waitsOk spec_l26With.T2.2 spec_l26With.B2 = true := by kernel_rfl
set_option maxHeartbeats 8000000 in
set_option maxRecDepth 100000 in
theorem spec_l26With.calls (a0_0 : Int) (A0_1 : Option Addr) (c0_1 : Nat) (l0_1 : List Int) (a1 : Int) (a2 : Int) (r1 : Int) (r2 : List Int) (w : World) (hr0_1 : Kd.C (Kd.int .i64) w A0_1 l0_1.length l0_1) (hc0_1 : l0_1.length ≤ c0_1) (h : spec_l26With.f a0_0 l0_1 a1 a2 = some (r1, r2)) :
  Calls Try.prog 72 #[.agg #[.int .i64 a0_0, .slice A0_1 l0_1.length c0_1], .int .i64 a1, .int .i64 a2] w fun e w' => ∃ v1_ : Value, e = .returned (.agg #[.int .i64 r1, v1_]) ∧ Kd.R (Kd.int .i64) 2 w' w.heap.size (fun _ => True) v1_ r2 ∧ Below w.heap.size w w' := by
 have hu28 := Try.underlying28
 have HR0_1 := jA hr0_1
 have HC0_1 := jA hc0_1
 clear hr0_1 hc0_1
 have HB := jA (Below.refl w.heap.size w)
 have H : ((spec_l01Own.f l0_1).bind fun t235 => (if 0 ≤ a1 then (if a1 < (t235.length : Int) then (some (a0_0, (t235.set (a1 : Int).toNat (wrap64 ((rd t235 a1) + a2))))) else (none)) else (none))) = some (r1, r2) := h
 clear h
 replace H := jL.mp H
 obtain ⟨t235, A40, H⟩ := H
 replace H : (if 0 ≤ a1 then (if a1 < (t235.length : Int) then (some (a0_0, (t235.set (a1 : Int).toNat (wrap64 ((rd t235 a1) + a2))))) else (none)) else (none)) = some (r1, r2) := H
 have A4 := jA A40
 clear A40
 by_cases c5 : 0 ≤ a1
 ·rw [if_pos c5] at H
  have c5b0 : decide (0 ≤ a1) = true := jN c5
  clear c5
  by_cases c6 : a1 < (t235.length : Int)
  ·rw [if_pos c6] at H
   have c6b0 : decide (a1 < (t235.length : Int)) = true := jN c6
   clear c6
   obtain ⟨y240, hy240⟩ : ∃ y_ : List Int, y_ = (t235.set (a1 : Int).toNat (wrap64 ((rd t235 a1) + a2))) := ⟨_, rfl⟩
   replace H : (some (a0_0, y240)) = some (r1, r2) := by first | (rw [hy240]; with_reducible exact H) | (have H2_ := (Option.bind_some _ _).symm.trans H; rw [hy240]; with_reducible exact H2_) | (have H2_ := (Option.bind_some _ _).symm.trans H; with_reducible exact H2_) | with_reducible exact H | (rw [hy240]; exact H) | exact H
   have Ny240 := jA hy240
   clear hy240
   simp only [Option.some.injEq, Prod.mk.injEq] at H
   obtain ⟨rfl, rfl⟩ := H
   go_enter Try.func72, Try.ntmps72
   try go_wp2_with (first | ((with_reducible refine jT (N := 3) rfl ?_); refine jR ?hg (N := 3) ?hd (cs := #[.int .i64 a0_0, .slice A0_1 l0_1.length c0_1]) (t := 28) ?hr ?_; (case hd => rfl); (case hg => rfl); (case hr => first | (go_simp; done) | (go_simp; rfl)); intro gb233 hg w8 hbox hb; have n0_ := jA (jG (zb0 HB) hb); have n1_ := jA (hbox); have n2_ := jA ((by rw [hg]; exact (jF (zb0 HB)) : w.heap.size ≤ gb233)); have n3_ := jA ((by rw [hg]; exact (jF (zb0 HB)) : w.heap.size ≤ gb233)); clear HB; have HB := n0_; have BK233 := n1_; have GW233 := n2_; have GE233 := n3_; clear n0_ n1_ n2_ n3_; clear hb hbox hg) | ((with_reducible refine jT (N := 6) rfl ?_); refine jR ?hg (N := 6) ?hd (cs := #[.int .i64 0, .slice none 0 0]) (t := 28) ?hr ?_; (case hd => rfl); (case hg => rfl); (case hr => first | (go_simp; done) | (go_simp; rfl)); intro gb234 hg w9 hbox hb; have n0_ := jA (jO (g := gb233) (o := .cells #[.int .i64 a0_0, .slice A0_1 l0_1.length c0_1] 28 (0, 0)) (zk BK233) hb); have n1_ := jA (jG (zb1 HB GE233) hb); have n2_ := jA (hbox); have n3_ := jA ((by rw [hg]; exact (jF (zb1 HB GE233)) : w.heap.size ≤ gb234)); have n4_ := jA ((by rw [hg]; exact (jF (zb1 HB GE233)) : w.heap.size ≤ gb234)); have n5_ := jA ((by rw [hg]; exact jW (blk_lt (g := gb233) (o := .cells #[.int .i64 a0_0, .slice A0_1 l0_1.length c0_1] 28 (0, 0)) (zk BK233)) : gb233 ≠ gb234)); have n6_ := jA n5_.out.symm; clear BK233; clear HB; have BK233 := n0_; have HB := n1_; have BK234 := n2_; have GW234 := n3_; have GE234 := n4_; have NB233_234 := n5_; have NB234_233 := n6_; clear n0_ n1_ n2_ n3_ n4_ n5_ n6_; clear hb hbox hg))
   have n0_ := jA (jK BK233.out)
   have n1_ := jA (jK BK234.out)
   have n2_ := jA (below_drew1 HB.out)
   clear BK233
   clear BK234
   clear HB
   have BK233 := n0_
   have BK234 := n1_
   have HB := n2_
   clear n0_ n1_ n2_
   refine start_ (n := 8) (S := fun w' => w'.cell? ⟨gb233, 0, none⟩ = some (.int .i64 a0_0) ∧ w'.cell? ⟨gb233, 1, none⟩ = some (.slice A0_1 l0_1.length c0_1)) (ds := []) m8_0 zr rfl rfl ⟨(jD BK233.out 0).trans rfl, (jD BK233.out 1).trans rfl⟩ (fun hHeld => ?_); refine with_tabW spec_l26With.tab1 spec_l26With.bits1 (fun HT_ HW_ => ?_)
   generalize w9.drew = w10 at BK233 BK234 HB hHeld ⊢
   refine zp HT_ 0 8 m8_80 ?_
   refine zp HT_ 2 10 m8_a0 ?_
   refine zt2 HT_ HW_ hHeld 1 9 m8_e0 ?_
   refine zt2 HT_ HW_ hHeld 3 11 m8_f0 ?_
   refine join_ (σ := Value × Nat) 1 m8_fe (fun s_ => [(12, s_.1), (7, .pointer (some ⟨s_.2, 0, none⟩)), (13, .agg #[.int .i64 a0_0, s_.1])]) (fun s_ w' => (w'.cell? ⟨gb233, 0, none⟩ = some (.int .i64 a0_0) ∧ w'.cell? ⟨gb233, 1, none⟩ = some (.slice A0_1 l0_1.length c0_1)) ∧ (Kd.R (Kd.int .i64) 2 w' w.heap.size (fun _ => True) s_.1 t235) ∧ (w'.heap[gb233]? = some (.cells #[.int .i64 a0_0, .slice A0_1 l0_1.length c0_1] 28 (0, 0))) ∧ (w'.heap[gb234]? = some (.cells #[.int .i64 0, .slice none 0 0] 28 (0, 0))) ∧ (w'.heap[s_.2]? = some (.cells #[.int .i64 0, .slice none 0 0] 28 (0, 0))) ∧ (w.heap.size ≤ s_.2) ∧ (w.heap.size ≤ s_.2) ∧ (gb233 ≠ s_.2) ∧ (s_.2 ≠ gb233) ∧ (gb234 ≠ s_.2) ∧ (s_.2 ≠ gb234) ∧ (Below w.heap.size w w')) ?_ ?_
   rotate_left
   ·intro hCont
    refine two_ (i := 4) (j := 6) (Ni := some 12) (Nj := some 7) m8_f8 m8_f2 rfl rfl rfl rfl (two_of HT_.out zr) (by decide) (by decide) (fun K hK => ?_) (fun K hK => ?_)
    ·skip
     refine goes_ Try.func86 zr rfl #[.slice A0_1 l0_1.length c0_1] (by rfl) rfl rfl zm ?_
     with_reducible refine (spec_l01Own.calls _ _ l0_1 t235 _ ?side1 ?side2 A4.out).mono ?_
     (case side1 => exact zs HR0_1 HB)
     (case side2 => exact HC0_1.out)
     rintro e w11 ⟨v236, rfl, ho0, hb⟩
     refine ⟨_, rfl, ?_⟩
     have n0_ := jA (Kd.R_lower ho0 (jF (zb2 HB GE233 GE234)))
     have n1_ := jA (jO (g := gb233) (o := .cells #[.int .i64 a0_0, .slice A0_1 l0_1.length c0_1] 28 (0, 0)) (zk BK233) hb)
     have n2_ := jA (jO (g := gb234) (o := .cells #[.int .i64 0, .slice none 0 0] 28 (0, 0)) (zk BK234) hb)
     have n3_ := jA (jG (zb2 HB GE233 GE234) hb)
     clear BK233
     clear BK234
     clear HB
     have HO237 := n0_
     have BK233 := n1_
     have BK234 := n2_
     have HB := n3_
     clear n0_ n1_ n2_ n3_
     (try clear hb)
     (try clear hb2)
     (try clear hk)
     (try clear hi)
     (try clear ho0)
     obtain ⟨Ao12, co12, eo12⟩ := Kd.R_slice HO237.out
     (first | subst eo12 | (injection eo12 with f1_ f2_ f3_; have f4_ := f1_.symm; have f5_ := f3_.symm; clear f1_ f2_ f3_; subst f4_; subst f5_))
     refine hK.out _ _ ⟨(jD BK233.out 0).trans rfl, (jD BK233.out 1).trans rfl⟩ (fun hHeld => ?_)
     clear hK K
     refine norm_ (a' := ?_) ?_ ?_
     rotate_left
     ·show Act.put _ (some 12) _ = _
      simp only [Act.put, jM, jP, jQ, i64_w, i32_w]
      rfl
     refine zp HT_ 5 13 m8_fc ?_
     refine one_ (i := 6) (N := some 7) m8_fe rfl rfl (one_of HT_.out zr) (by decide) (fun K hK => ?_)
     refine box_step ?hg (N := 7) ?hd (cs := #[.int .i64 0, .slice none 0 0]) (t := 28) ?hr ?_; (case hd => rfl); (case hg => rfl); (case hr => first | (go_simp; done) | (go_simp; rfl))
     intro gb238 hg w13 hbox hb
     have n0_ := jA (Kd.R_below (zo HO237) hb)
     have n1_ := jA (jO (g := gb233) (o := .cells #[.int .i64 a0_0, .slice A0_1 l0_1.length c0_1] 28 (0, 0)) (zk BK233) hb)
     have n2_ := jA (jO (g := gb234) (o := .cells #[.int .i64 0, .slice none 0 0] 28 (0, 0)) (zk BK234) hb)
     have n3_ := jA (jG (zb2 HB GE233 GE234) hb)
     have n4_ := jA (hbox)
     have n5_ := jA ((by rw [hg]; exact (jF (zb2 HB GE233 GE234)) : w.heap.size ≤ gb238))
     have n6_ := jA ((by rw [hg]; exact (jF (zb2 HB GE233 GE234)) : w.heap.size ≤ gb238))
     have n7_ := jA ((by rw [hg]; exact jW (blk_lt (g := gb233) (o := .cells #[.int .i64 a0_0, .slice A0_1 l0_1.length c0_1] 28 (0, 0)) (zk BK233)) : gb233 ≠ gb238))
     have n8_ := jA ((by rw [hg]; exact Nat.ne_of_gt (blk_lt (g := gb233) (o := .cells #[.int .i64 a0_0, .slice A0_1 l0_1.length c0_1] 28 (0, 0)) (zk BK233)) : gb238 ≠ gb233))
     have n9_ := jA ((by rw [hg]; exact jW (blk_lt (g := gb234) (o := .cells #[.int .i64 0, .slice none 0 0] 28 (0, 0)) (zk BK234)) : gb234 ≠ gb238))
     have n10_ := jA ((by rw [hg]; exact Nat.ne_of_gt (blk_lt (g := gb234) (o := .cells #[.int .i64 0, .slice none 0 0] 28 (0, 0)) (zk BK234)) : gb238 ≠ gb234))
     clear HO237
     clear BK233
     clear BK234
     clear HB
     have HO237 := n0_
     have BK233 := n1_
     have BK234 := n2_
     have HB := n3_
     have BK238 := n4_
     have GW238 := n5_
     have GE238 := n6_
     have NB233_238 := n7_
     have NB238_233 := n8_
     have NB234_238 := n9_
     have NB238_234 := n10_
     clear n0_ n1_ n2_ n3_ n4_ n5_ n6_ n7_ n8_ n9_ n10_
     clear hb hbox hg
     refine hK.out _ _ ⟨(jD BK233.out 0).trans rfl, (jD BK233.out 1).trans rfl⟩ (fun hHeld => ?_)
     clear hK K
     refine norm_ (a' := ?_) ?_ ?_
     rotate_left
     ·show Act.put _ (some 7) _ = _
      simp only [Act.put, jM, jP, jQ, i64_w, i32_w]
      rfl
     exact norm_ (by simp only [putAll, Act.put, jM, jP, jQ]) (hCont (.slice Ao12 t235.length co12, gb238) _ ⟨hHeld, (zo HO237), (zk BK233), (zk BK234), (zk BK238), GW238.out, GE238.out, NB233_238.out, NB238_233.out, NB234_238.out, NB238_234.out, (zb3 HB GE233 GE234 GE238)⟩)
    ·skip
     refine box_step ?hg (N := 7) ?hd (cs := #[.int .i64 0, .slice none 0 0]) (t := 28) ?hr ?_; (case hd => rfl); (case hg => rfl); (case hr => first | (go_simp; done) | (go_simp; rfl))
     intro gb238 hg w11 hbox hb
     have n0_ := jA (jO (g := gb233) (o := .cells #[.int .i64 a0_0, .slice A0_1 l0_1.length c0_1] 28 (0, 0)) (zk BK233) hb)
     have n1_ := jA (jO (g := gb234) (o := .cells #[.int .i64 0, .slice none 0 0] 28 (0, 0)) (zk BK234) hb)
     have n2_ := jA (jG (zb2 HB GE233 GE234) hb)
     have n3_ := jA (hbox)
     have n4_ := jA ((by rw [hg]; exact (jF (zb2 HB GE233 GE234)) : w.heap.size ≤ gb238))
     have n5_ := jA ((by rw [hg]; exact (jF (zb2 HB GE233 GE234)) : w.heap.size ≤ gb238))
     have n6_ := jA ((by rw [hg]; exact jW (blk_lt (g := gb233) (o := .cells #[.int .i64 a0_0, .slice A0_1 l0_1.length c0_1] 28 (0, 0)) (zk BK233)) : gb233 ≠ gb238))
     have n7_ := jA ((by rw [hg]; exact Nat.ne_of_gt (blk_lt (g := gb233) (o := .cells #[.int .i64 a0_0, .slice A0_1 l0_1.length c0_1] 28 (0, 0)) (zk BK233)) : gb238 ≠ gb233))
     have n8_ := jA ((by rw [hg]; exact jW (blk_lt (g := gb234) (o := .cells #[.int .i64 0, .slice none 0 0] 28 (0, 0)) (zk BK234)) : gb234 ≠ gb238))
     have n9_ := jA ((by rw [hg]; exact Nat.ne_of_gt (blk_lt (g := gb234) (o := .cells #[.int .i64 0, .slice none 0 0] 28 (0, 0)) (zk BK234)) : gb238 ≠ gb234))
     clear BK233
     clear BK234
     clear HB
     have BK233 := n0_
     have BK234 := n1_
     have HB := n2_
     have BK238 := n3_
     have GW238 := n4_
     have GE238 := n5_
     have NB233_238 := n6_
     have NB238_233 := n7_
     have NB234_238 := n8_
     have NB238_234 := n9_
     clear n0_ n1_ n2_ n3_ n4_ n5_ n6_ n7_ n8_ n9_
     clear hb hbox hg
     refine hK.out _ _ ⟨(jD BK233.out 0).trans rfl, (jD BK233.out 1).trans rfl⟩ (fun hHeld => ?_)
     clear hK K
     refine norm_ (a' := ?_) ?_ ?_
     rotate_left
     ·show Act.put _ (some 7) _ = _
      simp only [Act.put, jM, jP, jQ, i64_w, i32_w]
      rfl
     refine one_ (i := 4) (N := some 12) m8_fa rfl rfl (one_of HT_.out zr) (by decide) (fun K hK => ?_)
     refine goes_ Try.func86 zr rfl #[.slice A0_1 l0_1.length c0_1] (by rfl) rfl rfl zm ?_
     with_reducible refine (spec_l01Own.calls _ _ l0_1 t235 _ ?side1 ?side2 A4.out).mono ?_
     (case side1 => exact zs HR0_1 HB)
     (case side2 => exact HC0_1.out)
     rintro e w12 ⟨v236, rfl, ho0, hb⟩
     refine ⟨_, rfl, ?_⟩
     have n0_ := jA (Kd.R_lower ho0 (jF (zb3 HB GE233 GE234 GE238)))
     have n1_ := jA (jO (g := gb233) (o := .cells #[.int .i64 a0_0, .slice A0_1 l0_1.length c0_1] 28 (0, 0)) (zk BK233) hb)
     have n2_ := jA (jO (g := gb234) (o := .cells #[.int .i64 0, .slice none 0 0] 28 (0, 0)) (zk BK234) hb)
     have n3_ := jA (jO (g := gb238) (o := .cells #[.int .i64 0, .slice none 0 0] 28 (0, 0)) (zk BK238) hb)
     have n4_ := jA (jG (zb3 HB GE233 GE234 GE238) hb)
     clear BK233
     clear BK234
     clear BK238
     clear HB
     have HO237 := n0_
     have BK233 := n1_
     have BK234 := n2_
     have BK238 := n3_
     have HB := n4_
     clear n0_ n1_ n2_ n3_ n4_
     (try clear hb)
     (try clear hb2)
     (try clear hk)
     (try clear hi)
     (try clear ho0)
     obtain ⟨Ao13, co13, eo13⟩ := Kd.R_slice HO237.out
     (first | subst eo13 | (injection eo13 with f1_ f2_ f3_; have f4_ := f1_.symm; have f5_ := f3_.symm; clear f1_ f2_ f3_; subst f4_; subst f5_))
     refine hK.out _ _ ⟨(jD BK233.out 0).trans rfl, (jD BK233.out 1).trans rfl⟩ (fun hHeld => ?_)
     clear hK K
     refine norm_ (a' := ?_) ?_ ?_
     rotate_left
     ·show Act.put _ (some 12) _ = _
      simp only [Act.put, jM, jP, jQ, i64_w, i32_w]
      rfl
     refine zp HT_ 5 13 m8_fe ?_
     exact norm_ (by simp only [putAll, Act.put, jM, jP, jQ]) (hCont (.slice Ao13 t235.length co13, gb238) _ ⟨hHeld, (zo HO237), (zk BK233), (zk BK234), (zk BK238), GW238.out, GE238.out, NB233_238.out, NB238_233.out, NB234_238.out, NB238_234.out, (zb3 HB GE233 GE234 GE238)⟩)
   rintro ⟨v236, gb238⟩ w14 ⟨hS_, h0_, h1_, h2_, h3_, h4_, h5_, h6_, h7_, h8_, h9_, h10_⟩
   have n0_ : Aside0 (Kd.R (Kd.int .i64) 2 w14 w.heap.size (fun _ => True) v236 t235) := ⟨h0_⟩
   have n1_ : Aside0 (w14.heap[gb233]? = some (.cells #[.int .i64 a0_0, .slice A0_1 l0_1.length c0_1] 28 (0, 0))) := ⟨h1_⟩
   have n2_ : Aside0 (w14.heap[gb234]? = some (.cells #[.int .i64 0, .slice none 0 0] 28 (0, 0))) := ⟨h2_⟩
   have n3_ : Aside0 (w14.heap[gb238]? = some (.cells #[.int .i64 0, .slice none 0 0] 28 (0, 0))) := ⟨h3_⟩
   have n4_ : Aside0 (w.heap.size ≤ gb238) := ⟨h4_⟩
   have n5_ : Aside0 (w.heap.size ≤ gb238) := ⟨h5_⟩
   have n6_ : Aside0 (gb233 ≠ gb238) := ⟨h6_⟩
   have n7_ : Aside0 (gb238 ≠ gb233) := ⟨h7_⟩
   have n8_ : Aside0 (gb234 ≠ gb238) := ⟨h8_⟩
   have n9_ : Aside0 (gb238 ≠ gb234) := ⟨h9_⟩
   have n10_ : Aside0 (Below w.heap.size w w14) := ⟨h10_⟩
   clear BK233
   clear BK234
   clear HB
   clear h0_ h1_ h2_ h3_ h4_ h5_ h6_ h7_ h8_ h9_ h10_
   have HO237 := n0_
   have BK233 := n1_
   have BK234 := n2_
   have BK238 := n3_
   have GW238 := n4_
   have GE238 := n5_
   have NB233_238 := n6_
   have NB238_233 := n7_
   have NB234_238 := n8_
   have NB238_234 := n9_
   have HB := n10_
   clear n0_ n1_ n2_ n3_ n4_ n5_ n6_ n7_ n8_ n9_ n10_
   have hHeld : w14.cell? ⟨gb233, 0, none⟩ = some (.int .i64 a0_0) ∧ w14.cell? ⟨gb233, 1, none⟩ = some (.slice A0_1 l0_1.length c0_1) := hS_
   obtain ⟨Ao15, co15, eo15⟩ := Kd.R_slice HO237.out
   (first | subst eo15 | (injection eo15 with f1_ f2_ f3_; have f4_ := f1_.symm; have f5_ := f3_.symm; clear f1_ f2_ f3_; subst f4_; subst f5_))
   refine norm_ (a' := ?_) ?_ ?_
   rotate_left
   ·simp only [putAll, Act.put, jM, jP, jQ]
    rfl
   refine one_ (i := 7) (N := none) m8_ff rfl rfl (one_of HT_.out zr) (by decide) (fun K hK => ?_)
   have hs16 : w14.cell? ⟨gb238, 0, none⟩ = some (.int .i64 0) := (jD BK238.out 0).trans rfl
   have hfs16 := jC BK238.out 0
   have hns16_0 := NB233_238.out
   have hns16_1 := NB234_238.out
   have hms16_0 := NB238_233.out
   have hms16_1 := NB238_234.out
   have hs17 : w14.cell? ⟨gb238, 1, none⟩ = some (.slice none 0 0) := (jD BK238.out 1).trans rfl
   have hfs17 := jC BK238.out 1
   have hns17_0 := NB233_238.out
   have hns17_1 := NB234_238.out
   have hms17_0 := NB238_233.out
   have hms17_1 := NB238_234.out
   refine skip_ (w1 := ?_) (by rfl) rfl ?_ ?_
   rotate_left
   ·go_simp
    rfl
   refine hK.out _ _ ⟨((cell_far (p := ⟨gb238, _, none⟩) NB233_238.out _).trans (((cell_far (p := ⟨gb238, _, none⟩) NB233_238.out _).trans (hHeld.1)))), ((cell_far (p := ⟨gb238, _, none⟩) NB233_238.out _).trans (((cell_far (p := ⟨gb238, _, none⟩) NB233_238.out _).trans (hHeld.2))))⟩ (fun hHeld => ?_)
   clear hK K
   refine done_ (done_of HT_.out zr) ?_
   try go_wp2
   have n0_ : Aside0 (Kd.R (Kd.int .i64) 2 ((w14.setCell ⟨gb238, 0, none⟩ (.int .i64 a0_0)).setCell ⟨gb238, 1, none⟩ (.slice Ao15 t235.length co15)) w.heap.size (fun _ => True) (.slice Ao15 t235.length co15) t235) := ⟨by (with_reducible repeat (first | apply Kd.R_alloc | apply Kd.R_drewN | apply Kd.R_drew)); exact Kd.R_mono (Kd.R_far (p := ⟨gb238, 1, none⟩) (Kd.R_far (p := ⟨gb238, 0, none⟩) (Kd.R_types HO237.out BK238.out (by decide)) (fun _ hk => hk.2) (.int .i64 a0_0)) (fun _ hk => hk.2) (.slice Ao15 t235.length co15)) (fun _ hk => trivial)⟩
   have n1_ : Aside0 (((w14.setCell ⟨gb238, 0, none⟩ (.int .i64 a0_0)).setCell ⟨gb238, 1, none⟩ (.slice Ao15 t235.length co15)).heap[gb233]? = some (.cells #[.int .i64 a0_0, .slice A0_1 l0_1.length c0_1] 28 (0, 0))) := ⟨by (with_reducible repeat (first | refine jI ?_ _ | refine jK ?_ | refine jJ ?_ _)); refine blk_far ?_ NB233_238.out _; (with_reducible repeat (first | refine jI ?_ _ | refine jK ?_ | refine jJ ?_ _)); refine blk_far ?_ NB233_238.out _; (with_reducible repeat (first | refine jI ?_ _ | refine jK ?_ | refine jJ ?_ _)); exact BK233.out⟩
   have n2_ : Aside0 (((w14.setCell ⟨gb238, 0, none⟩ (.int .i64 a0_0)).setCell ⟨gb238, 1, none⟩ (.slice Ao15 t235.length co15)).heap[gb234]? = some (.cells #[.int .i64 0, .slice none 0 0] 28 (0, 0))) := ⟨by (with_reducible repeat (first | refine jI ?_ _ | refine jK ?_ | refine jJ ?_ _)); refine blk_far ?_ NB234_238.out _; (with_reducible repeat (first | refine jI ?_ _ | refine jK ?_ | refine jJ ?_ _)); refine blk_far ?_ NB234_238.out _; (with_reducible repeat (first | refine jI ?_ _ | refine jK ?_ | refine jJ ?_ _)); exact BK234.out⟩
   have n3_ : Aside0 (((w14.setCell ⟨gb238, 0, none⟩ (.int .i64 a0_0)).setCell ⟨gb238, 1, none⟩ (.slice Ao15 t235.length co15)).heap[gb238]? = some (.cells #[.int .i64 a0_0, .slice Ao15 t235.length co15] 28 (0, 0))) := ⟨by (with_reducible repeat (first | refine jI ?_ _ | refine jK ?_ | refine jJ ?_ _)); refine jV (cs := #[.int .i64 a0_0, .slice none 0 0]) ?_ 1 _ rfl; (with_reducible repeat (first | refine jI ?_ _ | refine jK ?_ | refine jJ ?_ _)); refine jV (cs := #[.int .i64 0, .slice none 0 0]) ?_ 0 _ rfl; (with_reducible repeat (first | refine jI ?_ _ | refine jK ?_ | refine jJ ?_ _)); exact BK238.out⟩
   have n4_ : Aside0 (Below w.heap.size w ((w14.setCell ⟨gb238, 0, none⟩ (.int .i64 a0_0)).setCell ⟨gb238, 1, none⟩ (.slice Ao15 t235.length co15))) := ⟨zb3 HB GE233 GE234 GE238⟩
   (try clear HO237)
   (try clear BK233)
   (try clear BK234)
   (try clear BK238)
   (try clear HB)
   generalize ((w14.setCell ⟨gb238, 0, none⟩ (.int .i64 a0_0)).setCell ⟨gb238, 1, none⟩ (.slice Ao15 t235.length co15)) = w18 at n0_ n1_ n2_ n3_ n4_ ⊢
   have HO237 := n0_
   have BK233 := n1_
   have BK234 := n2_
   have BK238 := n3_
   have HB := n4_
   clear n0_ n1_ n2_ n3_ n4_
   have n0_ := jA (Kd.R_drew HO237.out)
   have n1_ := jA (jK BK233.out)
   have n2_ := jA (jK BK234.out)
   have n3_ := jA (jK BK238.out)
   have n4_ := jA (below_drew1 HB.out)
   clear HO237
   clear BK233
   clear BK234
   clear BK238
   clear HB
   have HO237 := n0_
   have BK233 := n1_
   have BK234 := n2_
   have BK238 := n3_
   have HB := n4_
   clear n0_ n1_ n2_ n3_ n4_
   have p239 : 0 ≤ (a1 : Int) := jE za
   have q239 : a1 < (t235.length : Int) := jE za
   obtain ⟨ad239, e239, hx239_0⟩ := Kd.at_int (Kd.R_reads' HO237.out).2.2 a1 p239 q239
   cases e239
   replace p239 := eq_true p239
   replace q239 := eq_true q239
   have p7 : 0 ≤ (a1 : Int) := jE za
   have q7 : (a1 : Int) < ((t235.length : Int) : Int) := jE za
   obtain ⟨go7, co7, eo7, gb7, gl7, cl7, HG7⟩ := Kd.R_form HO237.out (by omega)
   (first | cases eo7 | (injection eo7 with ea_ en_ ec_; (first | subst ea_ | (injection ea_ with ea_; subst ea_)); subst ec_; clear en_))
   have GB7 := jA gb7
   have GG7 := jA HG7
   clear gb7 gl7 HG7
   (first | simp only [add_plain] at hx239_0 | skip)
   obtain ⟨hx7_0, hf7_0⟩ := Kd.R_celln 0 HO237.out (a1 : Int) p7 q7
   replace p7 := eq_true p7
   replace q7 := eq_true q7
   have HP20 := Kd.R_putn HO237.out (a1 : Int) (wrap64 ((rd t235 a1) + a2))
   rw [← Ny240.out] at HP20
   have HQ20 := jA HP20
   clear HP20
   refine start_ (n := 12) (S := fun w' => w'.cell? ⟨gb238, 0, none⟩ = some (.int .i64 a0_0) ∧ w'.cell? ⟨gb238, 1, none⟩ = some (.slice (some ⟨go7, 0, none⟩) t235.length co15) ∧ w'.cell? ⟨go7, (a1).toNat, none⟩ = some (.int .i64 (rd t235 a1))) (ds := [11]) #[false, false, false, false, false, false, false, false, false, false, false, false] zr rfl rfl ⟨(jD BK238.out 0).trans rfl, (jD BK238.out 1).trans rfl, hx239_0⟩ (fun hHeld => ?_); refine with_tabW spec_l26With.tab2 spec_l26With.bits2 (fun HT_ HW_ => ?_)
   generalize w18.drew = w19 at HO237 BK233 BK234 BK238 HB GG7 HQ20 hf7_0 hx239_0 hx7_0 hHeld ⊢
   refine zp HT_ 0 14 #[true, false, false, false, false, false, false, false, false, false, false, false] ?_
   refine zp HT_ 2 16 #[true, false, true, false, false, false, false, false, false, false, false, false] ?_
   refine zp HT_ 3 17 #[true, false, true, true, false, false, false, false, false, false, false, false] ?_
   refine zp HT_ 5 19 #[true, false, true, true, false, true, false, false, false, false, false, false] ?_
   refine zp HT_ 8 22 #[true, false, true, true, false, true, false, false, true, false, false, false] ?_
   refine zt3 HT_ HW_ hHeld 1 15 #[true, true, true, true, false, true, false, false, true, false, false, false] ?_
   refine zt3 HT_ HW_ hHeld 4 18 #[true, true, true, true, true, true, false, false, true, false, false, false] ?_
   refine zp HT_ 6 20 #[true, true, true, true, true, true, true, false, true, false, false, false] ?_
   refine zt3 HT_ HW_ hHeld 7 21 #[true, true, true, true, true, true, true, true, true, false, false, false] ?_
   refine zp HT_ 9 23 #[true, true, true, true, true, true, true, true, true, true, false, false] ?_
   refine zp HT_ 10 24 #[true, true, true, true, true, true, true, true, true, true, true, false] ?_
   refine last_ (i := 11) (N := none) #[true, true, true, true, true, true, true, true, true, true, true, true] rfl rfl (one_of HT_.out zr) (by decide) (fun K hK => ?_)
   refine skip_ (w1 := ?_) (by rfl) rfl ?_ ?_
   rotate_left
   ·go_simp
    rfl
   refine hK.out _ _ ?_
   clear hK K
   refine done_ (done_of HT_.out zr) ?_
   have n0_ : Aside0 (Kd.R (Kd.int .i64) 2 (w19.setCell ⟨go7, (a1 : Int).toNat, none⟩ (.int .i64 (wrap64 ((rd t235 a1) + a2)))) w.heap.size (fun _ => True) (.slice (some ⟨go7, 0, none⟩) t235.length co15) y240) := ⟨by (with_reducible repeat (first | apply Kd.R_alloc | apply Kd.R_drewN | apply Kd.R_drew)); exact HQ20.out⟩
   have n1_ : Aside0 ((w19.setCell ⟨go7, (a1 : Int).toNat, none⟩ (.int .i64 (wrap64 ((rd t235 a1) + a2)))).heap[gb233]? = some (.cells #[.int .i64 a0_0, .slice A0_1 l0_1.length c0_1] 28 (0, 0))) := ⟨by (with_reducible repeat (first | refine jI ?_ _ | refine jK ?_ | refine jJ ?_ _)); refine blk_far ?_ (by have h_ := Kd.R_ne HO237.out BK233.out (by decide); intro e_; exact h_ (by rw [e_]; rfl)) _; (with_reducible repeat (first | refine jI ?_ _ | refine jK ?_ | refine jJ ?_ _)); exact BK233.out⟩
   have n2_ : Aside0 ((w19.setCell ⟨go7, (a1 : Int).toNat, none⟩ (.int .i64 (wrap64 ((rd t235 a1) + a2)))).heap[gb234]? = some (.cells #[.int .i64 0, .slice none 0 0] 28 (0, 0))) := ⟨by (with_reducible repeat (first | refine jI ?_ _ | refine jK ?_ | refine jJ ?_ _)); refine blk_far ?_ (by have h_ := Kd.R_ne HO237.out BK234.out (by decide); intro e_; exact h_ (by rw [e_]; rfl)) _; (with_reducible repeat (first | refine jI ?_ _ | refine jK ?_ | refine jJ ?_ _)); exact BK234.out⟩
   have n3_ : Aside0 ((w19.setCell ⟨go7, (a1 : Int).toNat, none⟩ (.int .i64 (wrap64 ((rd t235 a1) + a2)))).heap[gb238]? = some (.cells #[.int .i64 a0_0, .slice (some ⟨go7, 0, none⟩) t235.length co15] 28 (0, 0))) := ⟨by (with_reducible repeat (first | refine jI ?_ _ | refine jK ?_ | refine jJ ?_ _)); refine blk_far ?_ (by have h_ := Kd.R_ne HO237.out BK238.out (by decide); intro e_; exact h_ (by rw [e_]; rfl)) _; (with_reducible repeat (first | refine jI ?_ _ | refine jK ?_ | refine jJ ?_ _)); exact BK238.out⟩
   have n4_ : Aside0 (Below w.heap.size w (w19.setCell ⟨go7, (a1 : Int).toNat, none⟩ (.int .i64 (wrap64 ((rd t235 a1) + a2))))) := ⟨by repeat (first | (with_reducible first | exact HB.out | apply below_alloc | apply pw_below_drewN | apply below_drew1 | refine below_set ?_ GB7.out | refine below_set ?_ GE233.out | refine below_set ?_ GE234.out | refine below_set ?_ GE238.out) | exact HB.out)⟩
   (try clear HO237)
   (try clear BK233)
   (try clear BK234)
   (try clear BK238)
   (try clear HB)
   generalize (w19.setCell ⟨go7, (a1 : Int).toNat, none⟩ (.int .i64 (wrap64 ((rd t235 a1) + a2)))) = w21 at n0_ n1_ n2_ n3_ n4_ ⊢
   have HO237 := n0_
   have BK233 := n1_
   have BK234 := n2_
   have BK238 := n3_
   have HB := n4_
   clear n0_ n1_ n2_ n3_ n4_
   have hnb22 := NB238_233.out
   have hnc22 := NB233_238.out
   have hnb23 := NB238_234.out
   have hnc23 := NB234_238.out
   have hcz24_0 : w21.cell? ⟨gb238, 0, none⟩ = some (.int .i64 a0_0) := (jD BK238.out 0).trans rfl
   have hcz24_1 : w21.cell? ⟨gb238, 1, none⟩ = some (.slice (some ⟨go7, 0, none⟩) t235.length co15) := (jD BK238.out 1).trans rfl
   have hfz24_0 := jC BK238.out 0
   have hfz24_1 := jC BK238.out 1
   have hnb25 := NB234_233.out
   have hnc25 := NB233_234.out
   have hcz26_0 : w21.cell? ⟨gb234, 0, none⟩ = some (.int .i64 0) := (jD BK234.out 0).trans rfl
   have hcz26_1 : w21.cell? ⟨gb234, 1, none⟩ = some (.slice none 0 0) := (jD BK234.out 1).trans rfl
   have hfz26_0 := jC BK234.out 0
   have hfz26_1 := jC BK234.out 1
   try go_wp2
   refine bodyPost_ret (results_cell_row rfl _ _ gb234 28 #[.int .i64 a0_0, .slice (some ⟨go7, 0, none⟩) t235.length co15] (0, 0) _ rfl (by (with_reducible repeat (first | refine jI ?_ _ | refine jK ?_ | refine jJ ?_ _)); refine jV (cs := #[.int .i64 a0_0, .slice none 0 0]) ?_ 1 _ rfl; (with_reducible repeat (first | refine jI ?_ _ | refine jK ?_ | refine jJ ?_ _)); refine jV (cs := #[.int .i64 0, .slice none 0 0]) ?_ 0 _ rfl; (with_reducible repeat (first | refine jI ?_ _ | refine jK ?_ | refine jJ ?_ _)); exact BK234.out) Try.underlying28 rfl zr) rfl ?_
   exact ⟨_, by first | rfl | (simp [errW_none, errW_some] <;> rfl) | (simp [*, errW_none, errW_some] <;> rfl), by (with_reducible repeat (first | apply Kd.R_alloc | apply Kd.R_drewN | apply Kd.R_drew)); exact Kd.R_mono (Kd.R_far (p := ⟨gb234, 1, none⟩) (Kd.R_far (p := ⟨gb234, 0, none⟩) (Kd.R_types HO237.out BK234.out (by decide)) (fun _ hk => hk.2) (.int .i64 a0_0)) (fun _ hk => hk.2) (.slice (some ⟨go7, 0, none⟩) t235.length co15)) (fun _ hk => trivial), zb3 HB GE233 GE234 GE238⟩
  ·rw [if_neg c6] at H
   exact absurd H (by simp)
 ·rw [if_neg c5] at H
  exact absurd H (by simp)

end Go.Proofs.Ytdgglhfnlljmeaa.PFnExactTakePieces
