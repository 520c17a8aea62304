/- Functions and contracts that FnExactTakePieces reaches (11 of 15). -/
import Derived.Test.YtdgglhfnlljmeaaQFnExactTakePiecesx9
namespace Go.Proofs.Ytdgglhfnlljmeaa.PFnExactTakePieces
open Go.RowKit Go.Proofs.YtdgglhfnlljmeaaW.PrintWords Go.Proofs.YtdgglhfnlljmeaaW.PrintLast Go.Proofs.YtdgglhfnlljmeaaW.PrintMore
attribute [local go_sem] max2_int min2_int max_two min_two max_three min_three max_four min_four   -- for this text's walks alone
set_option linter.unusedVariables false
set_option linter.unusedSimpArgs false
open Go.Proofs.YtdgglhfnlljmeaaX

/-! ### spec_TakePieces: function 35 -/
def spec_TakePieces.f (k : Nat) (l0 : List (S65)) (a1_0 : Int) (l1_1 : List Int) (a2 : ByteArray) (a3 : Int) : Option (Int × List Int × Int) := (spec_l26Code.f k l0 a1_0 l1_1 a2 a3).bind fun t243 => (if t243 = 0 then ((spec_l03Find.f k l0 a2).bind fun t244 => ((spec_l26With.f a1_0 l1_1 t244 (wrap64 (-a3))).bind fun bt245 => ((spec_IsMagazine.f k l0 bt245.1 bt245.2).bind fun t250 => (if t250 = true then (some (bt245.1, bt245.2, 0)) else (some (0, ([] : List Int), 5)))))) else (some (0, ([] : List Int), t243)))
theorem spec_TakePieces.mono : ∀ a0 a1 a2 a3 a4 k, LeO (spec_TakePieces.f k a0 a1 a2 a3 a4) (spec_TakePieces.f (k + 1) a0 a1 a2 a3 a4) := by
 intro a0 a1 a2 a3 a4 k
 unfold spec_TakePieces.f
 repeat' first
   | (with_reducible exact spec_IsMagazine.mono _ _ _ _)
   | (with_reducible exact spec_l03Find.mono _ _ _)
   | (with_reducible exact spec_l26Code.mono _ _ _ _ _ _)
   | (with_reducible exact LeO.refl _)
   | (with_reducible exact LeO.none _)
   | (with_reducible refine LeO.ite ?_ ?_)
   | (with_reducible refine LeO.bind ?_ (fun _ => ?_))
   | exact spec_IsMagazine.mono _ _ _ _
   | exact spec_l03Find.mono _ _ _
   | exact spec_l26Code.mono _ _ _ _ _ _
   | exact LeO.none _
   | refine LeO.ite ?_ ?_
   | refine LeO.bind ?_ (fun _ => ?_)
def spec_TakePieces.T4 : Bool × List (List Nat × List Nat) := (true, [([], []), ([], []), ([], []), ([1, 2], [1, 2]), ([], []), ([4], [4]), ([0, 3, 5, 3], [0, 3, 5]), ([], []), ([7, 6, 6, 0, 1, 2, 3, 4, 5, 6, 7], [6, 7])])
def spec_TakePieces.B4 : List Nat := [0, 0, 0, 6, 0, 16, 63, 0, 255]
theorem spec_TakePieces.tab4 : rtab .any (opsOf Try.f35 4) = spec_TakePieces.T4 := by kernel_rfl
theorem spec_TakePieces.bits4 : waitsOk spec_TakePieces.T4.2 spec_TakePieces.B4 = true := by kernel_rfl
set_option maxHeartbeats 8000000 in
set_option maxRecDepth 100000 in
theorem spec_TakePieces.calls (k : Nat) (A0 : Option Addr) (c0 : Nat) (l0 : List (S65)) (a1_0 : Int) (A1_1 : Option Addr) (c1_1 : Nat) (l1_1 : List Int) (a2 : ByteArray) (a3 : Int) (r1 : Int) (r2 : List Int) (r3 : Int) (w : World) (hr0 : Kd.C k65 w A0 l0.length l0) (hc0 : l0.length ≤ c0) (hr1_1 : Kd.C (Kd.int .i64) w A1_1 l1_1.length l1_1) (hc1_1 : l1_1.length ≤ c1_1) (h : spec_TakePieces.f k l0 a1_0 l1_1 a2 a3 = some (r1, r2, r3)) :
  Calls Try.prog 35 #[.slice A0 l0.length c0, .agg #[.int .i64 a1_0, .slice A1_1 l1_1.length c1_1], .string a2, .int .i64 a3] w fun e w' => ∃ v1_ : Value, e = .returned (.tuple #[.agg #[.int .i64 r1, v1_], .int .i64 r3]) ∧ Kd.R (Kd.int .i64) 2 w' w.heap.size (fun _ => True) v1_ r2 ∧ Below w.heap.size w w' := by
 have hu28 := Try.underlying28
 have HR0 := jA hr0
 have HC0 := jA hc0
 clear hr0 hc0
 have HR1_1 := jA hr1_1
 have HC1_1 := jA hc1_1
 clear hr1_1 hc1_1
 have HB := jA (Below.refl w.heap.size w)
 have H : ((spec_l26Code.f k l0 a1_0 l1_1 a2 a3).bind fun t243 => (if t243 = 0 then ((spec_l03Find.f k l0 a2).bind fun t244 => ((spec_l26With.f a1_0 l1_1 t244 (wrap64 (-a3))).bind fun bt245 => ((spec_IsMagazine.f k l0 bt245.1 bt245.2).bind fun t250 => (if t250 = true then (some (bt245.1, bt245.2, 0)) else (some (0, ([] : List Int), 5)))))) else (some (0, ([] : List Int), t243)))) = some (r1, r2, r3) := h
 clear h
 replace H := jL.mp H
 obtain ⟨t243, A50, H⟩ := H
 replace H : (if t243 = 0 then ((spec_l03Find.f k l0 a2).bind fun t244 => ((spec_l26With.f a1_0 l1_1 t244 (wrap64 (-a3))).bind fun bt245 => ((spec_IsMagazine.f k l0 bt245.1 bt245.2).bind fun t250 => (if t250 = true then (some (bt245.1, bt245.2, 0)) else (some (0, ([] : List Int), 5)))))) else (some (0, ([] : List Int), t243))) = some (r1, r2, r3) := H
 have A5 := jA A50
 clear A50
 by_cases c6 : t243 = 0
 ·rw [if_pos c6] at H
  have c6b0 : (t243 == 0) = true := beq_iff_eq.mpr c6
  have c6b1 : (t243 != 0) = false := bne_eq_false_iff_eq.mpr c6
  clear c6
  replace H := jL.mp H
  obtain ⟨t244, A70, H⟩ := H
  replace H : ((spec_l26With.f a1_0 l1_1 t244 (wrap64 (-a3))).bind fun bt245 => ((spec_IsMagazine.f k l0 bt245.1 bt245.2).bind fun t250 => (if t250 = true then (some (bt245.1, bt245.2, 0)) else (some (0, ([] : List Int), 5))))) = some (r1, r2, r3) := H
  have A7 := jA A70
  clear A70
  replace H := jL.mp H
  obtain ⟨⟨t245, t246⟩, A80, H⟩ := H
  replace H : ((spec_IsMagazine.f k l0 t245 t246).bind fun t250 => (if t250 = true then (some (t245, t246, 0)) else (some (0, ([] : List Int), 5)))) = some (r1, r2, r3) := H
  have A8 := jA A80
  clear A80
  replace H := jL.mp H
  obtain ⟨t250, A90, H⟩ := H
  replace H : (if t250 = true then (some (t245, t246, 0)) else (some (0, ([] : List Int), 5))) = some (r1, r2, r3) := H
  have A9 := jA A90
  clear A90
  by_cases c10 : t250 = true
  ·subst c10
   have H1 : (some (t245, t246, 0)) = some (r1, r2, r3) := by rw [if_pos rfl] at H; exact H
   clear H
   have H := H1
   clear H1
   simp only [Option.some.injEq, Prod.mk.injEq] at H
   obtain ⟨rfl, rfl, rfl⟩ := H
   go_enter Try.func35, Try.ntmps35
   try go_wp2_with (first | ((with_reducible refine jT (N := 5) rfl ?_); refine jR ?hg (N := 5) ?hd (cs := #[.int .i64 a1_0, .slice A1_1 l1_1.length c1_1]) (t := 28) ?hr ?_; (case hd => rfl); (case hg => rfl); (case hr => first | (go_simp; done) | (go_simp; rfl)); intro gb241 hg w11 hbox hb; have n0_ := jA (jG (zb0 HB) hb); have n1_ := jA (hbox); have n2_ := jA ((by rw [hg]; exact (jF (zb0 HB)) : w.heap.size ≤ gb241)); have n3_ := jA ((by rw [hg]; exact (jF (zb0 HB)) : w.heap.size ≤ gb241)); clear HB; have HB := n0_; have BK241 := n1_; have GW241 := n2_; have GE241 := n3_; clear n0_ n1_ n2_ n3_; clear hb hbox hg) | ((with_reducible refine jT (N := 8) rfl ?_); refine jR ?hg (N := 8) ?hd (cs := #[.int .i64 0, .slice none 0 0]) (t := 28) ?hr ?_; (case hd => rfl); (case hg => rfl); (case hr => first | (go_simp; done) | (go_simp; rfl)); intro gb242 hg w12 hbox hb; have n0_ := jA (jO (g := gb241) (o := .cells #[.int .i64 a1_0, .slice A1_1 l1_1.length c1_1] 28 (0, 0)) (zk BK241) hb); have n1_ := jA (jG (zb1 HB GE241) hb); have n2_ := jA (hbox); have n3_ := jA ((by rw [hg]; exact (jF (zb1 HB GE241)) : w.heap.size ≤ gb242)); have n4_ := jA ((by rw [hg]; exact (jF (zb1 HB GE241)) : w.heap.size ≤ gb242)); have n5_ := jA ((by rw [hg]; exact jW (blk_lt (g := gb241) (o := .cells #[.int .i64 a1_0, .slice A1_1 l1_1.length c1_1] 28 (0, 0)) (zk BK241)) : gb241 ≠ gb242)); have n6_ := jA n5_.out.symm; clear BK241; clear HB; have BK241 := n0_; have HB := n1_; have BK242 := n2_; have GW242 := n3_; have GE242 := n4_; have NB241_242 := n5_; have NB242_241 := n6_; clear n0_ n1_ n2_ n3_ n4_ n5_ n6_; clear hb hbox hg; have hnb13 := NB241_242.out; have hnc13 := NB242_241.out; have hcz14_0 : w12.cell? ⟨gb241, 0, none⟩ = some (.int .i64 a1_0) := (jD BK241.out 0).trans rfl; have hcz14_1 : w12.cell? ⟨gb241, 1, none⟩ = some (.slice A1_1 l1_1.length c1_1) := (jD BK241.out 1).trans rfl; have hfz14_0 := jC BK241.out 0; have hfz14_1 := jC BK241.out 1) | ((with_reducible refine jS (f := 69) rfl ?_); refine goesL_ (some 16) rfl rfl Try.func69 zr rfl #[.slice A0 l0.length c0, .agg #[.int .i64 a1_0, .slice A1_1 l1_1.length c1_1], .string a2, .int .i64 a3] rfl zm ?_; (with_reducible refine (spec_l26Code.calls k _ _ l0 a1_0 _ _ l1_1 a2 a3 t243 _ ?side1 ?side2 ?side3 ?side4 A5.out).mono ?_); (case side1 => exact zs HR0 HB); (case side2 => exact HC0.out); (case side3 => exact zs HR1_1 HB); (case side4 => exact HC1_1.out); rintro e w15 ⟨rfl, hb⟩; refine ⟨_, rfl, ?_⟩; have n0_ := jA (jO (g := gb241) (o := .cells #[.int .i64 a1_0, .slice A1_1 l1_1.length c1_1] 28 (0, 0)) (zk BK241) hb); have n1_ := jA (jO (g := gb242) (o := .cells #[.int .i64 0, .slice none 0 0] 28 (0, 0)) (zk BK242) hb); have n2_ := jA (jG (zb2 HB GE241 GE242) hb); clear BK241; clear BK242; clear HB; have BK241 := n0_; have BK242 := n1_; have HB := n2_; clear n0_ n1_ n2_; (try clear hb); (try clear hb2); (try clear hk); (try clear hi)))
   have n0_ := jA (jK BK241.out)
   have n1_ := jA (jK BK242.out)
   have n2_ := jA (below_drew1 HB.out)
   clear BK241
   clear BK242
   clear HB
   have BK241 := n0_
   have BK242 := n1_
   have HB := n2_
   clear n0_ n1_ n2_
   refine start_ (n := 9) (S := fun w' => w'.cell? ⟨gb241, 0, none⟩ = some (.int .i64 a1_0) ∧ w'.cell? ⟨gb241, 1, none⟩ = some (.slice A1_1 l1_1.length c1_1)) (ds := []) m9_0 zr rfl rfl ⟨(jD BK241.out 0).trans rfl, (jD BK241.out 1).trans rfl⟩ (fun hHeld => ?_); refine with_tabW spec_TakePieces.tab4 spec_TakePieces.bits4 (fun HT_ HW_ => ?_)
   generalize w15.drew = w16 at BK241 BK242 HB hHeld ⊢
   refine zp HT_ 1 22 m9_80 ?_
   refine zp HT_ 2 23 m9_c0 ?_
   refine zp HT_ 4 25 m9_d0 ?_
   refine zp HT_ 5 26 m9_d8 ?_
   refine zt2 HT_ HW_ hHeld 0 21 m9_1d8 ?_
   refine join_ (σ := Value × Nat) 1 m9_1fe (fun s_ => [(24, .int .i64 t244), (27, .agg #[.int .i64 t245, s_.1]), (11, .pointer (some ⟨s_.2, 0, none⟩))]) (fun s_ w' => (w'.cell? ⟨gb241, 0, none⟩ = some (.int .i64 a1_0) ∧ w'.cell? ⟨gb241, 1, none⟩ = some (.slice A1_1 l1_1.length c1_1)) ∧ (Kd.R (Kd.int .i64) 2 w' w.heap.size (fun _ => True) s_.1 t246) ∧ (w'.heap[gb241]? = some (.cells #[.int .i64 a1_0, .slice A1_1 l1_1.length c1_1] 28 (0, 0))) ∧ (w'.heap[gb242]? = some (.cells #[.int .i64 0, .slice none 0 0] 28 (0, 0))) ∧ (w'.heap[s_.2]? = some (.cells #[.int .i64 0, .slice none 0 0] 28 (0, 0))) ∧ (w.heap.size ≤ s_.2) ∧ (w.heap.size ≤ s_.2) ∧ (gb241 ≠ s_.2) ∧ (s_.2 ≠ gb241) ∧ (gb242 ≠ s_.2) ∧ (s_.2 ≠ gb242) ∧ (Below w.heap.size w w')) ?_ ?_
   rotate_left
   ·intro hCont
    refine two_ (i := 3) (j := 7) (Ni := some 24) (Nj := some 11) m9_1f8 m9_1da rfl rfl rfl rfl (two_of HT_.out zr) (by decide) (by decide) (fun K hK => ?_) (fun K hK => ?_)
    ·skip
     refine goes_ Try.func73 zr rfl #[.slice A0 l0.length c0, .string a2] (by rfl) rfl rfl zm ?_
     with_reducible refine (spec_l03Find.calls k _ _ l0 a2 t244 _ ?side1 ?side2 A7.out).mono ?_
     (case side1 => exact zs HR0 HB)
     (case side2 => exact HC0.out)
     rintro e w' ⟨rfl, ⟨nd, rfl⟩⟩
     refine ⟨_, rfl, ?_⟩
     refine hK.out _ _ ⟨(jD BK241.out 0).trans rfl, (jD BK241.out 1).trans rfl⟩ (fun hHeld => ?_)
     clear hK K
     refine norm_ (a' := ?_) ?_ ?_
     rotate_left
     ·show Act.put _ (some 24) _ = _
      simp only [Act.put, jM, jP, jQ, i64_w, i32_w]
      rfl
     refine two_ (i := 6) (j := 7) (Ni := some 27) (Nj := some 11) m9_1fc m9_1fa rfl rfl rfl rfl (two_of HT_.out zr) (by decide) (by decide) (fun K hK => ?_) (fun K hK => ?_)
     ·skip
      refine goes_ Try.func72 zr rfl #[.agg #[.int .i64 a1_0, .slice A1_1 l1_1.length c1_1], .int .i64 t244, .int .i64 (wrap64 (-a3))] (by rfl) rfl rfl zm ?_
      with_reducible refine (spec_l26With.calls a1_0 _ _ l1_1 t244 (wrap64 (-a3)) t245 t246 _ ?side1 ?side2 A8.out).mono ?_
      (case side1 => repeat (first | exact HR1_1.out | exact (Kd.C_below HR1_1.out (zb2 HB GE241 GE242)) | (with_reducible refine Kd.C_alloc ?_ _) | (with_reducible refine Kd.C_drewN ?_ _) | (with_reducible refine Kd.C_drew ?_)))
      (case side2 => exact HC1_1.out)
      rintro e w17 ⟨v247, rfl, ho0, hb⟩
      refine ⟨_, rfl, ?_⟩
      have n0_ := jA (Kd.R_lower ho0 (jF (zb2 HB GE241 GE242)))
      have n1_ := jA (jO (g := gb241) (o := .cells #[.int .i64 a1_0, .slice A1_1 l1_1.length c1_1] 28 (0, 0)) (zk BK241) hb)
      have n2_ := jA (jO (g := gb242) (o := .cells #[.int .i64 0, .slice none 0 0] 28 (0, 0)) (zk BK242) hb)
      have n3_ := jA (jG (zb2 HB GE241 GE242) hb)
      clear BK241
      clear BK242
      clear HB
      have HO248 := n0_
      have BK241 := n1_
      have BK242 := n2_
      have HB := n3_
      clear n0_ n1_ n2_ n3_
      (try clear hb)
      (try clear hb2)
      (try clear hk)
      (try clear hi)
      (try clear ho0)
      refine hK.out _ _ ⟨(jD BK241.out 0).trans rfl, (jD BK241.out 1).trans rfl⟩ (fun hHeld => ?_)
      clear hK K
      refine norm_ (a' := ?_) ?_ ?_
      rotate_left
      ·show Act.put _ (some 27) _ = _
       simp only [Act.put, jM, jP, jQ, i64_w, i32_w]
       rfl
      refine one_ (i := 7) (N := some 11) m9_1fe rfl rfl (one_of HT_.out zr) (by decide) (fun K hK => ?_)
      refine box_step ?hg (N := 11) ?hd (cs := #[.int .i64 0, .slice none 0 0]) (t := 28) ?hr ?_; (case hd => rfl); (case hg => rfl); (case hr => first | (go_simp; done) | (go_simp; rfl))
      intro gb249 hg w18 hbox hb
      have n0_ := jA (Kd.R_below (zo HO248) hb)
      have n1_ := jA (jO (g := gb241) (o := .cells #[.int .i64 a1_0, .slice A1_1 l1_1.length c1_1] 28 (0, 0)) (zk BK241) hb)
      have n2_ := jA (jO (g := gb242) (o := .cells #[.int .i64 0, .slice none 0 0] 28 (0, 0)) (zk BK242) hb)
      have n3_ := jA (jG (zb2 HB GE241 GE242) hb)
      have n4_ := jA (hbox)
      have n5_ := jA ((by rw [hg]; exact (jF (zb2 HB GE241 GE242)) : w.heap.size ≤ gb249))
      have n6_ := jA ((by rw [hg]; exact (jF (zb2 HB GE241 GE242)) : w.heap.size ≤ gb249))
      have n7_ := jA ((by rw [hg]; exact jW (blk_lt (g := gb241) (o := .cells #[.int .i64 a1_0, .slice A1_1 l1_1.length c1_1] 28 (0, 0)) (zk BK241)) : gb241 ≠ gb249))
      have n8_ := jA ((by rw [hg]; exact Nat.ne_of_gt (blk_lt (g := gb241) (o := .cells #[.int .i64 a1_0, .slice A1_1 l1_1.length c1_1] 28 (0, 0)) (zk BK241)) : gb249 ≠ gb241))
      have n9_ := jA ((by rw [hg]; exact jW (blk_lt (g := gb242) (o := .cells #[.int .i64 0, .slice none 0 0] 28 (0, 0)) (zk BK242)) : gb242 ≠ gb249))
      have n10_ := jA ((by rw [hg]; exact Nat.ne_of_gt (blk_lt (g := gb242) (o := .cells #[.int .i64 0, .slice none 0 0] 28 (0, 0)) (zk BK242)) : gb249 ≠ gb242))
      clear HO248
      clear BK241
      clear BK242
      clear HB
      have HO248 := n0_
      have BK241 := n1_
      have BK242 := n2_
      have HB := n3_
      have BK249 := n4_
      have GW249 := n5_
      have GE249 := n6_
      have NB241_249 := n7_
      have NB249_241 := n8_
      have NB242_249 := n9_
      have NB249_242 := n10_
      clear n0_ n1_ n2_ n3_ n4_ n5_ n6_ n7_ n8_ n9_ n10_
      clear hb hbox hg
      refine hK.out _ _ ⟨(jD BK241.out 0).trans rfl, (jD BK241.out 1).trans rfl⟩ (fun hHeld => ?_)
      clear hK K
      refine norm_ (a' := ?_) ?_ ?_
      rotate_left
      ·show Act.put _ (some 11) _ = _
       simp only [Act.put, jM, jP, jQ, i64_w, i32_w]
       rfl
      exact norm_ (by simp only [putAll, Act.put, jM, jP, jQ]) (hCont (v247, gb249) _ ⟨hHeld, (zo HO248), (zk BK241), (zk BK242), (zk BK249), GW249.out, GE249.out, NB241_249.out, NB249_241.out, NB242_249.out, NB249_242.out, (zb3 HB GE241 GE242 GE249)⟩)
     ·skip
      refine box_step ?hg (N := 11) ?hd (cs := #[.int .i64 0, .slice none 0 0]) (t := 28) ?hr ?_; (case hd => rfl); (case hg => rfl); (case hr => first | (go_simp; done) | (go_simp; rfl))
      intro gb249 hg w17 hbox hb
      have n0_ := jA (jO (g := gb241) (o := .cells #[.int .i64 a1_0, .slice A1_1 l1_1.length c1_1] 28 (0, 0)) (zk BK241) hb)
      have n1_ := jA (jO (g := gb242) (o := .cells #[.int .i64 0, .slice none 0 0] 28 (0, 0)) (zk BK242) hb)
      have n2_ := jA (jG (zb2 HB GE241 GE242) hb)
      have n3_ := jA (hbox)
      have n4_ := jA ((by rw [hg]; exact (jF (zb2 HB GE241 GE242)) : w.heap.size ≤ gb249))
      have n5_ := jA ((by rw [hg]; exact (jF (zb2 HB GE241 GE242)) : w.heap.size ≤ gb249))
      have n6_ := jA ((by rw [hg]; exact jW (blk_lt (g := gb241) (o := .cells #[.int .i64 a1_0, .slice A1_1 l1_1.length c1_1] 28 (0, 0)) (zk BK241)) : gb241 ≠ gb249))
      have n7_ := jA ((by rw [hg]; exact Nat.ne_of_gt (blk_lt (g := gb241) (o := .cells #[.int .i64 a1_0, .slice A1_1 l1_1.length c1_1] 28 (0, 0)) (zk BK241)) : gb249 ≠ gb241))
      have n8_ := jA ((by rw [hg]; exact jW (blk_lt (g := gb242) (o := .cells #[.int .i64 0, .slice none 0 0] 28 (0, 0)) (zk BK242)) : gb242 ≠ gb249))
      have n9_ := jA ((by rw [hg]; exact Nat.ne_of_gt (blk_lt (g := gb242) (o := .cells #[.int .i64 0, .slice none 0 0] 28 (0, 0)) (zk BK242)) : gb249 ≠ gb242))
      clear BK241
      clear BK242
      clear HB
      have BK241 := n0_
      have BK242 := n1_
      have HB := n2_
      have BK249 := n3_
      have GW249 := n4_
      have GE249 := n5_
      have NB241_249 := n6_
      have NB249_241 := n7_
      have NB242_249 := n8_
      have NB249_242 := n9_
      clear n0_ n1_ n2_ n3_ n4_ n5_ n6_ n7_ n8_ n9_
      clear hb hbox hg
      refine hK.out _ _ ⟨(jD BK241.out 0).trans rfl, (jD BK241.out 1).trans rfl⟩ (fun hHeld => ?_)
      clear hK K
      refine norm_ (a' := ?_) ?_ ?_
      rotate_left
      ·show Act.put _ (some 11) _ = _
       simp only [Act.put, jM, jP, jQ, i64_w, i32_w]
       rfl
      refine one_ (i := 6) (N := some 27) m9_1fe rfl rfl (one_of HT_.out zr) (by decide) (fun K hK => ?_)
      refine goes_ Try.func72 zr rfl #[.agg #[.int .i64 a1_0, .slice A1_1 l1_1.length c1_1], .int .i64 t244, .int .i64 (wrap64 (-a3))] (by rfl) rfl rfl zm ?_
      with_reducible refine (spec_l26With.calls a1_0 _ _ l1_1 t244 (wrap64 (-a3)) t245 t246 _ ?side1 ?side2 A8.out).mono ?_
      (case side1 => exact zs HR1_1 HB)
      (case side2 => exact HC1_1.out)
      rintro e w18 ⟨v247, rfl, ho0, hb⟩
      refine ⟨_, rfl, ?_⟩
      have n0_ := jA (Kd.R_lower ho0 (jF (zb3 HB GE241 GE242 GE249)))
      have n1_ := jA (jO (g := gb241) (o := .cells #[.int .i64 a1_0, .slice A1_1 l1_1.length c1_1] 28 (0, 0)) (zk BK241) hb)
      have n2_ := jA (jO (g := gb242) (o := .cells #[.int .i64 0, .slice none 0 0] 28 (0, 0)) (zk BK242) hb)
      have n3_ := jA (jO (g := gb249) (o := .cells #[.int .i64 0, .slice none 0 0] 28 (0, 0)) (zk BK249) hb)
      have n4_ := jA (jG (zb3 HB GE241 GE242 GE249) hb)
      clear BK241
      clear BK242
      clear BK249
      clear HB
      have HO248 := n0_
      have BK241 := n1_
      have BK242 := n2_
      have BK249 := n3_
      have HB := n4_
      clear n0_ n1_ n2_ n3_ n4_
      (try clear hb)
      (try clear hb2)
      (try clear hk)
      (try clear hi)
      (try clear ho0)
      refine hK.out _ _ ⟨(jD BK241.out 0).trans rfl, (jD BK241.out 1).trans rfl⟩ (fun hHeld => ?_)
      clear hK K
      refine norm_ (a' := ?_) ?_ ?_
      rotate_left
      ·show Act.put _ (some 27) _ = _
       simp only [Act.put, jM, jP, jQ, i64_w, i32_w]
       rfl
      exact norm_ (by simp only [putAll, Act.put, jM, jP, jQ]) (hCont (v247, gb249) _ ⟨hHeld, (zo HO248), (zk BK241), (zk BK242), (zk BK249), GW249.out, GE249.out, NB241_249.out, NB249_241.out, NB242_249.out, NB249_242.out, (zb3 HB GE241 GE242 GE249)⟩)
    ·skip
     refine box_step ?hg (N := 11) ?hd (cs := #[.int .i64 0, .slice none 0 0]) (t := 28) ?hr ?_; (case hd => rfl); (case hg => rfl); (case hr => first | (go_simp; done) | (go_simp; rfl))
     intro gb249 hg w17 hbox hb
     have n0_ := jA (jO (g := gb241) (o := .cells #[.int .i64 a1_0, .slice A1_1 l1_1.length c1_1] 28 (0, 0)) (zk BK241) hb)
     have n1_ := jA (jO (g := gb242) (o := .cells #[.int .i64 0, .slice none 0 0] 28 (0, 0)) (zk BK242) hb)
     have n2_ := jA (jG (zb2 HB GE241 GE242) hb)
     have n3_ := jA (hbox)
     have n4_ := jA ((by rw [hg]; exact (jF (zb2 HB GE241 GE242)) : w.heap.size ≤ gb249))
     have n5_ := jA ((by rw [hg]; exact (jF (zb2 HB GE241 GE242)) : w.heap.size ≤ gb249))
     have n6_ := jA ((by rw [hg]; exact jW (blk_lt (g := gb241) (o := .cells #[.int .i64 a1_0, .slice A1_1 l1_1.length c1_1] 28 (0, 0)) (zk BK241)) : gb241 ≠ gb249))
     have n7_ := jA ((by rw [hg]; exact Nat.ne_of_gt (blk_lt (g := gb241) (o := .cells #[.int .i64 a1_0, .slice A1_1 l1_1.length c1_1] 28 (0, 0)) (zk BK241)) : gb249 ≠ gb241))
     have n8_ := jA ((by rw [hg]; exact jW (blk_lt (g := gb242) (o := .cells #[.int .i64 0, .slice none 0 0] 28 (0, 0)) (zk BK242)) : gb242 ≠ gb249))
     have n9_ := jA ((by rw [hg]; exact Nat.ne_of_gt (blk_lt (g := gb242) (o := .cells #[.int .i64 0, .slice none 0 0] 28 (0, 0)) (zk BK242)) : gb249 ≠ gb242))
     clear BK241
     clear BK242
     clear HB
     have BK241 := n0_
     have BK242 := n1_
     have HB := n2_
     have BK249 := n3_
     have GW249 := n4_
     have GE249 := n5_
     have NB241_249 := n6_
     have NB249_241 := n7_
     have NB242_249 := n8_
     have NB249_242 := n9_
     clear n0_ n1_ n2_ n3_ n4_ n5_ n6_ n7_ n8_ n9_
     clear hb hbox hg
     refine hK.out _ _ ⟨(jD BK241.out 0).trans rfl, (jD BK241.out 1).trans rfl⟩ (fun hHeld => ?_)
     clear hK K
     refine norm_ (a' := ?_) ?_ ?_
     rotate_left
     ·show Act.put _ (some 11) _ = _
      simp only [Act.put, jM, jP, jQ, i64_w, i32_w]
      rfl
     refine one_ (i := 3) (N := some 24) m9_1fa rfl rfl (one_of HT_.out zr) (by decide) (fun K hK => ?_)
     refine goes_ Try.func73 zr rfl #[.slice A0 l0.length c0, .string a2] (by rfl) rfl rfl zm ?_
     with_reducible refine (spec_l03Find.calls k _ _ l0 a2 t244 _ ?side1 ?side2 A7.out).mono ?_
     (case side1 => exact zs HR0 HB)
     (case side2 => exact HC0.out)
     rintro e w' ⟨rfl, ⟨nd, rfl⟩⟩
     refine ⟨_, rfl, ?_⟩
     refine hK.out _ _ ⟨(jD BK241.out 0).trans rfl, (jD BK241.out 1).trans rfl⟩ (fun hHeld => ?_)
     clear hK K
     refine norm_ (a' := ?_) ?_ ?_
     rotate_left
     ·show Act.put _ (some 24) _ = _
      simp only [Act.put, jM, jP, jQ, i64_w, i32_w]
      rfl
     refine one_ (i := 6) (N := some 27) m9_1fe rfl rfl (one_of HT_.out zr) (by decide) (fun K hK => ?_)
     refine goes_ Try.func72 zr rfl #[.agg #[.int .i64 a1_0, .slice A1_1 l1_1.length c1_1], .int .i64 t244, .int .i64 (wrap64 (-a3))] (by rfl) rfl rfl zm ?_
     with_reducible refine (spec_l26With.calls a1_0 _ _ l1_1 t244 (wrap64 (-a3)) t245 t246 _ ?side1 ?side2 A8.out).mono ?_
     (case side1 => repeat (first | exact HR1_1.out | exact (Kd.C_below HR1_1.out (zb3 HB GE241 GE242 GE249)) | (with_reducible refine Kd.C_alloc ?_ _) | (with_reducible refine Kd.C_drewN ?_ _) | (with_reducible refine Kd.C_drew ?_)))
     (case side2 => exact HC1_1.out)
     rintro e w18 ⟨v247, rfl, ho0, hb⟩
     refine ⟨_, rfl, ?_⟩
     have n0_ := jA (Kd.R_lower ho0 (jF (zb3 HB GE241 GE242 GE249)))
     have n1_ := jA (jO (g := gb241) (o := .cells #[.int .i64 a1_0, .slice A1_1 l1_1.length c1_1] 28 (0, 0)) (zk BK241) hb)
     have n2_ := jA (jO (g := gb242) (o := .cells #[.int .i64 0, .slice none 0 0] 28 (0, 0)) (zk BK242) hb)
     have n3_ := jA (jO (g := gb249) (o := .cells #[.int .i64 0, .slice none 0 0] 28 (0, 0)) (zk BK249) hb)
     have n4_ := jA (jG (zb3 HB GE241 GE242 GE249) hb)
     clear BK241
     clear BK242
     clear BK249
     clear HB
     have HO248 := n0_
     have BK241 := n1_
     have BK242 := n2_
     have BK249 := n3_
     have HB := n4_
     clear n0_ n1_ n2_ n3_ n4_
     (try clear hb)
     (try clear hb2)
     (try clear hk)
     (try clear hi)
     (try clear ho0)
     refine hK.out _ _ ⟨(jD BK241.out 0).trans rfl, (jD BK241.out 1).trans rfl⟩ (fun hHeld => ?_)
     clear hK K
     refine norm_ (a' := ?_) ?_ ?_
     rotate_left
     ·show Act.put _ (some 27) _ = _
      simp only [Act.put, jM, jP, jQ, i64_w, i32_w]
      rfl
     exact norm_ (by simp only [putAll, Act.put, jM, jP, jQ]) (hCont (v247, gb249) _ ⟨hHeld, (zo HO248), (zk BK241), (zk BK242), (zk BK249), GW249.out, GE249.out, NB241_249.out, NB249_241.out, NB242_249.out, NB249_242.out, (zb3 HB GE241 GE242 GE249)⟩)
   rintro ⟨v247, gb249⟩ w19 ⟨hS_, h0_, h1_, h2_, h3_, h4_, h5_, h6_, h7_, h8_, h9_, h10_⟩
   have n0_ : Aside0 (Kd.R (Kd.int .i64) 2 w19 w.heap.size (fun _ => True) v247 t246) := ⟨h0_⟩
   have n1_ : Aside0 (w19.heap[gb241]? = some (.cells #[.int .i64 a1_0, .slice A1_1 l1_1.length c1_1] 28 (0, 0))) := ⟨h1_⟩
   have n2_ : Aside0 (w19.heap[gb242]? = some (.cells #[.int .i64 0, .slice none 0 0] 28 (0, 0))) := ⟨h2_⟩
   have n3_ : Aside0 (w19.heap[gb249]? = some (.cells #[.int .i64 0, .slice none 0 0] 28 (0, 0))) := ⟨h3_⟩
   have n4_ : Aside0 (w.heap.size ≤ gb249) := ⟨h4_⟩
   have n5_ : Aside0 (w.heap.size ≤ gb249) := ⟨h5_⟩
   have n6_ : Aside0 (gb241 ≠ gb249) := ⟨h6_⟩
   have n7_ : Aside0 (gb249 ≠ gb241) := ⟨h7_⟩
   have n8_ : Aside0 (gb242 ≠ gb249) := ⟨h8_⟩
   have n9_ : Aside0 (gb249 ≠ gb242) := ⟨h9_⟩
   have n10_ : Aside0 (Below w.heap.size w w19) := ⟨h10_⟩
   clear BK241
   clear BK242
   clear HB
   clear h0_ h1_ h2_ h3_ h4_ h5_ h6_ h7_ h8_ h9_ h10_
   have HO248 := n0_
   have BK241 := n1_
   have BK242 := n2_
   have BK249 := n3_
   have GW249 := n4_
   have GE249 := n5_
   have NB241_249 := n6_
   have NB249_241 := n7_
   have NB242_249 := n8_
   have NB249_242 := n9_
   have HB := n10_
   clear n0_ n1_ n2_ n3_ n4_ n5_ n6_ n7_ n8_ n9_ n10_
   have hHeld : w19.cell? ⟨gb241, 0, none⟩ = some (.int .i64 a1_0) ∧ w19.cell? ⟨gb241, 1, none⟩ = some (.slice A1_1 l1_1.length c1_1) := hS_
   obtain ⟨Ao21, co21, eo21⟩ := Kd.R_slice HO248.out
   (first | subst eo21 | (injection eo21 with f1_ f2_ f3_; have f4_ := f1_.symm; have f5_ := f3_.symm; clear f1_ f2_ f3_; subst f4_; subst f5_))
   refine norm_ (a' := ?_) ?_ ?_
   rotate_left
   ·simp only [putAll, Act.put, jM, jP, jQ]
    rfl
   refine one_ (i := 8) (N := none) m9_1ff rfl rfl (one_of HT_.out zr) (by decide) (fun K hK => ?_)
   have hs20 : w19.cell? ⟨gb249, 0, none⟩ = some (.int .i64 0) := (jD BK249.out 0).trans rfl
   have hfs20 := jC BK249.out 0
   have hns20_0 := NB241_249.out
   have hns20_1 := NB242_249.out
   have hms20_0 := NB249_241.out
   have hms20_1 := NB249_242.out
   have hs22 : w19.cell? ⟨gb249, 1, none⟩ = some (.slice none 0 0) := (jD BK249.out 1).trans rfl
   have hfs22 := jC BK249.out 1
   have hns22_0 := NB241_249.out
   have hns22_1 := NB242_249.out
   have hms22_0 := NB249_241.out
   have hms22_1 := NB249_242.out
   refine skip_ (w1 := ?_) (by rfl) rfl ?_ ?_
   rotate_left
   ·go_simp
    rfl
   refine hK.out _ _ ⟨((cell_far (p := ⟨gb249, _, none⟩) NB241_249.out _).trans (((cell_far (p := ⟨gb249, _, none⟩) NB241_249.out _).trans (hHeld.1)))), ((cell_far (p := ⟨gb249, _, none⟩) NB241_249.out _).trans (((cell_far (p := ⟨gb249, _, none⟩) NB241_249.out _).trans (hHeld.2))))⟩ (fun hHeld => ?_)
   clear hK K
   refine done_ (done_of HT_.out zr) ?_
   have hnb23 := NB249_241.out
   have hnc23 := NB241_249.out
   have hnb24 := NB249_242.out
   have hnc24 := NB242_249.out
   have hcz25_0 : w19.cell? ⟨gb249, 0, none⟩ = some (.int .i64 0) := (jD BK249.out 0).trans rfl
   have hcz25_1 : w19.cell? ⟨gb249, 1, none⟩ = some (.slice none 0 0) := (jD BK249.out 1).trans rfl
   have hfz25_0 := jC BK249.out 0
   have hfz25_1 := jC BK249.out 1
   try go_wp2_with (first | ((with_reducible refine jS (f := 25) rfl ?_); refine goesL_ (some 30) rfl rfl Try.func25 zr rfl #[.slice A0 l0.length c0, .agg #[.int .i64 t245, .slice Ao21 t246.length co21]] rfl zm ?_; (with_reducible refine (spec_IsMagazine.calls k _ _ l0 t245 _ _ t246 true _ ?side1 ?side2 ?side3 ?side4 A9.out).mono ?_); (case side1 => exact Kd.C_below HR0.out (zb3 HB GE241 GE242 GE249)); (case side2 => exact HC0.out); (case side3 => refine (Kd.R_reads' (e := 2) (base := w.heap.size) (ok := fun k_ => True) (n := t246.length) (c := co21) ?_).2.2; exact (by (with_reducible repeat (first | apply Kd.R_alloc | apply Kd.R_drewN | apply Kd.R_drew)); exact (Kd.R_mono (Kd.R_far (p := ⟨gb249, 1, none⟩) (Kd.R_far (p := ⟨gb249, 0, none⟩) (Kd.R_types HO248.out BK249.out (by decide)) (fun _ hk => hk.2) (.int .i64 t245)) (fun _ hk => hk.2) (.slice Ao21 t246.length co21)) (fun _ h_ => h_.1)))); (case side4 => exact (Kd.R_reads' HO248.out).2.1); rintro e w26 ⟨rfl, hb⟩; refine ⟨_, rfl, ?_⟩; have n0_ := jA (Kd.R_below (by (with_reducible repeat (first | apply Kd.R_alloc | apply Kd.R_drewN | apply Kd.R_drew)); exact (Kd.R_mono (Kd.R_far (p := ⟨gb249, 1, none⟩) (Kd.R_far (p := ⟨gb249, 0, none⟩) (Kd.R_types HO248.out BK249.out (by decide)) (fun _ hk => hk.2) (.int .i64 t245)) (fun _ hk => hk.2) (.slice Ao21 t246.length co21)) (fun _ h_ => h_.1))) hb); have n1_ := jA (jO (g := gb241) (o := .cells #[.int .i64 a1_0, .slice A1_1 l1_1.length c1_1] 28 (0, 0)) (by (with_reducible repeat (first | refine jI ?_ _ | refine jK ?_ | refine jJ ?_ _)); refine blk_far ?_ NB241_249.out _; (with_reducible repeat (first | refine jI ?_ _ | refine jK ?_ | refine jJ ?_ _)); refine blk_far ?_ NB241_249.out _; (with_reducible repeat (first | refine jI ?_ _ | refine jK ?_ | refine jJ ?_ _)); exact BK241.out) hb); have n2_ := jA (jO (g := gb242) (o := .cells #[.int .i64 0, .slice none 0 0] 28 (0, 0)) (by (with_reducible repeat (first | refine jI ?_ _ | refine jK ?_ | refine jJ ?_ _)); refine blk_far ?_ NB242_249.out _; (with_reducible repeat (first | refine jI ?_ _ | refine jK ?_ | refine jJ ?_ _)); refine blk_far ?_ NB242_249.out _; (with_reducible repeat (first | refine jI ?_ _ | refine jK ?_ | refine jJ ?_ _)); exact BK242.out) hb); have n3_ := jA (jO (g := gb249) (o := .cells #[.int .i64 t245, .slice Ao21 t246.length co21] 28 (0, 0)) (by (with_reducible repeat (first | refine jI ?_ _ | refine jK ?_ | refine jJ ?_ _)); refine jV (cs := #[.int .i64 t245, .slice none 0 0]) ?_ 1 _ rfl; (with_reducible repeat (first | refine jI ?_ _ | refine jK ?_ | refine jJ ?_ _)); refine jV (cs := #[.int .i64 0, .slice none 0 0]) ?_ 0 _ rfl; (with_reducible repeat (first | refine jI ?_ _ | refine jK ?_ | refine jJ ?_ _)); exact BK249.out) hb); have n4_ := jA (jG (zb3 HB GE241 GE242 GE249) hb); clear HO248; clear BK241; clear BK242; clear BK249; clear HB; have HO248 := n0_; have BK241 := n1_; have BK242 := n2_; have BK249 := n3_; have HB := n4_; clear n0_ n1_ n2_ n3_ n4_; (try clear hb); (try clear hb2); (try clear hk); (try clear hi); have hcz27_0 : w26.cell? ⟨gb249, 0, none⟩ = some (.int .i64 t245) := (jD BK249.out 0).trans rfl; have hcz27_1 : w26.cell? ⟨gb249, 1, none⟩ = some (.slice Ao21 t246.length co21) := (jD BK249.out 1).trans rfl; have hfz27_0 := jC BK249.out 0; have hfz27_1 := jC BK249.out 1; have hcz28_0 : w26.cell? ⟨gb242, 0, none⟩ = some (.int .i64 0) := (jD BK242.out 0).trans rfl; have hcz28_1 : w26.cell? ⟨gb242, 1, none⟩ = some (.slice none 0 0) := (jD BK242.out 1).trans rfl; have hfz28_0 := jC BK242.out 0; have hfz28_1 := jC BK242.out 1))
   refine bodyPost_ret (results_ct rfl _ _ gb242 28 #[.int .i64 t245, .slice Ao21 t246.length co21] (0, 0) _ rfl (by (with_reducible repeat (first | refine jI ?_ _ | refine jK ?_ | refine jJ ?_ _)); refine jV (cs := #[.int .i64 t245, .slice none 0 0]) ?_ 1 _ rfl; (with_reducible repeat (first | refine jI ?_ _ | refine jK ?_ | refine jJ ?_ _)); refine jV (cs := #[.int .i64 0, .slice none 0 0]) ?_ 0 _ rfl; (with_reducible repeat (first | refine jI ?_ _ | refine jK ?_ | refine jJ ?_ _)); exact BK242.out) Try.underlying28 rfl zr) rfl ?_
   exact ⟨_, by first | rfl | (simp [errW_none, errW_some] <;> rfl) | (simp [*, errW_none, errW_some] <;> rfl), by (with_reducible repeat (first | apply Kd.R_alloc | apply Kd.R_drewN | apply Kd.R_drew)); exact Kd.R_mono (Kd.R_far (p := ⟨gb242, 1, none⟩) (Kd.R_far (p := ⟨gb242, 0, none⟩) (Kd.R_types HO248.out BK242.out (by decide)) (fun _ hk => hk.2) (.int .i64 t245)) (fun _ hk => hk.2) (.slice Ao21 t246.length co21)) (fun _ hk => trivial), zb3 HB GE241 GE242 GE249⟩
  ·replace c10 := Bool.eq_false_iff.mpr c10
   subst c10
   have H1 : (some (0, ([] : List Int), 5)) = some (r1, r2, r3) := by rw [if_neg (show ¬ (false = true) by decide)] at H; exact H
   clear H
   have H := H1
   clear H1
   simp only [Option.some.injEq, Prod.mk.injEq] at H
   obtain ⟨rfl, rfl, rfl⟩ := H
   go_enter Try.func35, Try.ntmps35
   try go_wp2_with (first | ((with_reducible refine jT (N := 5) rfl ?_); refine jR ?hg (N := 5) ?hd (cs := #[.int .i64 a1_0, .slice A1_1 l1_1.length c1_1]) (t := 28) ?hr ?_; (case hd => rfl); (case hg => rfl); (case hr => first | (go_simp; done) | (go_simp; rfl)); intro gb241 hg w29 hbox hb; have n0_ := jA (jG (zb0 HB) hb); have n1_ := jA (hbox); have n2_ := jA ((by rw [hg]; exact (jF (zb0 HB)) : w.heap.size ≤ gb241)); have n3_ := jA ((by rw [hg]; exact (jF (zb0 HB)) : w.heap.size ≤ gb241)); clear HB; have HB := n0_; have BK241 := n1_; have GW241 := n2_; have GE241 := n3_; clear n0_ n1_ n2_ n3_; clear hb hbox hg) | ((with_reducible refine jT (N := 8) rfl ?_); refine jR ?hg (N := 8) ?hd (cs := #[.int .i64 0, .slice none 0 0]) (t := 28) ?hr ?_; (case hd => rfl); (case hg => rfl); (case hr => first | (go_simp; done) | (go_simp; rfl)); intro gb242 hg w30 hbox hb; have n0_ := jA (jO (g := gb241) (o := .cells #[.int .i64 a1_0, .slice A1_1 l1_1.length c1_1] 28 (0, 0)) (zk BK241) hb); have n1_ := jA (jG (zb1 HB GE241) hb); have n2_ := jA (hbox); have n3_ := jA ((by rw [hg]; exact (jF (zb1 HB GE241)) : w.heap.size ≤ gb242)); have n4_ := jA ((by rw [hg]; exact (jF (zb1 HB GE241)) : w.heap.size ≤ gb242)); have n5_ := jA ((by rw [hg]; exact jW (blk_lt (g := gb241) (o := .cells #[.int .i64 a1_0, .slice A1_1 l1_1.length c1_1] 28 (0, 0)) (zk BK241)) : gb241 ≠ gb242)); have n6_ := jA n5_.out.symm; clear BK241; clear HB; have BK241 := n0_; have HB := n1_; have BK242 := n2_; have GW242 := n3_; have GE242 := n4_; have NB241_242 := n5_; have NB242_241 := n6_; clear n0_ n1_ n2_ n3_ n4_ n5_ n6_; clear hb hbox hg; have hnb31 := NB241_242.out; have hnc31 := NB242_241.out; have hcz32_0 : w30.cell? ⟨gb241, 0, none⟩ = some (.int .i64 a1_0) := (jD BK241.out 0).trans rfl; have hcz32_1 : w30.cell? ⟨gb241, 1, none⟩ = some (.slice A1_1 l1_1.length c1_1) := (jD BK241.out 1).trans rfl; have hfz32_0 := jC BK241.out 0; have hfz32_1 := jC BK241.out 1) | ((with_reducible refine jS (f := 69) rfl ?_); refine goesL_ (some 16) rfl rfl Try.func69 zr rfl #[.slice A0 l0.length c0, .agg #[.int .i64 a1_0, .slice A1_1 l1_1.length c1_1], .string a2, .int .i64 a3] rfl zm ?_; (with_reducible refine (spec_l26Code.calls k _ _ l0 a1_0 _ _ l1_1 a2 a3 t243 _ ?side1 ?side2 ?side3 ?side4 A5.out).mono ?_); (case side1 => exact zs HR0 HB); (case side2 => exact HC0.out); (case side3 => exact zs HR1_1 HB); (case side4 => exact HC1_1.out); rintro e w33 ⟨rfl, hb⟩; refine ⟨_, rfl, ?_⟩; have n0_ := jA (jO (g := gb241) (o := .cells #[.int .i64 a1_0, .slice A1_1 l1_1.length c1_1] 28 (0, 0)) (zk BK241) hb); have n1_ := jA (jO (g := gb242) (o := .cells #[.int .i64 0, .slice none 0 0] 28 (0, 0)) (zk BK242) hb); have n2_ := jA (jG (zb2 HB GE241 GE242) hb); clear BK241; clear BK242; clear HB; have BK241 := n0_; have BK242 := n1_; have HB := n2_; clear n0_ n1_ n2_; (try clear hb); (try clear hb2); (try clear hk); (try clear hi)))
   have n0_ := jA (jK BK241.out)
   have n1_ := jA (jK BK242.out)
   have n2_ := jA (below_drew1 HB.out)
   clear BK241
   clear BK242
   clear HB
   have BK241 := n0_
   have BK242 := n1_
   have HB := n2_
   clear n0_ n1_ n2_
   refine start_ (n := 9) (S := fun w' => w'.cell? ⟨gb241, 0, none⟩ = some (.int .i64 a1_0) ∧ w'.cell? ⟨gb241, 1, none⟩ = some (.slice A1_1 l1_1.length c1_1)) (ds := []) m9_0 zr rfl rfl ⟨(jD BK241.out 0).trans rfl, (jD BK241.out 1).trans rfl⟩ (fun hHeld => ?_); refine with_tabW spec_TakePieces.tab4 spec_TakePieces.bits4 (fun HT_ HW_ => ?_)
   generalize w33.drew = w34 at BK241 BK242 HB hHeld ⊢
   refine zp HT_ 1 22 m9_80 ?_
   refine zp HT_ 2 23 m9_c0 ?_
   refine zp HT_ 4 25 m9_d0 ?_
   refine zp HT_ 5 26 m9_d8 ?_
   refine zt2 HT_ HW_ hHeld 0 21 m9_1d8 ?_
   refine join_ (σ := Value × Nat) 1 m9_1fe (fun s_ => [(24, .int .i64 t244), (27, .agg #[.int .i64 t245, s_.1]), (11, .pointer (some ⟨s_.2, 0, none⟩))]) (fun s_ w' => (w'.cell? ⟨gb241, 0, none⟩ = some (.int .i64 a1_0) ∧ w'.cell? ⟨gb241, 1, none⟩ = some (.slice A1_1 l1_1.length c1_1)) ∧ (Kd.R (Kd.int .i64) 2 w' w.heap.size (fun _ => True) s_.1 t246) ∧ (w'.heap[gb241]? = some (.cells #[.int .i64 a1_0, .slice A1_1 l1_1.length c1_1] 28 (0, 0))) ∧ (w'.heap[gb242]? = some (.cells #[.int .i64 0, .slice none 0 0] 28 (0, 0))) ∧ (w'.heap[s_.2]? = some (.cells #[.int .i64 0, .slice none 0 0] 28 (0, 0))) ∧ (w.heap.size ≤ s_.2) ∧ (w.heap.size ≤ s_.2) ∧ (gb241 ≠ s_.2) ∧ (s_.2 ≠ gb241) ∧ (gb242 ≠ s_.2) ∧ (s_.2 ≠ gb242) ∧ (Below w.heap.size w w')) ?_ ?_
   rotate_left
   ·intro hCont
    refine two_ (i := 3) (j := 7) (Ni := some 24) (Nj := some 11) m9_1f8 m9_1da rfl rfl rfl rfl (two_of HT_.out zr) (by decide) (by decide) (fun K hK => ?_) (fun K hK => ?_)
    ·skip
     refine goes_ Try.func73 zr rfl #[.slice A0 l0.length c0, .string a2] (by rfl) rfl rfl zm ?_
     with_reducible refine (spec_l03Find.calls k _ _ l0 a2 t244 _ ?side1 ?side2 A7.out).mono ?_
     (case side1 => exact zs HR0 HB)
     (case side2 => exact HC0.out)
     rintro e w' ⟨rfl, ⟨nd, rfl⟩⟩
     refine ⟨_, rfl, ?_⟩
     refine hK.out _ _ ⟨(jD BK241.out 0).trans rfl, (jD BK241.out 1).trans rfl⟩ (fun hHeld => ?_)
     clear hK K
     refine norm_ (a' := ?_) ?_ ?_
     rotate_left
     ·show Act.put _ (some 24) _ = _
      simp only [Act.put, jM, jP, jQ, i64_w, i32_w]
      rfl
     refine two_ (i := 6) (j := 7) (Ni := some 27) (Nj := some 11) m9_1fc m9_1fa rfl rfl rfl rfl (two_of HT_.out zr) (by decide) (by decide) (fun K hK => ?_) (fun K hK => ?_)
     ·skip
      refine goes_ Try.func72 zr rfl #[.agg #[.int .i64 a1_0, .slice A1_1 l1_1.length c1_1], .int .i64 t244, .int .i64 (wrap64 (-a3))] (by rfl) rfl rfl zm ?_
      with_reducible refine (spec_l26With.calls a1_0 _ _ l1_1 t244 (wrap64 (-a3)) t245 t246 _ ?side1 ?side2 A8.out).mono ?_
      (case side1 => repeat (first | exact HR1_1.out | exact (Kd.C_below HR1_1.out (zb2 HB GE241 GE242)) | (with_reducible refine Kd.C_alloc ?_ _) | (with_reducible refine Kd.C_drewN ?_ _) | (with_reducible refine Kd.C_drew ?_)))
      (case side2 => exact HC1_1.out)
      rintro e w35 ⟨v247, rfl, ho0, hb⟩
      refine ⟨_, rfl, ?_⟩
      have n0_ := jA (Kd.R_lower ho0 (jF (zb2 HB GE241 GE242)))
      have n1_ := jA (jO (g := gb241) (o := .cells #[.int .i64 a1_0, .slice A1_1 l1_1.length c1_1] 28 (0, 0)) (zk BK241) hb)
      have n2_ := jA (jO (g := gb242) (o := .cells #[.int .i64 0, .slice none 0 0] 28 (0, 0)) (zk BK242) hb)
      have n3_ := jA (jG (zb2 HB GE241 GE242) hb)
      clear BK241
      clear BK242
      clear HB
      have HO248 := n0_
      have BK241 := n1_
      have BK242 := n2_
      have HB := n3_
      clear n0_ n1_ n2_ n3_
      (try clear hb)
      (try clear hb2)
      (try clear hk)
      (try clear hi)
      (try clear ho0)
      refine hK.out _ _ ⟨(jD BK241.out 0).trans rfl, (jD BK241.out 1).trans rfl⟩ (fun hHeld => ?_)
      clear hK K
      refine norm_ (a' := ?_) ?_ ?_
      rotate_left
      ·show Act.put _ (some 27) _ = _
       simp only [Act.put, jM, jP, jQ, i64_w, i32_w]
       rfl
      refine one_ (i := 7) (N := some 11) m9_1fe rfl rfl (one_of HT_.out zr) (by decide) (fun K hK => ?_)
      refine box_step ?hg (N := 11) ?hd (cs := #[.int .i64 0, .slice none 0 0]) (t := 28) ?hr ?_; (case hd => rfl); (case hg => rfl); (case hr => first | (go_simp; done) | (go_simp; rfl))
      intro gb249 hg w36 hbox hb
      have n0_ := jA (Kd.R_below (zo HO248) hb)
      have n1_ := jA (jO (g := gb241) (o := .cells #[.int .i64 a1_0, .slice A1_1 l1_1.length c1_1] 28 (0, 0)) (zk BK241) hb)
      have n2_ := jA (jO (g := gb242) (o := .cells #[.int .i64 0, .slice none 0 0] 28 (0, 0)) (zk BK242) hb)
      have n3_ := jA (jG (zb2 HB GE241 GE242) hb)
      have n4_ := jA (hbox)
      have n5_ := jA ((by rw [hg]; exact (jF (zb2 HB GE241 GE242)) : w.heap.size ≤ gb249))
      have n6_ := jA ((by rw [hg]; exact (jF (zb2 HB GE241 GE242)) : w.heap.size ≤ gb249))
      have n7_ := jA ((by rw [hg]; exact jW (blk_lt (g := gb241) (o := .cells #[.int .i64 a1_0, .slice A1_1 l1_1.length c1_1] 28 (0, 0)) (zk BK241)) : gb241 ≠ gb249))
      have n8_ := jA ((by rw [hg]; exact Nat.ne_of_gt (blk_lt (g := gb241) (o := .cells #[.int .i64 a1_0, .slice A1_1 l1_1.length c1_1] 28 (0, 0)) (zk BK241)) : gb249 ≠ gb241))
      have n9_ := jA ((by rw [hg]; exact jW (blk_lt (g := gb242) (o := .cells #[.int .i64 0, .slice none 0 0] 28 (0, 0)) (zk BK242)) : gb242 ≠ gb249))
      have n10_ := jA ((by rw [hg]; exact Nat.ne_of_gt (blk_lt (g := gb242) (o := .cells #[.int .i64 0, .slice none 0 0] 28 (0, 0)) (zk BK242)) : gb249 ≠ gb242))
      clear HO248
      clear BK241
      clear BK242
      clear HB
      have HO248 := n0_
      have BK241 := n1_
      have BK242 := n2_
      have HB := n3_
      have BK249 := n4_
      have GW249 := n5_
      have GE249 := n6_
      have NB241_249 := n7_
      have NB249_241 := n8_
      have NB242_249 := n9_
      have NB249_242 := n10_
      clear n0_ n1_ n2_ n3_ n4_ n5_ n6_ n7_ n8_ n9_ n10_
      clear hb hbox hg
      refine hK.out _ _ ⟨(jD BK241.out 0).trans rfl, (jD BK241.out 1).trans rfl⟩ (fun hHeld => ?_)
      clear hK K
      refine norm_ (a' := ?_) ?_ ?_
      rotate_left
      ·show Act.put _ (some 11) _ = _
       simp only [Act.put, jM, jP, jQ, i64_w, i32_w]
       rfl
      exact norm_ (by simp only [putAll, Act.put, jM, jP, jQ]) (hCont (v247, gb249) _ ⟨hHeld, (zo HO248), (zk BK241), (zk BK242), (zk BK249), GW249.out, GE249.out, NB241_249.out, NB249_241.out, NB242_249.out, NB249_242.out, (zb3 HB GE241 GE242 GE249)⟩)
     ·skip
      refine box_step ?hg (N := 11) ?hd (cs := #[.int .i64 0, .slice none 0 0]) (t := 28) ?hr ?_; (case hd => rfl); (case hg => rfl); (case hr => first | (go_simp; done) | (go_simp; rfl))
      intro gb249 hg w35 hbox hb
      have n0_ := jA (jO (g := gb241) (o := .cells #[.int .i64 a1_0, .slice A1_1 l1_1.length c1_1] 28 (0, 0)) (zk BK241) hb)
      have n1_ := jA (jO (g := gb242) (o := .cells #[.int .i64 0, .slice none 0 0] 28 (0, 0)) (zk BK242) hb)
      have n2_ := jA (jG (zb2 HB GE241 GE242) hb)
      have n3_ := jA (hbox)
      have n4_ := jA ((by rw [hg]; exact (jF (zb2 HB GE241 GE242)) : w.heap.size ≤ gb249))
      have n5_ := jA ((by rw [hg]; exact (jF (zb2 HB GE241 GE242)) : w.heap.size ≤ gb249))
      have n6_ := jA ((by rw [hg]; exact jW (blk_lt (g := gb241) (o := .cells #[.int .i64 a1_0, .slice A1_1 l1_1.length c1_1] 28 (0, 0)) (zk BK241)) : gb241 ≠ gb249))
      have n7_ := jA ((by rw [hg]; exact Nat.ne_of_gt (blk_lt (g := gb241) (o := .cells #[.int .i64 a1_0, .slice A1_1 l1_1.length c1_1] 28 (0, 0)) (zk BK241)) : gb249 ≠ gb241))
      have n8_ := jA ((by rw [hg]; exact jW (blk_lt (g := gb242) (o := .cells #[.int .i64 0, .slice none 0 0] 28 (0, 0)) (zk BK242)) : gb242 ≠ gb249))
      have n9_ := jA ((by rw [hg]; exact Nat.ne_of_gt (blk_lt (g := gb242) (o := .cells #[.int .i64 0, .slice none 0 0] 28 (0, 0)) (zk BK242)) : gb249 ≠ gb242))
      clear BK241
      clear BK242
      clear HB
      have BK241 := n0_
      have BK242 := n1_
      have HB := n2_
      have BK249 := n3_
      have GW249 := n4_
      have GE249 := n5_
      have NB241_249 := n6_
      have NB249_241 := n7_
      have NB242_249 := n8_
      have NB249_242 := n9_
      clear n0_ n1_ n2_ n3_ n4_ n5_ n6_ n7_ n8_ n9_
      clear hb hbox hg
      refine hK.out _ _ ⟨(jD BK241.out 0).trans rfl, (jD BK241.out 1).trans rfl⟩ (fun hHeld => ?_)
      clear hK K
      refine norm_ (a' := ?_) ?_ ?_
      rotate_left
      ·show Act.put _ (some 11) _ = _
       simp only [Act.put, jM, jP, jQ, i64_w, i32_w]
       rfl
      refine one_ (i := 6) (N := some 27) m9_1fe rfl rfl (one_of HT_.out zr) (by decide) (fun K hK => ?_)
      refine goes_ Try.func72 zr rfl #[.agg #[.int .i64 a1_0, .slice A1_1 l1_1.length c1_1], .int .i64 t244, .int .i64 (wrap64 (-a3))] (by rfl) rfl rfl zm ?_
      with_reducible refine (spec_l26With.calls a1_0 _ _ l1_1 t244 (wrap64 (-a3)) t245 t246 _ ?side1 ?side2 A8.out).mono ?_
      (case side1 => exact zs HR1_1 HB)
      (case side2 => exact HC1_1.out)
      rintro e w36 ⟨v247, rfl, ho0, hb⟩
      refine ⟨_, rfl, ?_⟩
      have n0_ := jA (Kd.R_lower ho0 (jF (zb3 HB GE241 GE242 GE249)))
      have n1_ := jA (jO (g := gb241) (o := .cells #[.int .i64 a1_0, .slice A1_1 l1_1.length c1_1] 28 (0, 0)) (zk BK241) hb)
      have n2_ := jA (jO (g := gb242) (o := .cells #[.int .i64 0, .slice none 0 0] 28 (0, 0)) (zk BK242) hb)
      have n3_ := jA (jO (g := gb249) (o := .cells #[.int .i64 0, .slice none 0 0] 28 (0, 0)) (zk BK249) hb)
      have n4_ := jA (jG (zb3 HB GE241 GE242 GE249) hb)
      clear BK241
      clear BK242
      clear BK249
      clear HB
      have HO248 := n0_
      have BK241 := n1_
      have BK242 := n2_
      have BK249 := n3_
      have HB := n4_
      clear n0_ n1_ n2_ n3_ n4_
      (try clear hb)
      (try clear hb2)
      (try clear hk)
      (try clear hi)
      (try clear ho0)
      refine hK.out _ _ ⟨(jD BK241.out 0).trans rfl, (jD BK241.out 1).trans rfl⟩ (fun hHeld => ?_)
      clear hK K
      refine norm_ (a' := ?_) ?_ ?_
      rotate_left
      ·show Act.put _ (some 27) _ = _
       simp only [Act.put, jM, jP, jQ, i64_w, i32_w]
       rfl
      exact norm_ (by simp only [putAll, Act.put, jM, jP, jQ]) (hCont (v247, gb249) _ ⟨hHeld, (zo HO248), (zk BK241), (zk BK242), (zk BK249), GW249.out, GE249.out, NB241_249.out, NB249_241.out, NB242_249.out, NB249_242.out, (zb3 HB GE241 GE242 GE249)⟩)
    ·skip
     refine box_step ?hg (N := 11) ?hd (cs := #[.int .i64 0, .slice none 0 0]) (t := 28) ?hr ?_; (case hd => rfl); (case hg => rfl); (case hr => first | (go_simp; done) | (go_simp; rfl))
     intro gb249 hg w35 hbox hb
     have n0_ := jA (jO (g := gb241) (o := .cells #[.int .i64 a1_0, .slice A1_1 l1_1.length c1_1] 28 (0, 0)) (zk BK241) hb)
     have n1_ := jA (jO (g := gb242) (o := .cells #[.int .i64 0, .slice none 0 0] 28 (0, 0)) (zk BK242) hb)
     have n2_ := jA (jG (zb2 HB GE241 GE242) hb)
     have n3_ := jA (hbox)
     have n4_ := jA ((by rw [hg]; exact (jF (zb2 HB GE241 GE242)) : w.heap.size ≤ gb249))
     have n5_ := jA ((by rw [hg]; exact (jF (zb2 HB GE241 GE242)) : w.heap.size ≤ gb249))
     have n6_ := jA ((by rw [hg]; exact jW (blk_lt (g := gb241) (o := .cells #[.int .i64 a1_0, .slice A1_1 l1_1.length c1_1] 28 (0, 0)) (zk BK241)) : gb241 ≠ gb249))
     have n7_ := jA ((by rw [hg]; exact Nat.ne_of_gt (blk_lt (g := gb241) (o := .cells #[.int .i64 a1_0, .slice A1_1 l1_1.length c1_1] 28 (0, 0)) (zk BK241)) : gb249 ≠ gb241))
     have n8_ := jA ((by rw [hg]; exact jW (blk_lt (g := gb242) (o := .cells #[.int .i64 0, .slice none 0 0] 28 (0, 0)) (zk BK242)) : gb242 ≠ gb249))
     have n9_ := jA ((by rw [hg]; exact Nat.ne_of_gt (blk_lt (g := gb242) (o := .cells #[.int .i64 0, .slice none 0 0] 28 (0, 0)) (zk BK242)) : gb249 ≠ gb242))
     clear BK241
     clear BK242
     clear HB
     have BK241 := n0_
     have BK242 := n1_
     have HB := n2_
     have BK249 := n3_
     have GW249 := n4_
     have GE249 := n5_
     have NB241_249 := n6_
     have NB249_241 := n7_
     have NB242_249 := n8_
     have NB249_242 := n9_
     clear n0_ n1_ n2_ n3_ n4_ n5_ n6_ n7_ n8_ n9_
     clear hb hbox hg
     refine hK.out _ _ ⟨(jD BK241.out 0).trans rfl, (jD BK241.out 1).trans rfl⟩ (fun hHeld => ?_)
     clear hK K
     refine norm_ (a' := ?_) ?_ ?_
     rotate_left
     ·show Act.put _ (some 11) _ = _
      simp only [Act.put, jM, jP, jQ, i64_w, i32_w]
      rfl
     refine one_ (i := 3) (N := some 24) m9_1fa rfl rfl (one_of HT_.out zr) (by decide) (fun K hK => ?_)
     refine goes_ Try.func73 zr rfl #[.slice A0 l0.length c0, .string a2] (by rfl) rfl rfl zm ?_
     with_reducible refine (spec_l03Find.calls k _ _ l0 a2 t244 _ ?side1 ?side2 A7.out).mono ?_
     (case side1 => exact zs HR0 HB)
     (case side2 => exact HC0.out)
     rintro e w' ⟨rfl, ⟨nd, rfl⟩⟩
     refine ⟨_, rfl, ?_⟩
     refine hK.out _ _ ⟨(jD BK241.out 0).trans rfl, (jD BK241.out 1).trans rfl⟩ (fun hHeld => ?_)
     clear hK K
     refine norm_ (a' := ?_) ?_ ?_
     rotate_left
     ·show Act.put _ (some 24) _ = _
      simp only [Act.put, jM, jP, jQ, i64_w, i32_w]
      rfl
     refine one_ (i := 6) (N := some 27) m9_1fe rfl rfl (one_of HT_.out zr) (by decide) (fun K hK => ?_)
     refine goes_ Try.func72 zr rfl #[.agg #[.int .i64 a1_0, .slice A1_1 l1_1.length c1_1], .int .i64 t244, .int .i64 (wrap64 (-a3))] (by rfl) rfl rfl zm ?_
     with_reducible refine (spec_l26With.calls a1_0 _ _ l1_1 t244 (wrap64 (-a3)) t245 t246 _ ?side1 ?side2 A8.out).mono ?_
     (case side1 => repeat (first | exact HR1_1.out | exact (Kd.C_below HR1_1.out (zb3 HB GE241 GE242 GE249)) | (with_reducible refine Kd.C_alloc ?_ _) | (with_reducible refine Kd.C_drewN ?_ _) | (with_reducible refine Kd.C_drew ?_)))
     (case side2 => exact HC1_1.out)
     rintro e w36 ⟨v247, rfl, ho0, hb⟩
     refine ⟨_, rfl, ?_⟩
     have n0_ := jA (Kd.R_lower ho0 (jF (zb3 HB GE241 GE242 GE249)))
     have n1_ := jA (jO (g := gb241) (o := .cells #[.int .i64 a1_0, .slice A1_1 l1_1.length c1_1] 28 (0, 0)) (zk BK241) hb)
     have n2_ := jA (jO (g := gb242) (o := .cells #[.int .i64 0, .slice none 0 0] 28 (0, 0)) (zk BK242) hb)
     have n3_ := jA (jO (g := gb249) (o := .cells #[.int .i64 0, .slice none 0 0] 28 (0, 0)) (zk BK249) hb)
     have n4_ := jA (jG (zb3 HB GE241 GE242 GE249) hb)
     clear BK241
     clear BK242
     clear BK249
     clear HB
     have HO248 := n0_
     have BK241 := n1_
     have BK242 := n2_
     have BK249 := n3_
     have HB := n4_
     clear n0_ n1_ n2_ n3_ n4_
     (try clear hb)
     (try clear hb2)
     (try clear hk)
     (try clear hi)
     (try clear ho0)
     refine hK.out _ _ ⟨(jD BK241.out 0).trans rfl, (jD BK241.out 1).trans rfl⟩ (fun hHeld => ?_)
     clear hK K
     refine norm_ (a' := ?_) ?_ ?_
     rotate_left
     ·show Act.put _ (some 27) _ = _
      simp only [Act.put, jM, jP, jQ, i64_w, i32_w]
      rfl
     exact norm_ (by simp only [putAll, Act.put, jM, jP, jQ]) (hCont (v247, gb249) _ ⟨hHeld, (zo HO248), (zk BK241), (zk BK242), (zk BK249), GW249.out, GE249.out, NB241_249.out, NB249_241.out, NB242_249.out, NB249_242.out, (zb3 HB GE241 GE242 GE249)⟩)
   rintro ⟨v247, gb249⟩ w37 ⟨hS_, h0_, h1_, h2_, h3_, h4_, h5_, h6_, h7_, h8_, h9_, h10_⟩
   have n0_ : Aside0 (Kd.R (Kd.int .i64) 2 w37 w.heap.size (fun _ => True) v247 t246) := ⟨h0_⟩
   have n1_ : Aside0 (w37.heap[gb241]? = some (.cells #[.int .i64 a1_0, .slice A1_1 l1_1.length c1_1] 28 (0, 0))) := ⟨h1_⟩
   have n2_ : Aside0 (w37.heap[gb242]? = some (.cells #[.int .i64 0, .slice none 0 0] 28 (0, 0))) := ⟨h2_⟩
   have n3_ : Aside0 (w37.heap[gb249]? = some (.cells #[.int .i64 0, .slice none 0 0] 28 (0, 0))) := ⟨h3_⟩
   have n4_ : Aside0 (w.heap.size ≤ gb249) := ⟨h4_⟩
   have n5_ : Aside0 (w.heap.size ≤ gb249) := ⟨h5_⟩
   have n6_ : Aside0 (gb241 ≠ gb249) := ⟨h6_⟩
   have n7_ : Aside0 (gb249 ≠ gb241) := ⟨h7_⟩
   have n8_ : Aside0 (gb242 ≠ gb249) := ⟨h8_⟩
   have n9_ : Aside0 (gb249 ≠ gb242) := ⟨h9_⟩
   have n10_ : Aside0 (Below w.heap.size w w37) := ⟨h10_⟩
   clear BK241
   clear BK242
   clear HB
   clear h0_ h1_ h2_ h3_ h4_ h5_ h6_ h7_ h8_ h9_ h10_
   have HO248 := n0_
   have BK241 := n1_
   have BK242 := n2_
   have BK249 := n3_
   have GW249 := n4_
   have GE249 := n5_
   have NB241_249 := n6_
   have NB249_241 := n7_
   have NB242_249 := n8_
   have NB249_242 := n9_
   have HB := n10_
   clear n0_ n1_ n2_ n3_ n4_ n5_ n6_ n7_ n8_ n9_ n10_
   have hHeld : w37.cell? ⟨gb241, 0, none⟩ = some (.int .i64 a1_0) ∧ w37.cell? ⟨gb241, 1, none⟩ = some (.slice A1_1 l1_1.length c1_1) := hS_
   obtain ⟨Ao39, co39, eo39⟩ := Kd.R_slice HO248.out
   (first | subst eo39 | (injection eo39 with f1_ f2_ f3_; have f4_ := f1_.symm; have f5_ := f3_.symm; clear f1_ f2_ f3_; subst f4_; subst f5_))
   refine norm_ (a' := ?_) ?_ ?_
   rotate_left
   ·simp only [putAll, Act.put, jM, jP, jQ]
    rfl
   refine one_ (i := 8) (N := none) m9_1ff rfl rfl (one_of HT_.out zr) (by decide) (fun K hK => ?_)
   have hs38 : w37.cell? ⟨gb249, 0, none⟩ = some (.int .i64 0) := (jD BK249.out 0).trans rfl
   have hfs38 := jC BK249.out 0
   have hns38_0 := NB241_249.out
   have hns38_1 := NB242_249.out
   have hms38_0 := NB249_241.out
   have hms38_1 := NB249_242.out
   have hs40 : w37.cell? ⟨gb249, 1, none⟩ = some (.slice none 0 0) := (jD BK249.out 1).trans rfl
   have hfs40 := jC BK249.out 1
   have hns40_0 := NB241_249.out
   have hns40_1 := NB242_249.out
   have hms40_0 := NB249_241.out
   have hms40_1 := NB249_242.out
   refine skip_ (w1 := ?_) (by rfl) rfl ?_ ?_
   rotate_left
   ·go_simp
    rfl
   refine hK.out _ _ ⟨((cell_far (p := ⟨gb249, _, none⟩) NB241_249.out _).trans (((cell_far (p := ⟨gb249, _, none⟩) NB241_249.out _).trans (hHeld.1)))), ((cell_far (p := ⟨gb249, _, none⟩) NB241_249.out _).trans (((cell_far (p := ⟨gb249, _, none⟩) NB241_249.out _).trans (hHeld.2))))⟩ (fun hHeld => ?_)
   clear hK K
   refine done_ (done_of HT_.out zr) ?_
   have hnb41 := NB249_241.out
   have hnc41 := NB241_249.out
   have hnb42 := NB249_242.out
   have hnc42 := NB242_249.out
   have hcz43_0 : w37.cell? ⟨gb249, 0, none⟩ = some (.int .i64 0) := (jD BK249.out 0).trans rfl
   have hcz43_1 : w37.cell? ⟨gb249, 1, none⟩ = some (.slice none 0 0) := (jD BK249.out 1).trans rfl
   have hfz43_0 := jC BK249.out 0
   have hfz43_1 := jC BK249.out 1
   try go_wp2_with (first | ((with_reducible refine jS (f := 25) rfl ?_); refine goesL_ (some 30) rfl rfl Try.func25 zr rfl #[.slice A0 l0.length c0, .agg #[.int .i64 t245, .slice Ao39 t246.length co39]] rfl zm ?_; (with_reducible refine (spec_IsMagazine.calls k _ _ l0 t245 _ _ t246 false _ ?side1 ?side2 ?side3 ?side4 A9.out).mono ?_); (case side1 => exact Kd.C_below HR0.out (zb3 HB GE241 GE242 GE249)); (case side2 => exact HC0.out); (case side3 => refine (Kd.R_reads' (e := 2) (base := w.heap.size) (ok := fun k_ => True) (n := t246.length) (c := co39) ?_).2.2; exact (by (with_reducible repeat (first | apply Kd.R_alloc | apply Kd.R_drewN | apply Kd.R_drew)); exact (Kd.R_mono (Kd.R_far (p := ⟨gb249, 1, none⟩) (Kd.R_far (p := ⟨gb249, 0, none⟩) (Kd.R_types HO248.out BK249.out (by decide)) (fun _ hk => hk.2) (.int .i64 t245)) (fun _ hk => hk.2) (.slice Ao39 t246.length co39)) (fun _ h_ => h_.1)))); (case side4 => exact (Kd.R_reads' HO248.out).2.1); rintro e w44 ⟨rfl, hb⟩; refine ⟨_, rfl, ?_⟩; have n0_ := jA (Kd.R_below (by (with_reducible repeat (first | apply Kd.R_alloc | apply Kd.R_drewN | apply Kd.R_drew)); exact (Kd.R_mono (Kd.R_far (p := ⟨gb249, 1, none⟩) (Kd.R_far (p := ⟨gb249, 0, none⟩) (Kd.R_types HO248.out BK249.out (by decide)) (fun _ hk => hk.2) (.int .i64 t245)) (fun _ hk => hk.2) (.slice Ao39 t246.length co39)) (fun _ h_ => h_.1))) hb); have n1_ := jA (jO (g := gb241) (o := .cells #[.int .i64 a1_0, .slice A1_1 l1_1.length c1_1] 28 (0, 0)) (by (with_reducible repeat (first | refine jI ?_ _ | refine jK ?_ | refine jJ ?_ _)); refine blk_far ?_ NB241_249.out _; (with_reducible repeat (first | refine jI ?_ _ | refine jK ?_ | refine jJ ?_ _)); refine blk_far ?_ NB241_249.out _; (with_reducible repeat (first | refine jI ?_ _ | refine jK ?_ | refine jJ ?_ _)); exact BK241.out) hb); have n2_ := jA (jO (g := gb242) (o := .cells #[.int .i64 0, .slice none 0 0] 28 (0, 0)) (by (with_reducible repeat (first | refine jI ?_ _ | refine jK ?_ | refine jJ ?_ _)); refine blk_far ?_ NB242_249.out _; (with_reducible repeat (first | refine jI ?_ _ | refine jK ?_ | refine jJ ?_ _)); refine blk_far ?_ NB242_249.out _; (with_reducible repeat (first | refine jI ?_ _ | refine jK ?_ | refine jJ ?_ _)); exact BK242.out) hb); have n3_ := jA (jO (g := gb249) (o := .cells #[.int .i64 t245, .slice Ao39 t246.length co39] 28 (0, 0)) (by (with_reducible repeat (first | refine jI ?_ _ | refine jK ?_ | refine jJ ?_ _)); refine jV (cs := #[.int .i64 t245, .slice none 0 0]) ?_ 1 _ rfl; (with_reducible repeat (first | refine jI ?_ _ | refine jK ?_ | refine jJ ?_ _)); refine jV (cs := #[.int .i64 0, .slice none 0 0]) ?_ 0 _ rfl; (with_reducible repeat (first | refine jI ?_ _ | refine jK ?_ | refine jJ ?_ _)); exact BK249.out) hb); have n4_ := jA (jG (zb3 HB GE241 GE242 GE249) hb); clear HO248; clear BK241; clear BK242; clear BK249; clear HB; have HO248 := n0_; have BK241 := n1_; have BK242 := n2_; have BK249 := n3_; have HB := n4_; clear n0_ n1_ n2_ n3_ n4_; (try clear hb); (try clear hb2); (try clear hk); (try clear hi); have hcz45_0 : w44.cell? ⟨gb242, 0, none⟩ = some (.int .i64 0) := (jD BK242.out 0).trans rfl; have hcz45_1 : w44.cell? ⟨gb242, 1, none⟩ = some (.slice none 0 0) := (jD BK242.out 1).trans rfl; have hfz45_0 := jC BK242.out 0; have hfz45_1 := jC BK242.out 1))
   refine bodyPost_ret (results_ct rfl _ _ gb242 28 #[.int .i64 0, .slice none 0 0] (0, 0) _ rfl (by (with_reducible repeat (first | refine jI ?_ _ | refine jK ?_ | refine jJ ?_ _)); refine jV (cs := #[.int .i64 0, .slice none 0 0]) ?_ 1 _ rfl; (with_reducible repeat (first | refine jI ?_ _ | refine jK ?_ | refine jJ ?_ _)); refine jV (cs := #[.int .i64 0, .slice none 0 0]) ?_ 0 _ rfl; (with_reducible repeat (first | refine jI ?_ _ | refine jK ?_ | refine jJ ?_ _)); exact BK242.out) Try.underlying28 rfl zr) rfl ?_
   exact ⟨_, by first | rfl | (simp [errW_none, errW_some] <;> rfl) | (simp [*, errW_none, errW_some] <;> rfl), by first | exact Kd.R_nil _ _ _ _ _ | exact Kd.N_nil _ _ _ _ _ | exact Kd.V_nil _ _ _ _ _ | exact Kd.Q_nil _ _ _ _ _ | exact Kd.S_nil _ _ _ _ _, zb3 HB GE241 GE242 GE249⟩
 ·rw [if_neg c6] at H
  have c6b0 : (t243 == 0) = false := beq_eq_false_iff_ne.mpr c6
  have c6b1 : (t243 != 0) = true := bne_iff_ne.mpr c6
  simp only [Option.some.injEq, Prod.mk.injEq] at H
  obtain ⟨rfl, rfl, rfl⟩ := H
  go_enter Try.func35, Try.ntmps35
  go_wp2_with (first | ((with_reducible refine jT (N := 5) rfl ?_); refine jR ?hg (N := 5) ?hd (cs := #[.int .i64 a1_0, .slice A1_1 l1_1.length c1_1]) (t := 28) ?hr ?_; (case hd => rfl); (case hg => rfl); (case hr => first | (go_simp; done) | (go_simp; rfl)); intro gb241 hg w46 hbox hb; have n0_ := jA (jG (zb0 HB) hb); have n1_ := jA (hbox); have n2_ := jA ((by rw [hg]; exact (jF (zb0 HB)) : w.heap.size ≤ gb241)); have n3_ := jA ((by rw [hg]; exact (jF (zb0 HB)) : w.heap.size ≤ gb241)); clear HB; have HB := n0_; have BK241 := n1_; have GW241 := n2_; have GE241 := n3_; clear n0_ n1_ n2_ n3_; clear hb hbox hg) | ((with_reducible refine jT (N := 8) rfl ?_); refine jR ?hg (N := 8) ?hd (cs := #[.int .i64 0, .slice none 0 0]) (t := 28) ?hr ?_; (case hd => rfl); (case hg => rfl); (case hr => first | (go_simp; done) | (go_simp; rfl)); intro gb242 hg w47 hbox hb; have n0_ := jA (jO (g := gb241) (o := .cells #[.int .i64 a1_0, .slice A1_1 l1_1.length c1_1] 28 (0, 0)) (zk BK241) hb); have n1_ := jA (jG (zb1 HB GE241) hb); have n2_ := jA (hbox); have n3_ := jA ((by rw [hg]; exact (jF (zb1 HB GE241)) : w.heap.size ≤ gb242)); have n4_ := jA ((by rw [hg]; exact (jF (zb1 HB GE241)) : w.heap.size ≤ gb242)); have n5_ := jA ((by rw [hg]; exact jW (blk_lt (g := gb241) (o := .cells #[.int .i64 a1_0, .slice A1_1 l1_1.length c1_1] 28 (0, 0)) (zk BK241)) : gb241 ≠ gb242)); have n6_ := jA n5_.out.symm; clear BK241; clear HB; have BK241 := n0_; have HB := n1_; have BK242 := n2_; have GW242 := n3_; have GE242 := n4_; have NB241_242 := n5_; have NB242_241 := n6_; clear n0_ n1_ n2_ n3_ n4_ n5_ n6_; clear hb hbox hg; have hnb48 := NB241_242.out; have hnc48 := NB242_241.out; have hcz49_0 : w47.cell? ⟨gb241, 0, none⟩ = some (.int .i64 a1_0) := (jD BK241.out 0).trans rfl; have hcz49_1 : w47.cell? ⟨gb241, 1, none⟩ = some (.slice A1_1 l1_1.length c1_1) := (jD BK241.out 1).trans rfl; have hfz49_0 := jC BK241.out 0; have hfz49_1 := jC BK241.out 1) | ((with_reducible refine jS (f := 69) rfl ?_); refine goesL_ (some 16) rfl rfl Try.func69 zr rfl #[.slice A0 l0.length c0, .agg #[.int .i64 a1_0, .slice A1_1 l1_1.length c1_1], .string a2, .int .i64 a3] rfl zm ?_; (with_reducible refine (spec_l26Code.calls k _ _ l0 a1_0 _ _ l1_1 a2 a3 t243 _ ?side1 ?side2 ?side3 ?side4 A5.out).mono ?_); (case side1 => exact zs HR0 HB); (case side2 => exact HC0.out); (case side3 => exact zs HR1_1 HB); (case side4 => exact HC1_1.out); rintro e w50 ⟨rfl, hb⟩; refine ⟨_, rfl, ?_⟩; have n0_ := jA (jO (g := gb241) (o := .cells #[.int .i64 a1_0, .slice A1_1 l1_1.length c1_1] 28 (0, 0)) (zk BK241) hb); have n1_ := jA (jO (g := gb242) (o := .cells #[.int .i64 0, .slice none 0 0] 28 (0, 0)) (zk BK242) hb); have n2_ := jA (jG (zb2 HB GE241 GE242) hb); clear BK241; clear BK242; clear HB; have BK241 := n0_; have BK242 := n1_; have HB := n2_; clear n0_ n1_ n2_; (try clear hb); (try clear hb2); (try clear hk); (try clear hi); have hcz51_0 : w50.cell? ⟨gb242, 0, none⟩ = some (.int .i64 0) := (jD BK242.out 0).trans rfl; have hcz51_1 : w50.cell? ⟨gb242, 1, none⟩ = some (.slice none 0 0) := (jD BK242.out 1).trans rfl; have hfz51_0 := jC BK242.out 0; have hfz51_1 := jC BK242.out 1))
  refine bodyPost_ret (results_ct rfl _ _ gb242 28 #[.int .i64 0, .slice none 0 0] (0, 0) _ rfl (by (with_reducible repeat (first | refine jI ?_ _ | refine jK ?_ | refine jJ ?_ _)); refine jV (cs := #[.int .i64 0, .slice none 0 0]) ?_ 1 _ rfl; (with_reducible repeat (first | refine jI ?_ _ | refine jK ?_ | refine jJ ?_ _)); refine jV (cs := #[.int .i64 0, .slice none 0 0]) ?_ 0 _ rfl; (with_reducible repeat (first | refine jI ?_ _ | refine jK ?_ | refine jJ ?_ _)); exact BK242.out) Try.underlying28 rfl zr) rfl ?_
  exact ⟨_, by first | rfl | (simp [errW_none, errW_some] <;> rfl) | (simp [*, errW_none, errW_some] <;> rfl), by first | exact Kd.R_nil _ _ _ _ _ | exact Kd.N_nil _ _ _ _ _ | exact Kd.V_nil _ _ _ _ _ | exact Kd.Q_nil _ _ _ _ _ | exact Kd.S_nil _ _ _ _ _, zb2 HB GE241 GE242⟩

end Go.Proofs.Ytdgglhfnlljmeaa.PFnExactTakePieces
