/- Functions and contracts that FnExactMovePieces reaches (5 of 24). -/
import Derived.Test.YtdgglhfnlljmeaaQFnExactMovePiecesx3
namespace Go.Proofs.Ytdgglhfnlljmeaa.PFnExactMovePieces
open Go.RowKit Go.Proofs.YtdgglhfnlljmeaaW.PrintWords Go.Proofs.YtdgglhfnlljmeaaW.PrintLast Go.Proofs.YtdgglhfnlljmeaaW.PrintMore
attribute [local go_sem] max2_int min2_int max_two min_two max_three min_three max_four min_four   -- for this text's walks alone
set_option linter.unusedVariables false
set_option linter.unusedSimpArgs false
open Go.Proofs.YtdgglhfnlljmeaaX

/-! ### spec_TakePieces: function 35 -/
def spec_TakePieces.f (k : Nat) (l0 : List (S65)) (a1_0 : Int) (l1_1 : List Int) (a2 : ByteArray) (a3 : Int) : Option (Int × List Int × Int) := (spec_l26Code.f k l0 a1_0 l1_1 a2 a3).bind fun t148 => (if t148 = 0 then ((spec_l03Find.f k l0 a2).bind fun t149 => ((spec_l26With.f a1_0 l1_1 t149 (wrap64 (-a3))).bind fun bt150 => ((spec_IsMagazine.f k l0 bt150.1 bt150.2).bind fun t155 => (if t155 = true then (some (bt150.1, bt150.2, 0)) else (some (0, ([] : List Int), 5)))))) else (some (0, ([] : List Int), t148)))
theorem spec_TakePieces.mono : ∀ a0 a1 a2 a3 a4 k, LeO (spec_TakePieces.f k a0 a1 a2 a3 a4) (spec_TakePieces.f (k + 1) a0 a1 a2 a3 a4) := by
 intro a0 a1 a2 a3 a4 k
 unfold spec_TakePieces.f
 repeat' first
   | (with_reducible exact spec_IsMagazine.mono _ _ _ _)
   | (with_reducible exact spec_l03Find.mono _ _ _)
   | (with_reducible exact spec_l26Code.mono _ _ _ _ _ _)
   | (with_reducible exact LeO.refl _)
   | (with_reducible exact LeO.none _)
   | (with_reducible refine LeO.ite ?_ ?_)
   | (with_reducible refine LeO.bind ?_ (fun _ => ?_))
   | exact spec_IsMagazine.mono _ _ _ _
   | exact spec_l03Find.mono _ _ _
   | exact spec_l26Code.mono _ _ _ _ _ _
   | exact LeO.none _
   | refine LeO.ite ?_ ?_
   | refine LeO.bind ?_ (fun _ => ?_)
def spec_TakePieces.T4 : Bool × List (List Nat × List Nat) := (true, [([], []), ([], []), ([], []), ([1, 2], [1, 2]), ([], []), ([4], [4]), ([0, 3, 5, 3], [0, 3, 5]), ([], []), ([7, 6, 6, 0, 1, 2, 3, 4, 5, 6, 7], [6, 7])])
def spec_TakePieces.B4 : List Nat := [0, 0, 0, 6, 0, 16, 63, 0, 255]
theorem spec_TakePieces.tab4 : rtab .any (opsOf Try.f35 4) = spec_TakePieces.T4 := by kernel_rfl
theorem spec_TakePieces.bits4 : waitsOk spec_TakePieces.T4.2 spec_TakePieces.B4 = true := by kernel_rfl
set_option maxHeartbeats 8000000 in
set_option maxRecDepth 100000 in
theorem spec_TakePieces.calls (k : Nat) (A0 : Option Addr) (c0 : Nat) (l0 : List (S65)) (a1_0 : Int) (A1_1 : Option Addr) (c1_1 : Nat) (l1_1 : List Int) (a2 : ByteArray) (a3 : Int) (r1 : Int) (r2 : List Int) (r3 : Int) (w : World) (hr0 : Kd.C k65 w A0 l0.length l0) (hc0 : l0.length ≤ c0) (hr1_1 : Kd.C (Kd.int .i64) w A1_1 l1_1.length l1_1) (hc1_1 : l1_1.length ≤ c1_1) (h : spec_TakePieces.f k l0 a1_0 l1_1 a2 a3 = some (r1, r2, r3)) :
  Calls Try.prog 35 #[.slice A0 l0.length c0, .agg #[.int .i64 a1_0, .slice A1_1 l1_1.length c1_1], .string a2, .int .i64 a3] w fun e w' => ∃ v1_ : Value, e = .returned (.tuple #[.agg #[.int .i64 r1, v1_], .int .i64 r3]) ∧ Kd.R (Kd.int .i64) 2 w' w.heap.size (fun _ => True) v1_ r2 ∧ Below w.heap.size w w' := by
 have hu28 := Try.underlying28
 have HR0 := jA hr0
 have HC0 := jA hc0
 clear hr0 hc0
 have HR1_1 := jA hr1_1
 have HC1_1 := jA hc1_1
 clear hr1_1 hc1_1
 have HB := jA (Below.refl w.heap.size w)
 have H := h
 unfold spec_TakePieces.f at H
 clear h
 replace H := jG.mp H
 obtain ⟨t148, A50, H⟩ := H
 try dsimp only at H
 have A5 := jA A50
 clear A50
 by_cases c6 : t148 = 0
 ·rw [if_pos c6] at H
  have c6b0 : (t148 == 0) = true := beq_iff_eq.mpr c6
  have c6b1 : (t148 != 0) = false := bne_eq_false_iff_eq.mpr c6
  clear c6
  replace H := jG.mp H
  obtain ⟨t149, A70, H⟩ := H
  try dsimp only at H
  have A7 := jA A70
  clear A70
  replace H := jG.mp H
  obtain ⟨⟨t150, t151⟩, A80, H⟩ := H
  try dsimp only at H
  have A8 := jA A80
  clear A80
  replace H := jG.mp H
  obtain ⟨t155, A90, H⟩ := H
  try dsimp only at H
  have A9 := jA A90
  clear A90
  by_cases c10 : t155 = true
  ·subst c10
   rw [if_pos rfl] at H
   simp only [jN, jQ] at H
   obtain ⟨rfl, rfl, rfl⟩ := H
   go_enter Try.func35, Try.ntmps35
   try go_wp2_with (first | ((with_reducible refine jJ (N := 5) rfl ?_); refine zE 5 #[.int .i64 a1_0, .slice A1_1 l1_1.length c1_1] 28 ?_; intro gb146 hg w11 hbox hb; have BK146 := jA (hbox); have GW146 := zg0 hg HB; have GE146 := zg0 hg HB; replace HB := zS0 HB hb; clear hb hbox hg) | ((with_reducible refine jJ (N := 8) rfl ?_); refine zE 8 #[.int .i64 0, .slice none 0 0] 28 ?_; intro gb147 hg w12 hbox hb; have BK147 := jA (hbox); have GW147 := zg1 hg HB GE146; have GE147 := zg1 hg HB GE146; replace HB := zS1 HB GE146 hb; have NB146_147 := zn hg BK146; replace BK146 := zB BK146 hb; have NB147_146 := jA NB146_147.out.symm; clear hb hbox hg; have hnb13 := NB146_147.out; have hnc13 := NB147_146.out; have hcz14 := zc2 BK146) | ((with_reducible refine jK (f := 69) rfl ?_); refine zL (some 16) Try.func69 #[.slice A0 l0.length c0, .agg #[.int .i64 a1_0, .slice A1_1 l1_1.length c1_1], .string a2, .int .i64 a3] ?_; (with_reducible refine (spec_l26Code.calls k _ _ l0 a1_0 _ _ l1_1 a2 a3 t148 _ ?side1 ?side2 ?side3 ?side4 A5.out).mono ?_); (case side1 => exact zs HR0 HB); (case side2 => exact HC0.out); (case side3 => exact zs HR1_1 HB); (case side4 => exact HC1_1.out); rintro e w15 ⟨rfl, hb⟩; refine ⟨_, rfl, ?_⟩; replace BK146 := zB BK146 hb; replace BK147 := zB BK147 hb; replace HB := zS2 HB GE146 GE147 hb; clear hb))
   replace BK146 := jA (blk_drew BK146.out)
   replace BK147 := jA (blk_drew BK147.out)
   replace HB := jA (jR HB.out)
   refine start_ (n := 9) (S := fun w' => w'.cell? ⟨gb146, 0, none⟩ = some (.int .i64 a1_0) ∧ w'.cell? ⟨gb146, 1, none⟩ = some (.slice A1_1 l1_1.length c1_1)) (ds := []) m9_0 zr rfl rfl ⟨(jD BK146.out 0).trans rfl, (jD BK146.out 1).trans rfl⟩ (fun hHeld => ?_); refine with_tabW spec_TakePieces.tab4 spec_TakePieces.bits4 (fun HT_ HW_ => ?_)
   generalize w15.drew = w16 at BK146 BK147 HB hHeld ⊢
   refine zp HT_ 1 22 m9_80 ?_
   refine zp HT_ 2 23 m9_c0 ?_
   refine zp HT_ 4 25 m9_d0 ?_
   refine zp HT_ 5 26 m9_d8 ?_
   refine zt2 HT_ HW_ hHeld 0 21 m9_1d8 ?_
   refine join_ (σ := Value × Nat) 1 m9_1fe (fun s_ => [(24, .int .i64 t149), (27, .agg #[.int .i64 t150, s_.1]), (11, .pointer (some ⟨s_.2, 0, none⟩))]) (fun s_ w' => (w'.cell? ⟨gb146, 0, none⟩ = some (.int .i64 a1_0) ∧ w'.cell? ⟨gb146, 1, none⟩ = some (.slice A1_1 l1_1.length c1_1)) ∧ (Kd.R (Kd.int .i64) 2 w' w.heap.size (fun _ => True) s_.1 t151) ∧ (w'.heap[gb146]? = some (.cells #[.int .i64 a1_0, .slice A1_1 l1_1.length c1_1] 28 (0, 0))) ∧ (w'.heap[gb147]? = some (.cells #[.int .i64 0, .slice none 0 0] 28 (0, 0))) ∧ (w'.heap[s_.2]? = some (.cells #[.int .i64 0, .slice none 0 0] 28 (0, 0))) ∧ (w.heap.size ≤ s_.2) ∧ (w.heap.size ≤ s_.2) ∧ (gb146 ≠ s_.2) ∧ (s_.2 ≠ gb146) ∧ (gb147 ≠ s_.2) ∧ (s_.2 ≠ gb147) ∧ (Below w.heap.size w w')) ?_ ?_
   rotate_left
   ·intro hCont
    refine two_ (i := 3) (j := 7) (Ni := some 24) (Nj := some 11) m9_1f8 m9_1da rfl rfl rfl rfl (two_of HT_.out zr) (by decide) (by decide) (fun K hK => ?_) (fun K hK => ?_)
    ·skip
     refine goes_ Try.func73 zr rfl #[.slice A0 l0.length c0, .string a2] (by rfl) rfl rfl zm ?_
     with_reducible refine (spec_l03Find.calls k _ _ l0 a2 t149 _ ?side1 ?side2 A7.out).mono ?_
     (case side1 => exact zs HR0 HB)
     (case side2 => exact HC0.out)
     rintro e w' ⟨rfl, ⟨nd, rfl⟩⟩
     refine ⟨_, rfl, ?_⟩
     refine hK.out _ _ ⟨(jD BK146.out 0).trans rfl, (jD BK146.out 1).trans rfl⟩ (fun hHeld => ?_)
     clear hK K
     refine norm_ (a' := ?_) ?_ ?_
     rotate_left
     ·show Act.put _ (some 24) _ = _
      simp only [Act.put, jC, jE, jF, i64_w, i32_w]
      rfl
     refine two_ (i := 6) (j := 7) (Ni := some 27) (Nj := some 11) m9_1fc m9_1fa rfl rfl rfl rfl (two_of HT_.out zr) (by decide) (by decide) (fun K hK => ?_) (fun K hK => ?_)
     ·skip
      refine goes_ Try.func72 zr rfl #[.agg #[.int .i64 a1_0, .slice A1_1 l1_1.length c1_1], .int .i64 t149, .int .i64 (wrap64 (-a3))] (by rfl) rfl rfl zm ?_
      with_reducible refine (spec_l26With.calls a1_0 _ _ l1_1 t149 (wrap64 (-a3)) t150 t151 _ ?side1 ?side2 A8.out).mono ?_
      (case side1 => repeat (first | exact HR1_1.out | exact (Kd.C_below HR1_1.out (zb2 HB GE146 GE147)) | (with_reducible refine Kd.C_alloc ?_ _) | (with_reducible refine Kd.C_drewN ?_ _) | (with_reducible refine Kd.C_drew ?_)))
      (case side2 => exact HC1_1.out)
      rintro e w17 ⟨v152, rfl, ho0, hb⟩
      refine ⟨_, rfl, ?_⟩
      have HO153 := jA (Kd.R_lower ho0 (below_size (zb2 HB GE146 GE147)))
      replace BK146 := zB BK146 hb
      replace BK147 := zB BK147 hb
      replace HB := zS2 HB GE146 GE147 hb
      (try clear hb)
      (try clear hb2)
      (try clear hk)
      (try clear hi)
      (try clear ho0)
      refine hK.out _ _ ⟨(jD BK146.out 0).trans rfl, (jD BK146.out 1).trans rfl⟩ (fun hHeld => ?_)
      clear hK K
      refine norm_ (a' := ?_) ?_ ?_
      rotate_left
      ·show Act.put _ (some 27) _ = _
       simp only [Act.put, jC, jE, jF, i64_w, i32_w]
       rfl
      refine one_ (i := 7) (N := some 11) m9_1fe rfl rfl (one_of HT_.out zr) (by decide) (fun K hK => ?_)
      refine box_step ?hg (N := 11) ?hd (cs := #[.int .i64 0, .slice none 0 0]) (t := 28) ?hr ?_; (case hd => rfl); (case hg => rfl); (case hr => first | (go_simp; done) | (go_simp; rfl))
      intro gb154 hg w18 hbox hb
      replace HO153 := jA (Kd.R_below (zo HO153) hb)
      have BK154 := jA (hbox)
      have GW154 := zg2 hg HB GE146 GE147
      have GE154 := zg2 hg HB GE146 GE147
      replace HB := zS2 HB GE146 GE147 hb
      have NB146_154 := zn hg BK146
      have NB154_146 := zN hg BK146
      replace BK146 := zB BK146 hb
      have NB147_154 := zn hg BK147
      have NB154_147 := zN hg BK147
      replace BK147 := zB BK147 hb
      clear hb hbox hg
      refine hK.out _ _ ⟨(jD BK146.out 0).trans rfl, (jD BK146.out 1).trans rfl⟩ (fun hHeld => ?_)
      clear hK K
      refine norm_ (a' := ?_) ?_ ?_
      rotate_left
      ·show Act.put _ (some 11) _ = _
       simp only [Act.put, jC, jE, jF, i64_w, i32_w]
       rfl
      exact norm_ (by simp only [putAll, Act.put, jC, jE, jF]) (hCont (v152, gb154) _ ⟨hHeld, (zo HO153), (zk BK146), (zk BK147), (zk BK154), GW154.out, GE154.out, NB146_154.out, NB154_146.out, NB147_154.out, NB154_147.out, (zb3 HB GE146 GE147 GE154)⟩)
     ·skip
      refine box_step ?hg (N := 11) ?hd (cs := #[.int .i64 0, .slice none 0 0]) (t := 28) ?hr ?_; (case hd => rfl); (case hg => rfl); (case hr => first | (go_simp; done) | (go_simp; rfl))
      intro gb154 hg w17 hbox hb
      have BK154 := jA (hbox)
      have GW154 := zg2 hg HB GE146 GE147
      have GE154 := zg2 hg HB GE146 GE147
      replace HB := zS2 HB GE146 GE147 hb
      have NB146_154 := zn hg BK146
      have NB154_146 := zN hg BK146
      replace BK146 := zB BK146 hb
      have NB147_154 := zn hg BK147
      have NB154_147 := zN hg BK147
      replace BK147 := zB BK147 hb
      clear hb hbox hg
      refine hK.out _ _ ⟨(jD BK146.out 0).trans rfl, (jD BK146.out 1).trans rfl⟩ (fun hHeld => ?_)
      clear hK K
      refine norm_ (a' := ?_) ?_ ?_
      rotate_left
      ·show Act.put _ (some 11) _ = _
       simp only [Act.put, jC, jE, jF, i64_w, i32_w]
       rfl
      refine one_ (i := 6) (N := some 27) m9_1fe rfl rfl (one_of HT_.out zr) (by decide) (fun K hK => ?_)
      refine goes_ Try.func72 zr rfl #[.agg #[.int .i64 a1_0, .slice A1_1 l1_1.length c1_1], .int .i64 t149, .int .i64 (wrap64 (-a3))] (by rfl) rfl rfl zm ?_
      with_reducible refine (spec_l26With.calls a1_0 _ _ l1_1 t149 (wrap64 (-a3)) t150 t151 _ ?side1 ?side2 A8.out).mono ?_
      (case side1 => exact zs HR1_1 HB)
      (case side2 => exact HC1_1.out)
      rintro e w18 ⟨v152, rfl, ho0, hb⟩
      refine ⟨_, rfl, ?_⟩
      have HO153 := jA (Kd.R_lower ho0 (below_size (zb3 HB GE146 GE147 GE154)))
      replace BK146 := zB BK146 hb
      replace BK147 := zB BK147 hb
      replace BK154 := zB BK154 hb
      replace HB := zS3 HB GE146 GE147 GE154 hb
      (try clear hb)
      (try clear hb2)
      (try clear hk)
      (try clear hi)
      (try clear ho0)
      refine hK.out _ _ ⟨(jD BK146.out 0).trans rfl, (jD BK146.out 1).trans rfl⟩ (fun hHeld => ?_)
      clear hK K
      refine norm_ (a' := ?_) ?_ ?_
      rotate_left
      ·show Act.put _ (some 27) _ = _
       simp only [Act.put, jC, jE, jF, i64_w, i32_w]
       rfl
      exact norm_ (by simp only [putAll, Act.put, jC, jE, jF]) (hCont (v152, gb154) _ ⟨hHeld, (zo HO153), (zk BK146), (zk BK147), (zk BK154), GW154.out, GE154.out, NB146_154.out, NB154_146.out, NB147_154.out, NB154_147.out, (zb3 HB GE146 GE147 GE154)⟩)
    ·skip
     refine box_step ?hg (N := 11) ?hd (cs := #[.int .i64 0, .slice none 0 0]) (t := 28) ?hr ?_; (case hd => rfl); (case hg => rfl); (case hr => first | (go_simp; done) | (go_simp; rfl))
     intro gb154 hg w17 hbox hb
     have BK154 := jA (hbox)
     have GW154 := zg2 hg HB GE146 GE147
     have GE154 := zg2 hg HB GE146 GE147
     replace HB := zS2 HB GE146 GE147 hb
     have NB146_154 := zn hg BK146
     have NB154_146 := zN hg BK146
     replace BK146 := zB BK146 hb
     have NB147_154 := zn hg BK147
     have NB154_147 := zN hg BK147
     replace BK147 := zB BK147 hb
     clear hb hbox hg
     refine hK.out _ _ ⟨(jD BK146.out 0).trans rfl, (jD BK146.out 1).trans rfl⟩ (fun hHeld => ?_)
     clear hK K
     refine norm_ (a' := ?_) ?_ ?_
     rotate_left
     ·show Act.put _ (some 11) _ = _
      simp only [Act.put, jC, jE, jF, i64_w, i32_w]
      rfl
     refine one_ (i := 3) (N := some 24) m9_1fa rfl rfl (one_of HT_.out zr) (by decide) (fun K hK => ?_)
     refine goes_ Try.func73 zr rfl #[.slice A0 l0.length c0, .string a2] (by rfl) rfl rfl zm ?_
     with_reducible refine (spec_l03Find.calls k _ _ l0 a2 t149 _ ?side1 ?side2 A7.out).mono ?_
     (case side1 => exact zs HR0 HB)
     (case side2 => exact HC0.out)
     rintro e w' ⟨rfl, ⟨nd, rfl⟩⟩
     refine ⟨_, rfl, ?_⟩
     refine hK.out _ _ ⟨(jD BK146.out 0).trans rfl, (jD BK146.out 1).trans rfl⟩ (fun hHeld => ?_)
     clear hK K
     refine norm_ (a' := ?_) ?_ ?_
     rotate_left
     ·show Act.put _ (some 24) _ = _
      simp only [Act.put, jC, jE, jF, i64_w, i32_w]
      rfl
     refine one_ (i := 6) (N := some 27) m9_1fe rfl rfl (one_of HT_.out zr) (by decide) (fun K hK => ?_)
     refine goes_ Try.func72 zr rfl #[.agg #[.int .i64 a1_0, .slice A1_1 l1_1.length c1_1], .int .i64 t149, .int .i64 (wrap64 (-a3))] (by rfl) rfl rfl zm ?_
     with_reducible refine (spec_l26With.calls a1_0 _ _ l1_1 t149 (wrap64 (-a3)) t150 t151 _ ?side1 ?side2 A8.out).mono ?_
     (case side1 => repeat (first | exact HR1_1.out | exact (Kd.C_below HR1_1.out (zb3 HB GE146 GE147 GE154)) | (with_reducible refine Kd.C_alloc ?_ _) | (with_reducible refine Kd.C_drewN ?_ _) | (with_reducible refine Kd.C_drew ?_)))
     (case side2 => exact HC1_1.out)
     rintro e w18 ⟨v152, rfl, ho0, hb⟩
     refine ⟨_, rfl, ?_⟩
     have HO153 := jA (Kd.R_lower ho0 (below_size (zb3 HB GE146 GE147 GE154)))
     replace BK146 := zB BK146 hb
     replace BK147 := zB BK147 hb
     replace BK154 := zB BK154 hb
     replace HB := zS3 HB GE146 GE147 GE154 hb
     (try clear hb)
     (try clear hb2)
     (try clear hk)
     (try clear hi)
     (try clear ho0)
     refine hK.out _ _ ⟨(jD BK146.out 0).trans rfl, (jD BK146.out 1).trans rfl⟩ (fun hHeld => ?_)
     clear hK K
     refine norm_ (a' := ?_) ?_ ?_
     rotate_left
     ·show Act.put _ (some 27) _ = _
      simp only [Act.put, jC, jE, jF, i64_w, i32_w]
      rfl
     exact norm_ (by simp only [putAll, Act.put, jC, jE, jF]) (hCont (v152, gb154) _ ⟨hHeld, (zo HO153), (zk BK146), (zk BK147), (zk BK154), GW154.out, GE154.out, NB146_154.out, NB154_146.out, NB147_154.out, NB154_147.out, (zb3 HB GE146 GE147 GE154)⟩)
   rintro ⟨v152, gb154⟩ w19 ⟨hS_, h0_, h1_, h2_, h3_, h4_, h5_, h6_, h7_, h8_, h9_, h10_⟩
   have HO153 : Aside0 (Kd.R (Kd.int .i64) 2 w19 w.heap.size (fun _ => True) v152 t151) := ⟨h0_⟩
   replace BK146 : Aside0 (w19.heap[gb146]? = some (.cells #[.int .i64 a1_0, .slice A1_1 l1_1.length c1_1] 28 (0, 0))) := ⟨h1_⟩
   replace BK147 : Aside0 (w19.heap[gb147]? = some (.cells #[.int .i64 0, .slice none 0 0] 28 (0, 0))) := ⟨h2_⟩
   have BK154 : Aside0 (w19.heap[gb154]? = some (.cells #[.int .i64 0, .slice none 0 0] 28 (0, 0))) := ⟨h3_⟩
   have GW154 : Aside0 (w.heap.size ≤ gb154) := ⟨h4_⟩
   have GE154 : Aside0 (w.heap.size ≤ gb154) := ⟨h5_⟩
   have NB146_154 : Aside0 (gb146 ≠ gb154) := ⟨h6_⟩
   have NB154_146 : Aside0 (gb154 ≠ gb146) := ⟨h7_⟩
   have NB147_154 : Aside0 (gb147 ≠ gb154) := ⟨h8_⟩
   have NB154_147 : Aside0 (gb154 ≠ gb147) := ⟨h9_⟩
   replace HB : Aside0 (Below w.heap.size w w19) := ⟨h10_⟩
   clear h0_ h1_ h2_ h3_ h4_ h5_ h6_ h7_ h8_ h9_ h10_
   have hHeld : w19.cell? ⟨gb146, 0, none⟩ = some (.int .i64 a1_0) ∧ w19.cell? ⟨gb146, 1, none⟩ = some (.slice A1_1 l1_1.length c1_1) := hS_
   obtain ⟨Ao21, co21, eo21⟩ := Kd.R_slice HO153.out
   (first | subst eo21 | (injection eo21 with f1_ f2_ f3_; have f4_ := f1_.symm; have f5_ := f3_.symm; clear f1_ f2_ f3_; subst f4_; subst f5_))
   refine norm_ (a' := ?_) ?_ ?_
   rotate_left
   ·simp only [putAll, Act.put, jC, jE, jF]
    rfl
   refine one_ (i := 8) (N := none) m9_1ff rfl rfl (one_of HT_.out zr) (by decide) (fun K hK => ?_)
   have hs20 : w19.cell? ⟨gb154, 0, none⟩ = some (.int .i64 0) := (jD BK154.out 0).trans rfl
   have hfs20 := blk_frozen BK154.out 0
   have hns20_0 := NB146_154.out
   have hns20_1 := NB147_154.out
   have hms20_0 := NB154_146.out
   have hms20_1 := NB154_147.out
   have hs22 : w19.cell? ⟨gb154, 1, none⟩ = some (.slice none 0 0) := (jD BK154.out 1).trans rfl
   have hfs22 := blk_frozen BK154.out 1
   have hns22_0 := NB146_154.out
   have hns22_1 := NB147_154.out
   have hms22_0 := NB154_146.out
   have hms22_1 := NB154_147.out
   refine skip_ (w1 := ?_) (by rfl) rfl ?_ ?_
   rotate_left
   ·go_simp
    rfl
   refine hK.out _ _ ⟨((jL (p := ⟨gb154, _, none⟩) NB146_154.out _).trans (((jL (p := ⟨gb154, _, none⟩) NB146_154.out _).trans (hHeld.1)))), ((jL (p := ⟨gb154, _, none⟩) NB146_154.out _).trans (((jL (p := ⟨gb154, _, none⟩) NB146_154.out _).trans (hHeld.2))))⟩ (fun hHeld => ?_)
   clear hK K
   refine done_ (done_of HT_.out zr) ?_
   have hnb23 := NB154_146.out
   have hnc23 := NB146_154.out
   have hnb24 := NB154_147.out
   have hnc24 := NB147_154.out
   have hcz25 := zc2 BK154
   try go_wp2_with (first | ((with_reducible refine jK (f := 25) rfl ?_); refine zL (some 30) Try.func25 #[.slice A0 l0.length c0, .agg #[.int .i64 t150, .slice Ao21 t151.length co21]] ?_; (with_reducible refine (spec_IsMagazine.calls k _ _ l0 t150 _ _ t151 true _ ?side1 ?side2 ?side3 ?side4 A9.out).mono ?_); (case side1 => exact Kd.C_below HR0.out (zb3 HB GE146 GE147 GE154)); (case side2 => exact HC0.out); (case side3 => refine (jP (e := 2) (base := w.heap.size) (ok := fun k_ => True) (n := t151.length) (c := co21) ?_).2.2; exact (zU HO153 BK154)); (case side4 => exact (jP HO153.out).2.1); rintro e w26 ⟨rfl, hb⟩; refine ⟨_, rfl, ?_⟩; replace HO153 := jA (Kd.R_below (zU HO153 BK154) hb); replace BK146 := jA (jO (g := gb146) (o := .cells #[.int .i64 a1_0, .slice A1_1 l1_1.length c1_1] 28 (0, 0)) (zQ1 BK146 NB146_154) hb); replace BK147 := jA (jO (g := gb147) (o := .cells #[.int .i64 0, .slice none 0 0] 28 (0, 0)) (zQ1 BK147 NB147_154) hb); replace BK154 := jA (jO (g := gb154) (o := .cells #[.int .i64 t150, .slice Ao21 t151.length co21] 28 (0, 0)) (zP0 BK154) hb); replace HB := zS3 HB GE146 GE147 GE154 hb; clear hb; have hcz27 := zc2 BK154; have hcz28 := zc2 BK147))
   refine bodyPost_ret (results_ct rfl _ _ gb147 28 #[.int .i64 t150, .slice Ao21 t151.length co21] (0, 0) _ rfl (zP0 BK147) Try.underlying28 rfl zr) rfl ?_
   exact ⟨_, ze, zT HO153 BK147, zb3 HB GE146 GE147 GE154⟩
  ·replace c10 := Bool.eq_false_iff.mpr c10
   subst c10
   rw [if_neg zfalse] at H
   simp only [jN, jQ] at H
   obtain ⟨rfl, rfl, rfl⟩ := H
   go_enter Try.func35, Try.ntmps35
   try go_wp2_with (first | ((with_reducible refine jJ (N := 5) rfl ?_); refine zE 5 #[.int .i64 a1_0, .slice A1_1 l1_1.length c1_1] 28 ?_; intro gb146 hg w29 hbox hb; have BK146 := jA (hbox); have GW146 := zg0 hg HB; have GE146 := zg0 hg HB; replace HB := zS0 HB hb; clear hb hbox hg) | ((with_reducible refine jJ (N := 8) rfl ?_); refine zE 8 #[.int .i64 0, .slice none 0 0] 28 ?_; intro gb147 hg w30 hbox hb; have BK147 := jA (hbox); have GW147 := zg1 hg HB GE146; have GE147 := zg1 hg HB GE146; replace HB := zS1 HB GE146 hb; have NB146_147 := zn hg BK146; replace BK146 := zB BK146 hb; have NB147_146 := jA NB146_147.out.symm; clear hb hbox hg; have hnb31 := NB146_147.out; have hnc31 := NB147_146.out; have hcz32 := zc2 BK146) | ((with_reducible refine jK (f := 69) rfl ?_); refine zL (some 16) Try.func69 #[.slice A0 l0.length c0, .agg #[.int .i64 a1_0, .slice A1_1 l1_1.length c1_1], .string a2, .int .i64 a3] ?_; (with_reducible refine (spec_l26Code.calls k _ _ l0 a1_0 _ _ l1_1 a2 a3 t148 _ ?side1 ?side2 ?side3 ?side4 A5.out).mono ?_); (case side1 => exact zs HR0 HB); (case side2 => exact HC0.out); (case side3 => exact zs HR1_1 HB); (case side4 => exact HC1_1.out); rintro e w33 ⟨rfl, hb⟩; refine ⟨_, rfl, ?_⟩; replace BK146 := zB BK146 hb; replace BK147 := zB BK147 hb; replace HB := zS2 HB GE146 GE147 hb; clear hb))
   replace BK146 := jA (blk_drew BK146.out)
   replace BK147 := jA (blk_drew BK147.out)
   replace HB := jA (jR HB.out)
   refine start_ (n := 9) (S := fun w' => w'.cell? ⟨gb146, 0, none⟩ = some (.int .i64 a1_0) ∧ w'.cell? ⟨gb146, 1, none⟩ = some (.slice A1_1 l1_1.length c1_1)) (ds := []) m9_0 zr rfl rfl ⟨(jD BK146.out 0).trans rfl, (jD BK146.out 1).trans rfl⟩ (fun hHeld => ?_); refine with_tabW spec_TakePieces.tab4 spec_TakePieces.bits4 (fun HT_ HW_ => ?_)
   generalize w33.drew = w34 at BK146 BK147 HB hHeld ⊢
   refine zp HT_ 1 22 m9_80 ?_
   refine zp HT_ 2 23 m9_c0 ?_
   refine zp HT_ 4 25 m9_d0 ?_
   refine zp HT_ 5 26 m9_d8 ?_
   refine zt2 HT_ HW_ hHeld 0 21 m9_1d8 ?_
   refine join_ (σ := Value × Nat) 1 m9_1fe (fun s_ => [(24, .int .i64 t149), (27, .agg #[.int .i64 t150, s_.1]), (11, .pointer (some ⟨s_.2, 0, none⟩))]) (fun s_ w' => (w'.cell? ⟨gb146, 0, none⟩ = some (.int .i64 a1_0) ∧ w'.cell? ⟨gb146, 1, none⟩ = some (.slice A1_1 l1_1.length c1_1)) ∧ (Kd.R (Kd.int .i64) 2 w' w.heap.size (fun _ => True) s_.1 t151) ∧ (w'.heap[gb146]? = some (.cells #[.int .i64 a1_0, .slice A1_1 l1_1.length c1_1] 28 (0, 0))) ∧ (w'.heap[gb147]? = some (.cells #[.int .i64 0, .slice none 0 0] 28 (0, 0))) ∧ (w'.heap[s_.2]? = some (.cells #[.int .i64 0, .slice none 0 0] 28 (0, 0))) ∧ (w.heap.size ≤ s_.2) ∧ (w.heap.size ≤ s_.2) ∧ (gb146 ≠ s_.2) ∧ (s_.2 ≠ gb146) ∧ (gb147 ≠ s_.2) ∧ (s_.2 ≠ gb147) ∧ (Below w.heap.size w w')) ?_ ?_
   rotate_left
   ·intro hCont
    refine two_ (i := 3) (j := 7) (Ni := some 24) (Nj := some 11) m9_1f8 m9_1da rfl rfl rfl rfl (two_of HT_.out zr) (by decide) (by decide) (fun K hK => ?_) (fun K hK => ?_)
    ·skip
     refine goes_ Try.func73 zr rfl #[.slice A0 l0.length c0, .string a2] (by rfl) rfl rfl zm ?_
     with_reducible refine (spec_l03Find.calls k _ _ l0 a2 t149 _ ?side1 ?side2 A7.out).mono ?_
     (case side1 => exact zs HR0 HB)
     (case side2 => exact HC0.out)
     rintro e w' ⟨rfl, ⟨nd, rfl⟩⟩
     refine ⟨_, rfl, ?_⟩
     refine hK.out _ _ ⟨(jD BK146.out 0).trans rfl, (jD BK146.out 1).trans rfl⟩ (fun hHeld => ?_)
     clear hK K
     refine norm_ (a' := ?_) ?_ ?_
     rotate_left
     ·show Act.put _ (some 24) _ = _
      simp only [Act.put, jC, jE, jF, i64_w, i32_w]
      rfl
     refine two_ (i := 6) (j := 7) (Ni := some 27) (Nj := some 11) m9_1fc m9_1fa rfl rfl rfl rfl (two_of HT_.out zr) (by decide) (by decide) (fun K hK => ?_) (fun K hK => ?_)
     ·skip
      refine goes_ Try.func72 zr rfl #[.agg #[.int .i64 a1_0, .slice A1_1 l1_1.length c1_1], .int .i64 t149, .int .i64 (wrap64 (-a3))] (by rfl) rfl rfl zm ?_
      with_reducible refine (spec_l26With.calls a1_0 _ _ l1_1 t149 (wrap64 (-a3)) t150 t151 _ ?side1 ?side2 A8.out).mono ?_
      (case side1 => repeat (first | exact HR1_1.out | exact (Kd.C_below HR1_1.out (zb2 HB GE146 GE147)) | (with_reducible refine Kd.C_alloc ?_ _) | (with_reducible refine Kd.C_drewN ?_ _) | (with_reducible refine Kd.C_drew ?_)))
      (case side2 => exact HC1_1.out)
      rintro e w35 ⟨v152, rfl, ho0, hb⟩
      refine ⟨_, rfl, ?_⟩
      have HO153 := jA (Kd.R_lower ho0 (below_size (zb2 HB GE146 GE147)))
      replace BK146 := zB BK146 hb
      replace BK147 := zB BK147 hb
      replace HB := zS2 HB GE146 GE147 hb
      (try clear hb)
      (try clear hb2)
      (try clear hk)
      (try clear hi)
      (try clear ho0)
      refine hK.out _ _ ⟨(jD BK146.out 0).trans rfl, (jD BK146.out 1).trans rfl⟩ (fun hHeld => ?_)
      clear hK K
      refine norm_ (a' := ?_) ?_ ?_
      rotate_left
      ·show Act.put _ (some 27) _ = _
       simp only [Act.put, jC, jE, jF, i64_w, i32_w]
       rfl
      refine one_ (i := 7) (N := some 11) m9_1fe rfl rfl (one_of HT_.out zr) (by decide) (fun K hK => ?_)
      refine box_step ?hg (N := 11) ?hd (cs := #[.int .i64 0, .slice none 0 0]) (t := 28) ?hr ?_; (case hd => rfl); (case hg => rfl); (case hr => first | (go_simp; done) | (go_simp; rfl))
      intro gb154 hg w36 hbox hb
      replace HO153 := jA (Kd.R_below (zo HO153) hb)
      have BK154 := jA (hbox)
      have GW154 := zg2 hg HB GE146 GE147
      have GE154 := zg2 hg HB GE146 GE147
      replace HB := zS2 HB GE146 GE147 hb
      have NB146_154 := zn hg BK146
      have NB154_146 := zN hg BK146
      replace BK146 := zB BK146 hb
      have NB147_154 := zn hg BK147
      have NB154_147 := zN hg BK147
      replace BK147 := zB BK147 hb
      clear hb hbox hg
      refine hK.out _ _ ⟨(jD BK146.out 0).trans rfl, (jD BK146.out 1).trans rfl⟩ (fun hHeld => ?_)
      clear hK K
      refine norm_ (a' := ?_) ?_ ?_
      rotate_left
      ·show Act.put _ (some 11) _ = _
       simp only [Act.put, jC, jE, jF, i64_w, i32_w]
       rfl
      exact norm_ (by simp only [putAll, Act.put, jC, jE, jF]) (hCont (v152, gb154) _ ⟨hHeld, (zo HO153), (zk BK146), (zk BK147), (zk BK154), GW154.out, GE154.out, NB146_154.out, NB154_146.out, NB147_154.out, NB154_147.out, (zb3 HB GE146 GE147 GE154)⟩)
     ·skip
      refine box_step ?hg (N := 11) ?hd (cs := #[.int .i64 0, .slice none 0 0]) (t := 28) ?hr ?_; (case hd => rfl); (case hg => rfl); (case hr => first | (go_simp; done) | (go_simp; rfl))
      intro gb154 hg w35 hbox hb
      have BK154 := jA (hbox)
      have GW154 := zg2 hg HB GE146 GE147
      have GE154 := zg2 hg HB GE146 GE147
      replace HB := zS2 HB GE146 GE147 hb
      have NB146_154 := zn hg BK146
      have NB154_146 := zN hg BK146
      replace BK146 := zB BK146 hb
      have NB147_154 := zn hg BK147
      have NB154_147 := zN hg BK147
      replace BK147 := zB BK147 hb
      clear hb hbox hg
      refine hK.out _ _ ⟨(jD BK146.out 0).trans rfl, (jD BK146.out 1).trans rfl⟩ (fun hHeld => ?_)
      clear hK K
      refine norm_ (a' := ?_) ?_ ?_
      rotate_left
      ·show Act.put _ (some 11) _ = _
       simp only [Act.put, jC, jE, jF, i64_w, i32_w]
       rfl
      refine one_ (i := 6) (N := some 27) m9_1fe rfl rfl (one_of HT_.out zr) (by decide) (fun K hK => ?_)
      refine goes_ Try.func72 zr rfl #[.agg #[.int .i64 a1_0, .slice A1_1 l1_1.length c1_1], .int .i64 t149, .int .i64 (wrap64 (-a3))] (by rfl) rfl rfl zm ?_
      with_reducible refine (spec_l26With.calls a1_0 _ _ l1_1 t149 (wrap64 (-a3)) t150 t151 _ ?side1 ?side2 A8.out).mono ?_
      (case side1 => exact zs HR1_1 HB)
      (case side2 => exact HC1_1.out)
      rintro e w36 ⟨v152, rfl, ho0, hb⟩
      refine ⟨_, rfl, ?_⟩
      have HO153 := jA (Kd.R_lower ho0 (below_size (zb3 HB GE146 GE147 GE154)))
      replace BK146 := zB BK146 hb
      replace BK147 := zB BK147 hb
      replace BK154 := zB BK154 hb
      replace HB := zS3 HB GE146 GE147 GE154 hb
      (try clear hb)
      (try clear hb2)
      (try clear hk)
      (try clear hi)
      (try clear ho0)
      refine hK.out _ _ ⟨(jD BK146.out 0).trans rfl, (jD BK146.out 1).trans rfl⟩ (fun hHeld => ?_)
      clear hK K
      refine norm_ (a' := ?_) ?_ ?_
      rotate_left
      ·show Act.put _ (some 27) _ = _
       simp only [Act.put, jC, jE, jF, i64_w, i32_w]
       rfl
      exact norm_ (by simp only [putAll, Act.put, jC, jE, jF]) (hCont (v152, gb154) _ ⟨hHeld, (zo HO153), (zk BK146), (zk BK147), (zk BK154), GW154.out, GE154.out, NB146_154.out, NB154_146.out, NB147_154.out, NB154_147.out, (zb3 HB GE146 GE147 GE154)⟩)
    ·skip
     refine box_step ?hg (N := 11) ?hd (cs := #[.int .i64 0, .slice none 0 0]) (t := 28) ?hr ?_; (case hd => rfl); (case hg => rfl); (case hr => first | (go_simp; done) | (go_simp; rfl))
     intro gb154 hg w35 hbox hb
     have BK154 := jA (hbox)
     have GW154 := zg2 hg HB GE146 GE147
     have GE154 := zg2 hg HB GE146 GE147
     replace HB := zS2 HB GE146 GE147 hb
     have NB146_154 := zn hg BK146
     have NB154_146 := zN hg BK146
     replace BK146 := zB BK146 hb
     have NB147_154 := zn hg BK147
     have NB154_147 := zN hg BK147
     replace BK147 := zB BK147 hb
     clear hb hbox hg
     refine hK.out _ _ ⟨(jD BK146.out 0).trans rfl, (jD BK146.out 1).trans rfl⟩ (fun hHeld => ?_)
     clear hK K
     refine norm_ (a' := ?_) ?_ ?_
     rotate_left
     ·show Act.put _ (some 11) _ = _
      simp only [Act.put, jC, jE, jF, i64_w, i32_w]
      rfl
     refine one_ (i := 3) (N := some 24) m9_1fa rfl rfl (one_of HT_.out zr) (by decide) (fun K hK => ?_)
     refine goes_ Try.func73 zr rfl #[.slice A0 l0.length c0, .string a2] (by rfl) rfl rfl zm ?_
     with_reducible refine (spec_l03Find.calls k _ _ l0 a2 t149 _ ?side1 ?side2 A7.out).mono ?_
     (case side1 => exact zs HR0 HB)
     (case side2 => exact HC0.out)
     rintro e w' ⟨rfl, ⟨nd, rfl⟩⟩
     refine ⟨_, rfl, ?_⟩
     refine hK.out _ _ ⟨(jD BK146.out 0).trans rfl, (jD BK146.out 1).trans rfl⟩ (fun hHeld => ?_)
     clear hK K
     refine norm_ (a' := ?_) ?_ ?_
     rotate_left
     ·show Act.put _ (some 24) _ = _
      simp only [Act.put, jC, jE, jF, i64_w, i32_w]
      rfl
     refine one_ (i := 6) (N := some 27) m9_1fe rfl rfl (one_of HT_.out zr) (by decide) (fun K hK => ?_)
     refine goes_ Try.func72 zr rfl #[.agg #[.int .i64 a1_0, .slice A1_1 l1_1.length c1_1], .int .i64 t149, .int .i64 (wrap64 (-a3))] (by rfl) rfl rfl zm ?_
     with_reducible refine (spec_l26With.calls a1_0 _ _ l1_1 t149 (wrap64 (-a3)) t150 t151 _ ?side1 ?side2 A8.out).mono ?_
     (case side1 => repeat (first | exact HR1_1.out | exact (Kd.C_below HR1_1.out (zb3 HB GE146 GE147 GE154)) | (with_reducible refine Kd.C_alloc ?_ _) | (with_reducible refine Kd.C_drewN ?_ _) | (with_reducible refine Kd.C_drew ?_)))
     (case side2 => exact HC1_1.out)
     rintro e w36 ⟨v152, rfl, ho0, hb⟩
     refine ⟨_, rfl, ?_⟩
     have HO153 := jA (Kd.R_lower ho0 (below_size (zb3 HB GE146 GE147 GE154)))
     replace BK146 := zB BK146 hb
     replace BK147 := zB BK147 hb
     replace BK154 := zB BK154 hb
     replace HB := zS3 HB GE146 GE147 GE154 hb
     (try clear hb)
     (try clear hb2)
     (try clear hk)
     (try clear hi)
     (try clear ho0)
     refine hK.out _ _ ⟨(jD BK146.out 0).trans rfl, (jD BK146.out 1).trans rfl⟩ (fun hHeld => ?_)
     clear hK K
     refine norm_ (a' := ?_) ?_ ?_
     rotate_left
     ·show Act.put _ (some 27) _ = _
      simp only [Act.put, jC, jE, jF, i64_w, i32_w]
      rfl
     exact norm_ (by simp only [putAll, Act.put, jC, jE, jF]) (hCont (v152, gb154) _ ⟨hHeld, (zo HO153), (zk BK146), (zk BK147), (zk BK154), GW154.out, GE154.out, NB146_154.out, NB154_146.out, NB147_154.out, NB154_147.out, (zb3 HB GE146 GE147 GE154)⟩)
   rintro ⟨v152, gb154⟩ w37 ⟨hS_, h0_, h1_, h2_, h3_, h4_, h5_, h6_, h7_, h8_, h9_, h10_⟩
   have HO153 : Aside0 (Kd.R (Kd.int .i64) 2 w37 w.heap.size (fun _ => True) v152 t151) := ⟨h0_⟩
   replace BK146 : Aside0 (w37.heap[gb146]? = some (.cells #[.int .i64 a1_0, .slice A1_1 l1_1.length c1_1] 28 (0, 0))) := ⟨h1_⟩
   replace BK147 : Aside0 (w37.heap[gb147]? = some (.cells #[.int .i64 0, .slice none 0 0] 28 (0, 0))) := ⟨h2_⟩
   have BK154 : Aside0 (w37.heap[gb154]? = some (.cells #[.int .i64 0, .slice none 0 0] 28 (0, 0))) := ⟨h3_⟩
   have GW154 : Aside0 (w.heap.size ≤ gb154) := ⟨h4_⟩
   have GE154 : Aside0 (w.heap.size ≤ gb154) := ⟨h5_⟩
   have NB146_154 : Aside0 (gb146 ≠ gb154) := ⟨h6_⟩
   have NB154_146 : Aside0 (gb154 ≠ gb146) := ⟨h7_⟩
   have NB147_154 : Aside0 (gb147 ≠ gb154) := ⟨h8_⟩
   have NB154_147 : Aside0 (gb154 ≠ gb147) := ⟨h9_⟩
   replace HB : Aside0 (Below w.heap.size w w37) := ⟨h10_⟩
   clear h0_ h1_ h2_ h3_ h4_ h5_ h6_ h7_ h8_ h9_ h10_
   have hHeld : w37.cell? ⟨gb146, 0, none⟩ = some (.int .i64 a1_0) ∧ w37.cell? ⟨gb146, 1, none⟩ = some (.slice A1_1 l1_1.length c1_1) := hS_
   obtain ⟨Ao39, co39, eo39⟩ := Kd.R_slice HO153.out
   (first | subst eo39 | (injection eo39 with f1_ f2_ f3_; have f4_ := f1_.symm; have f5_ := f3_.symm; clear f1_ f2_ f3_; subst f4_; subst f5_))
   refine norm_ (a' := ?_) ?_ ?_
   rotate_left
   ·simp only [putAll, Act.put, jC, jE, jF]
    rfl
   refine one_ (i := 8) (N := none) m9_1ff rfl rfl (one_of HT_.out zr) (by decide) (fun K hK => ?_)
   have hs38 : w37.cell? ⟨gb154, 0, none⟩ = some (.int .i64 0) := (jD BK154.out 0).trans rfl
   have hfs38 := blk_frozen BK154.out 0
   have hns38_0 := NB146_154.out
   have hns38_1 := NB147_154.out
   have hms38_0 := NB154_146.out
   have hms38_1 := NB154_147.out
   have hs40 : w37.cell? ⟨gb154, 1, none⟩ = some (.slice none 0 0) := (jD BK154.out 1).trans rfl
   have hfs40 := blk_frozen BK154.out 1
   have hns40_0 := NB146_154.out
   have hns40_1 := NB147_154.out
   have hms40_0 := NB154_146.out
   have hms40_1 := NB154_147.out
   refine skip_ (w1 := ?_) (by rfl) rfl ?_ ?_
   rotate_left
   ·go_simp
    rfl
   refine hK.out _ _ ⟨((jL (p := ⟨gb154, _, none⟩) NB146_154.out _).trans (((jL (p := ⟨gb154, _, none⟩) NB146_154.out _).trans (hHeld.1)))), ((jL (p := ⟨gb154, _, none⟩) NB146_154.out _).trans (((jL (p := ⟨gb154, _, none⟩) NB146_154.out _).trans (hHeld.2))))⟩ (fun hHeld => ?_)
   clear hK K
   refine done_ (done_of HT_.out zr) ?_
   have hnb41 := NB154_146.out
   have hnc41 := NB146_154.out
   have hnb42 := NB154_147.out
   have hnc42 := NB147_154.out
   have hcz43 := zc2 BK154
   try go_wp2_with (first | ((with_reducible refine jK (f := 25) rfl ?_); refine zL (some 30) Try.func25 #[.slice A0 l0.length c0, .agg #[.int .i64 t150, .slice Ao39 t151.length co39]] ?_; (with_reducible refine (spec_IsMagazine.calls k _ _ l0 t150 _ _ t151 false _ ?side1 ?side2 ?side3 ?side4 A9.out).mono ?_); (case side1 => exact Kd.C_below HR0.out (zb3 HB GE146 GE147 GE154)); (case side2 => exact HC0.out); (case side3 => refine (jP (e := 2) (base := w.heap.size) (ok := fun k_ => True) (n := t151.length) (c := co39) ?_).2.2; exact (zU HO153 BK154)); (case side4 => exact (jP HO153.out).2.1); rintro e w44 ⟨rfl, hb⟩; refine ⟨_, rfl, ?_⟩; replace HO153 := jA (Kd.R_below (zU HO153 BK154) hb); replace BK146 := jA (jO (g := gb146) (o := .cells #[.int .i64 a1_0, .slice A1_1 l1_1.length c1_1] 28 (0, 0)) (zQ1 BK146 NB146_154) hb); replace BK147 := jA (jO (g := gb147) (o := .cells #[.int .i64 0, .slice none 0 0] 28 (0, 0)) (zQ1 BK147 NB147_154) hb); replace BK154 := jA (jO (g := gb154) (o := .cells #[.int .i64 t150, .slice Ao39 t151.length co39] 28 (0, 0)) (zP0 BK154) hb); replace HB := zS3 HB GE146 GE147 GE154 hb; clear hb; have hcz45 := zc2 BK147))
   refine bodyPost_ret (results_ct rfl _ _ gb147 28 #[.int .i64 0, .slice none 0 0] (0, 0) _ rfl (zP0 BK147) Try.underlying28 rfl zr) rfl ?_
   exact ⟨_, ze, by first | exact Kd.R_nil _ _ _ _ _ | exact Kd.N_nil _ _ _ _ _ | exact Kd.V_nil _ _ _ _ _ | exact Kd.Q_nil _ _ _ _ _ | exact Kd.S_nil _ _ _ _ _, zb3 HB GE146 GE147 GE154⟩
 ·rw [if_neg c6] at H
  have c6b0 : (t148 == 0) = false := beq_eq_false_iff_ne.mpr c6
  have c6b1 : (t148 != 0) = true := bne_iff_ne.mpr c6
  simp only [jN, jQ] at H
  obtain ⟨rfl, rfl, rfl⟩ := H
  go_enter Try.func35, Try.ntmps35
  go_wp2_with (first | ((with_reducible refine jJ (N := 5) rfl ?_); refine zE 5 #[.int .i64 a1_0, .slice A1_1 l1_1.length c1_1] 28 ?_; intro gb146 hg w46 hbox hb; have BK146 := jA (hbox); have GW146 := zg0 hg HB; have GE146 := zg0 hg HB; replace HB := zS0 HB hb; clear hb hbox hg) | ((with_reducible refine jJ (N := 8) rfl ?_); refine zE 8 #[.int .i64 0, .slice none 0 0] 28 ?_; intro gb147 hg w47 hbox hb; have BK147 := jA (hbox); have GW147 := zg1 hg HB GE146; have GE147 := zg1 hg HB GE146; replace HB := zS1 HB GE146 hb; have NB146_147 := zn hg BK146; replace BK146 := zB BK146 hb; have NB147_146 := jA NB146_147.out.symm; clear hb hbox hg; have hnb48 := NB146_147.out; have hnc48 := NB147_146.out; have hcz49 := zc2 BK146) | ((with_reducible refine jK (f := 69) rfl ?_); refine zL (some 16) Try.func69 #[.slice A0 l0.length c0, .agg #[.int .i64 a1_0, .slice A1_1 l1_1.length c1_1], .string a2, .int .i64 a3] ?_; (with_reducible refine (spec_l26Code.calls k _ _ l0 a1_0 _ _ l1_1 a2 a3 t148 _ ?side1 ?side2 ?side3 ?side4 A5.out).mono ?_); (case side1 => exact zs HR0 HB); (case side2 => exact HC0.out); (case side3 => exact zs HR1_1 HB); (case side4 => exact HC1_1.out); rintro e w50 ⟨rfl, hb⟩; refine ⟨_, rfl, ?_⟩; replace BK146 := zB BK146 hb; replace BK147 := zB BK147 hb; replace HB := zS2 HB GE146 GE147 hb; clear hb; have hcz51 := zc2 BK147))
  refine bodyPost_ret (results_ct rfl _ _ gb147 28 #[.int .i64 0, .slice none 0 0] (0, 0) _ rfl (zP0 BK147) Try.underlying28 rfl zr) rfl ?_
  exact ⟨_, ze, by first | exact Kd.R_nil _ _ _ _ _ | exact Kd.N_nil _ _ _ _ _ | exact Kd.V_nil _ _ _ _ _ | exact Kd.Q_nil _ _ _ _ _ | exact Kd.S_nil _ _ _ _ _, zb2 HB GE146 GE147⟩

end Go.Proofs.Ytdgglhfnlljmeaa.PFnExactMovePieces
