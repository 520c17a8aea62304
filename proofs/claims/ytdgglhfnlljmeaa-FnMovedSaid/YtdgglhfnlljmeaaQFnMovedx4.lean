/- Functions and contracts that FnMoved reaches (5 of 29). -/
import Derived.Test.YtdgglhfnlljmeaaQFnMovedx3
namespace Go.Proofs.Ytdgglhfnlljmeaa.PFnMoved
open Go.RowKit Go.Proofs.YtdgglhfnlljmeaaW.PrintWords Go.Proofs.YtdgglhfnlljmeaaW.PrintLast Go.Proofs.YtdgglhfnlljmeaaW.PrintMore
attribute [local go_sem] max2_int min2_int max_two min_two max_three min_three max_four min_four   -- for this text's walks alone
set_option linter.unusedVariables false
set_option linter.unusedSimpArgs false

/-! ### spec_TakePieces: function 35 -/
def spec_TakePieces.f (k : Nat) (l0 : List (S65)) (a1_0 : Int) (l1_1 : List Int) (a2 : ByteArray) (a3 : Int) : Option (Int × List Int × Int) := (spec_l26Code.f k l0 a1_0 l1_1 a2 a3).bind fun t143 => (if t143 = 0 then ((spec_l03Find.f k l0 a2).bind fun t144 => ((spec_l26With.f a1_0 l1_1 t144 (wrap64 (-a3))).bind fun bt145 => ((spec_IsMagazine.f k l0 bt145.1 bt145.2).bind fun t150 => (if t150 = true then (some (bt145.1, bt145.2, 0)) else (some (0, ([] : List Int), 5)))))) else (some (0, ([] : List Int), t143)))
theorem spec_TakePieces.mono : ∀ a0 a1 a2 a3 a4 k, LeO (spec_TakePieces.f k a0 a1 a2 a3 a4) (spec_TakePieces.f (k + 1) a0 a1 a2 a3 a4) := by
 intro a0 a1 a2 a3 a4 k
 unfold spec_TakePieces.f
 repeat' first
   | (with_reducible exact spec_IsMagazine.mono _ _ _ _)
   | (with_reducible exact spec_l03Find.mono _ _ _)
   | (with_reducible exact spec_l26Code.mono _ _ _ _ _ _)
   | (with_reducible exact LeO.refl _)
   | (with_reducible exact LeO.none _)
   | (with_reducible refine LeO.ite ?_ ?_)
   | (with_reducible refine LeO.bind ?_ (fun _ => ?_))
   | exact spec_IsMagazine.mono _ _ _ _
   | exact spec_l03Find.mono _ _ _
   | exact spec_l26Code.mono _ _ _ _ _ _
   | exact LeO.none _
   | refine LeO.ite ?_ ?_
   | refine LeO.bind ?_ (fun _ => ?_)
def spec_TakePieces.T4 : Bool × List (List Nat × List Nat) := (true, [([], []), ([], []), ([], []), ([1, 2], [1, 2]), ([], []), ([4], [4]), ([0, 3, 5, 3], [0, 3, 5]), ([], []), ([7, 6, 6, 0, 1, 2, 3, 4, 5, 6, 7], [6, 7])])
def spec_TakePieces.B4 : List Nat := [0, 0, 0, 6, 0, 16, 63, 0, 255]
theorem spec_TakePieces.tab4 : rtab .any (opsOf Try.f35 4) = spec_TakePieces.T4 := by kernel_rfl
theorem spec_TakePieces.bits4 : waitsOk spec_TakePieces.T4.2 spec_TakePieces.B4 = true := by kernel_rfl
set_option maxHeartbeats 8000000 in
set_option maxRecDepth 100000 in
theorem spec_TakePieces.calls (k : Nat) (A0 : Option Addr) (c0 : Nat) (l0 : List (S65)) (a1_0 : Int) (A1_1 : Option Addr) (c1_1 : Nat) (l1_1 : List Int) (a2 : ByteArray) (a3 : Int) (r1 : Int) (r2 : List Int) (r3 : Int) (w : World) (hr0 : Kd.C k65 w A0 l0.length l0) (hc0 : l0.length ≤ c0) (hr1_1 : Kd.C (Kd.int .i64) w A1_1 l1_1.length l1_1) (hc1_1 : l1_1.length ≤ c1_1) (h : spec_TakePieces.f k l0 a1_0 l1_1 a2 a3 = some (r1, r2, r3)) :
  Calls Try.prog 35 #[.slice A0 l0.length c0, .agg #[.int .i64 a1_0, .slice A1_1 l1_1.length c1_1], .string a2, .int .i64 a3] w fun e w' => ∃ v1_ : Value, e = .returned (.tuple #[.agg #[.int .i64 r1, v1_], .int .i64 r3]) ∧ Kd.R (Kd.int .i64) 2 w' w.heap.size (fun _ => True) v1_ r2 ∧ Below w.heap.size w w' := by
 have hu28 := Try.underlying28
 have HR0 := jA hr0
 have HC0 := jA hc0
 clear hr0 hc0
 have HR1_1 := jA hr1_1
 have HC1_1 := jA hc1_1
 clear hr1_1 hc1_1
 have HB := jA (Below.refl w.heap.size w)
 have H := h
 unfold spec_TakePieces.f at H
 clear h
 replace H := jB.mp H
 obtain ⟨t143, A50, H⟩ := H
 try dsimp only at H
 have A5 := jA A50
 clear A50
 by_cases c6 : t143 = 0
 ·rw [if_pos c6] at H
  have c6b0 : (t143 == 0) = true := beq_iff_eq.mpr c6
  have c6b1 : (t143 != 0) = false := bne_eq_false_iff_eq.mpr c6
  clear c6
  replace H := jB.mp H
  obtain ⟨t144, A70, H⟩ := H
  try dsimp only at H
  have A7 := jA A70
  clear A70
  replace H := jB.mp H
  obtain ⟨⟨t145, t146⟩, A80, H⟩ := H
  try dsimp only at H
  have A8 := jA A80
  clear A80
  replace H := jB.mp H
  obtain ⟨t150, A90, H⟩ := H
  try dsimp only at H
  have A9 := jA A90
  clear A90
  by_cases c10 : t150 = true
  ·subst c10
   rw [if_pos rfl] at H
   simp only [jM, jS] at H
   obtain ⟨rfl, rfl, rfl⟩ := H
   go_enter Try.func35, Try.ntmps35
   try go_wp2_with (first | ((with_reducible refine jJ (N := 5) rfl ?_); refine zE 5 #[.int .i64 a1_0, .slice A1_1 l1_1.length c1_1] 28 ?_; intro gb141 hg w11 hbox hb; have BK141 := jA (hbox); have GW141 := zg0 hg HB; have GE141 := zg0 hg HB; replace HB := zS0 HB hb; clear hb hbox hg) | ((with_reducible refine jJ (N := 8) rfl ?_); refine zE 8 #[.int .i64 0, .slice none 0 0] 28 ?_; intro gb142 hg w12 hbox hb; have BK142 := jA (hbox); have GW142 := zg1 hg HB GE141; have GE142 := zg1 hg HB GE141; replace HB := zS1 HB GE141 hb; have NB141_142 := zn hg BK141; replace BK141 := zB BK141 hb; have NB142_141 := jA NB141_142.out.symm; clear hb hbox hg; have hnb13 := NB141_142.out; have hnc13 := NB142_141.out; have hcz14 := zc2 BK141) | ((with_reducible refine jG (f := 69) rfl ?_); refine zL (some 16) Try.func69 #[.slice A0 l0.length c0, .agg #[.int .i64 a1_0, .slice A1_1 l1_1.length c1_1], .string a2, .int .i64 a3] ?_; (with_reducible refine (spec_l26Code.calls k _ _ l0 a1_0 _ _ l1_1 a2 a3 t143 _ ?side1 ?side2 ?side3 ?side4 A5.out).mono ?_); (case side1 => exact zs HR0 HB); (case side2 => exact HC0.out); (case side3 => exact zs HR1_1 HB); (case side4 => exact HC1_1.out); rintro e w15 ⟨rfl, hb⟩; refine ⟨_, rfl, ?_⟩; replace BK141 := zB BK141 hb; replace BK142 := zB BK142 hb; replace HB := zS2 HB GE141 GE142 hb; clear hb))
   replace BK141 := jA (blk_drew BK141.out)
   replace BK142 := jA (blk_drew BK142.out)
   replace HB := jA (below_drew1 HB.out)
   refine start_ (n := 9) (S := fun w' => w'.cell? ⟨gb141, 0, none⟩ = some (.int .i64 a1_0) ∧ w'.cell? ⟨gb141, 1, none⟩ = some (.slice A1_1 l1_1.length c1_1)) (ds := []) m9_0 zr rfl rfl ⟨(jF BK141.out 0).trans rfl, (jF BK141.out 1).trans rfl⟩ (fun hHeld => ?_); refine with_tabW spec_TakePieces.tab4 spec_TakePieces.bits4 (fun HT_ HW_ => ?_)
   generalize w15.drew = w16 at BK141 BK142 HB hHeld ⊢
   refine zp HT_ 1 22 m9_80 ?_
   refine zp HT_ 2 23 m9_c0 ?_
   refine zp HT_ 4 25 m9_d0 ?_
   refine zp HT_ 5 26 m9_d8 ?_
   refine zt2 HT_ HW_ hHeld 0 21 m9_1d8 ?_
   refine join_ (σ := Value × Nat) 1 m9_1fe (fun s_ => [(24, .int .i64 t144), (27, .agg #[.int .i64 t145, s_.1]), (11, .pointer (some ⟨s_.2, 0, none⟩))]) (fun s_ w' => (w'.cell? ⟨gb141, 0, none⟩ = some (.int .i64 a1_0) ∧ w'.cell? ⟨gb141, 1, none⟩ = some (.slice A1_1 l1_1.length c1_1)) ∧ (Kd.R (Kd.int .i64) 2 w' w.heap.size (fun _ => True) s_.1 t146) ∧ (w'.heap[gb141]? = some (.cells #[.int .i64 a1_0, .slice A1_1 l1_1.length c1_1] 28 (0, 0))) ∧ (w'.heap[gb142]? = some (.cells #[.int .i64 0, .slice none 0 0] 28 (0, 0))) ∧ (w'.heap[s_.2]? = some (.cells #[.int .i64 0, .slice none 0 0] 28 (0, 0))) ∧ (w.heap.size ≤ s_.2) ∧ (w.heap.size ≤ s_.2) ∧ (gb141 ≠ s_.2) ∧ (s_.2 ≠ gb141) ∧ (gb142 ≠ s_.2) ∧ (s_.2 ≠ gb142) ∧ (Below w.heap.size w w')) ?_ ?_
   rotate_left
   ·intro hCont
    refine two_ (i := 3) (j := 7) (Ni := some 24) (Nj := some 11) m9_1f8 m9_1da rfl rfl rfl rfl (two_of HT_.out zr) (by decide) (by decide) (fun K hK => ?_) (fun K hK => ?_)
    ·skip
     refine goes_ Try.func73 zr rfl #[.slice A0 l0.length c0, .string a2] (by rfl) rfl rfl zm ?_
     with_reducible refine (spec_l03Find.calls k _ _ l0 a2 t144 _ ?side1 ?side2 A7.out).mono ?_
     (case side1 => exact zs HR0 HB)
     (case side2 => exact HC0.out)
     rintro e w' ⟨rfl, ⟨nd, rfl⟩⟩
     refine ⟨_, rfl, ?_⟩
     refine hK.out _ _ ⟨(jF BK141.out 0).trans rfl, (jF BK141.out 1).trans rfl⟩ (fun hHeld => ?_)
     clear hK K
     refine norm_ (a' := ?_) ?_ ?_
     rotate_left
     ·show Act.put _ (some 24) _ = _
      simp only [Act.put, jC, jH, jI, i64_w, i32_w]
      rfl
     refine two_ (i := 6) (j := 7) (Ni := some 27) (Nj := some 11) m9_1fc m9_1fa rfl rfl rfl rfl (two_of HT_.out zr) (by decide) (by decide) (fun K hK => ?_) (fun K hK => ?_)
     ·skip
      refine goes_ Try.func72 zr rfl #[.agg #[.int .i64 a1_0, .slice A1_1 l1_1.length c1_1], .int .i64 t144, .int .i64 (wrap64 (-a3))] (by rfl) rfl rfl zm ?_
      with_reducible refine (spec_l26With.calls a1_0 _ _ l1_1 t144 (wrap64 (-a3)) t145 t146 _ ?side1 ?side2 A8.out).mono ?_
      (case side1 => repeat (first | exact HR1_1.out | exact (Kd.C_below HR1_1.out (zb2 HB GE141 GE142)) | (with_reducible refine Kd.C_alloc ?_ _) | (with_reducible refine Kd.C_drewN ?_ _) | (with_reducible refine Kd.C_drew ?_)))
      (case side2 => exact HC1_1.out)
      rintro e w17 ⟨v147, rfl, ho0, hb⟩
      refine ⟨_, rfl, ?_⟩
      have HO148 := jA (jU ho0 (jW (zb2 HB GE141 GE142)))
      replace BK141 := zB BK141 hb
      replace BK142 := zB BK142 hb
      replace HB := zS2 HB GE141 GE142 hb
      (try clear hb)
      (try clear hb2)
      (try clear hk)
      (try clear hi)
      (try clear ho0)
      refine hK.out _ _ ⟨(jF BK141.out 0).trans rfl, (jF BK141.out 1).trans rfl⟩ (fun hHeld => ?_)
      clear hK K
      refine norm_ (a' := ?_) ?_ ?_
      rotate_left
      ·show Act.put _ (some 27) _ = _
       simp only [Act.put, jC, jH, jI, i64_w, i32_w]
       rfl
      refine one_ (i := 7) (N := some 11) m9_1fe rfl rfl (one_of HT_.out zr) (by decide) (fun K hK => ?_)
      refine box_step ?hg (N := 11) ?hd (cs := #[.int .i64 0, .slice none 0 0]) (t := 28) ?hr ?_; (case hd => rfl); (case hg => rfl); (case hr => first | (go_simp; done) | (go_simp; rfl))
      intro gb149 hg w18 hbox hb
      replace HO148 := jA (jE (zo HO148) hb)
      have BK149 := jA (hbox)
      have GW149 := zg2 hg HB GE141 GE142
      have GE149 := zg2 hg HB GE141 GE142
      replace HB := zS2 HB GE141 GE142 hb
      have NB141_149 := zn hg BK141
      have NB149_141 := zN hg BK141
      replace BK141 := zB BK141 hb
      have NB142_149 := zn hg BK142
      have NB149_142 := zN hg BK142
      replace BK142 := zB BK142 hb
      clear hb hbox hg
      refine hK.out _ _ ⟨(jF BK141.out 0).trans rfl, (jF BK141.out 1).trans rfl⟩ (fun hHeld => ?_)
      clear hK K
      refine norm_ (a' := ?_) ?_ ?_
      rotate_left
      ·show Act.put _ (some 11) _ = _
       simp only [Act.put, jC, jH, jI, i64_w, i32_w]
       rfl
      exact norm_ (by simp only [putAll, Act.put, jC, jH, jI]) (hCont (v147, gb149) _ ⟨hHeld, (zo HO148), (zk BK141), (zk BK142), (zk BK149), GW149.out, GE149.out, NB141_149.out, NB149_141.out, NB142_149.out, NB149_142.out, (zb3 HB GE141 GE142 GE149)⟩)
     ·skip
      refine box_step ?hg (N := 11) ?hd (cs := #[.int .i64 0, .slice none 0 0]) (t := 28) ?hr ?_; (case hd => rfl); (case hg => rfl); (case hr => first | (go_simp; done) | (go_simp; rfl))
      intro gb149 hg w17 hbox hb
      have BK149 := jA (hbox)
      have GW149 := zg2 hg HB GE141 GE142
      have GE149 := zg2 hg HB GE141 GE142
      replace HB := zS2 HB GE141 GE142 hb
      have NB141_149 := zn hg BK141
      have NB149_141 := zN hg BK141
      replace BK141 := zB BK141 hb
      have NB142_149 := zn hg BK142
      have NB149_142 := zN hg BK142
      replace BK142 := zB BK142 hb
      clear hb hbox hg
      refine hK.out _ _ ⟨(jF BK141.out 0).trans rfl, (jF BK141.out 1).trans rfl⟩ (fun hHeld => ?_)
      clear hK K
      refine norm_ (a' := ?_) ?_ ?_
      rotate_left
      ·show Act.put _ (some 11) _ = _
       simp only [Act.put, jC, jH, jI, i64_w, i32_w]
       rfl
      refine one_ (i := 6) (N := some 27) m9_1fe rfl rfl (one_of HT_.out zr) (by decide) (fun K hK => ?_)
      refine goes_ Try.func72 zr rfl #[.agg #[.int .i64 a1_0, .slice A1_1 l1_1.length c1_1], .int .i64 t144, .int .i64 (wrap64 (-a3))] (by rfl) rfl rfl zm ?_
      with_reducible refine (spec_l26With.calls a1_0 _ _ l1_1 t144 (wrap64 (-a3)) t145 t146 _ ?side1 ?side2 A8.out).mono ?_
      (case side1 => exact zs HR1_1 HB)
      (case side2 => exact HC1_1.out)
      rintro e w18 ⟨v147, rfl, ho0, hb⟩
      refine ⟨_, rfl, ?_⟩
      have HO148 := jA (jU ho0 (jW (zb3 HB GE141 GE142 GE149)))
      replace BK141 := zB BK141 hb
      replace BK142 := zB BK142 hb
      replace BK149 := zB BK149 hb
      replace HB := zS3 HB GE141 GE142 GE149 hb
      (try clear hb)
      (try clear hb2)
      (try clear hk)
      (try clear hi)
      (try clear ho0)
      refine hK.out _ _ ⟨(jF BK141.out 0).trans rfl, (jF BK141.out 1).trans rfl⟩ (fun hHeld => ?_)
      clear hK K
      refine norm_ (a' := ?_) ?_ ?_
      rotate_left
      ·show Act.put _ (some 27) _ = _
       simp only [Act.put, jC, jH, jI, i64_w, i32_w]
       rfl
      exact norm_ (by simp only [putAll, Act.put, jC, jH, jI]) (hCont (v147, gb149) _ ⟨hHeld, (zo HO148), (zk BK141), (zk BK142), (zk BK149), GW149.out, GE149.out, NB141_149.out, NB149_141.out, NB142_149.out, NB149_142.out, (zb3 HB GE141 GE142 GE149)⟩)
    ·skip
     refine box_step ?hg (N := 11) ?hd (cs := #[.int .i64 0, .slice none 0 0]) (t := 28) ?hr ?_; (case hd => rfl); (case hg => rfl); (case hr => first | (go_simp; done) | (go_simp; rfl))
     intro gb149 hg w17 hbox hb
     have BK149 := jA (hbox)
     have GW149 := zg2 hg HB GE141 GE142
     have GE149 := zg2 hg HB GE141 GE142
     replace HB := zS2 HB GE141 GE142 hb
     have NB141_149 := zn hg BK141
     have NB149_141 := zN hg BK141
     replace BK141 := zB BK141 hb
     have NB142_149 := zn hg BK142
     have NB149_142 := zN hg BK142
     replace BK142 := zB BK142 hb
     clear hb hbox hg
     refine hK.out _ _ ⟨(jF BK141.out 0).trans rfl, (jF BK141.out 1).trans rfl⟩ (fun hHeld => ?_)
     clear hK K
     refine norm_ (a' := ?_) ?_ ?_
     rotate_left
     ·show Act.put _ (some 11) _ = _
      simp only [Act.put, jC, jH, jI, i64_w, i32_w]
      rfl
     refine one_ (i := 3) (N := some 24) m9_1fa rfl rfl (one_of HT_.out zr) (by decide) (fun K hK => ?_)
     refine goes_ Try.func73 zr rfl #[.slice A0 l0.length c0, .string a2] (by rfl) rfl rfl zm ?_
     with_reducible refine (spec_l03Find.calls k _ _ l0 a2 t144 _ ?side1 ?side2 A7.out).mono ?_
     (case side1 => exact zs HR0 HB)
     (case side2 => exact HC0.out)
     rintro e w' ⟨rfl, ⟨nd, rfl⟩⟩
     refine ⟨_, rfl, ?_⟩
     refine hK.out _ _ ⟨(jF BK141.out 0).trans rfl, (jF BK141.out 1).trans rfl⟩ (fun hHeld => ?_)
     clear hK K
     refine norm_ (a' := ?_) ?_ ?_
     rotate_left
     ·show Act.put _ (some 24) _ = _
      simp only [Act.put, jC, jH, jI, i64_w, i32_w]
      rfl
     refine one_ (i := 6) (N := some 27) m9_1fe rfl rfl (one_of HT_.out zr) (by decide) (fun K hK => ?_)
     refine goes_ Try.func72 zr rfl #[.agg #[.int .i64 a1_0, .slice A1_1 l1_1.length c1_1], .int .i64 t144, .int .i64 (wrap64 (-a3))] (by rfl) rfl rfl zm ?_
     with_reducible refine (spec_l26With.calls a1_0 _ _ l1_1 t144 (wrap64 (-a3)) t145 t146 _ ?side1 ?side2 A8.out).mono ?_
     (case side1 => repeat (first | exact HR1_1.out | exact (Kd.C_below HR1_1.out (zb3 HB GE141 GE142 GE149)) | (with_reducible refine Kd.C_alloc ?_ _) | (with_reducible refine Kd.C_drewN ?_ _) | (with_reducible refine Kd.C_drew ?_)))
     (case side2 => exact HC1_1.out)
     rintro e w18 ⟨v147, rfl, ho0, hb⟩
     refine ⟨_, rfl, ?_⟩
     have HO148 := jA (jU ho0 (jW (zb3 HB GE141 GE142 GE149)))
     replace BK141 := zB BK141 hb
     replace BK142 := zB BK142 hb
     replace BK149 := zB BK149 hb
     replace HB := zS3 HB GE141 GE142 GE149 hb
     (try clear hb)
     (try clear hb2)
     (try clear hk)
     (try clear hi)
     (try clear ho0)
     refine hK.out _ _ ⟨(jF BK141.out 0).trans rfl, (jF BK141.out 1).trans rfl⟩ (fun hHeld => ?_)
     clear hK K
     refine norm_ (a' := ?_) ?_ ?_
     rotate_left
     ·show Act.put _ (some 27) _ = _
      simp only [Act.put, jC, jH, jI, i64_w, i32_w]
      rfl
     exact norm_ (by simp only [putAll, Act.put, jC, jH, jI]) (hCont (v147, gb149) _ ⟨hHeld, (zo HO148), (zk BK141), (zk BK142), (zk BK149), GW149.out, GE149.out, NB141_149.out, NB149_141.out, NB142_149.out, NB149_142.out, (zb3 HB GE141 GE142 GE149)⟩)
   rintro ⟨v147, gb149⟩ w19 ⟨hS_, h0_, h1_, h2_, h3_, h4_, h5_, h6_, h7_, h8_, h9_, h10_⟩
   have HO148 : Aside0 (Kd.R (Kd.int .i64) 2 w19 w.heap.size (fun _ => True) v147 t146) := ⟨h0_⟩
   replace BK141 : Aside0 (w19.heap[gb141]? = some (.cells #[.int .i64 a1_0, .slice A1_1 l1_1.length c1_1] 28 (0, 0))) := ⟨h1_⟩
   replace BK142 : Aside0 (w19.heap[gb142]? = some (.cells #[.int .i64 0, .slice none 0 0] 28 (0, 0))) := ⟨h2_⟩
   have BK149 : Aside0 (w19.heap[gb149]? = some (.cells #[.int .i64 0, .slice none 0 0] 28 (0, 0))) := ⟨h3_⟩
   have GW149 : Aside0 (w.heap.size ≤ gb149) := ⟨h4_⟩
   have GE149 : Aside0 (w.heap.size ≤ gb149) := ⟨h5_⟩
   have NB141_149 : Aside0 (gb141 ≠ gb149) := ⟨h6_⟩
   have NB149_141 : Aside0 (gb149 ≠ gb141) := ⟨h7_⟩
   have NB142_149 : Aside0 (gb142 ≠ gb149) := ⟨h8_⟩
   have NB149_142 : Aside0 (gb149 ≠ gb142) := ⟨h9_⟩
   replace HB : Aside0 (Below w.heap.size w w19) := ⟨h10_⟩
   clear h0_ h1_ h2_ h3_ h4_ h5_ h6_ h7_ h8_ h9_ h10_
   have hHeld : w19.cell? ⟨gb141, 0, none⟩ = some (.int .i64 a1_0) ∧ w19.cell? ⟨gb141, 1, none⟩ = some (.slice A1_1 l1_1.length c1_1) := hS_
   obtain ⟨Ao21, co21, eo21⟩ := Kd.R_slice HO148.out
   (first | subst eo21 | (injection eo21 with f1_ f2_ f3_; have f4_ := f1_.symm; have f5_ := f3_.symm; clear f1_ f2_ f3_; subst f4_; subst f5_))
   refine norm_ (a' := ?_) ?_ ?_
   rotate_left
   ·simp only [putAll, Act.put, jC, jH, jI]
    rfl
   refine one_ (i := 8) (N := none) m9_1ff rfl rfl (one_of HT_.out zr) (by decide) (fun K hK => ?_)
   have hs20 : w19.cell? ⟨gb149, 0, none⟩ = some (.int .i64 0) := (jF BK149.out 0).trans rfl
   have hfs20 := blk_frozen BK149.out 0
   have hns20_0 := NB141_149.out
   have hns20_1 := NB142_149.out
   have hms20_0 := NB149_141.out
   have hms20_1 := NB149_142.out
   have hs22 : w19.cell? ⟨gb149, 1, none⟩ = some (.slice none 0 0) := (jF BK149.out 1).trans rfl
   have hfs22 := blk_frozen BK149.out 1
   have hns22_0 := NB141_149.out
   have hns22_1 := NB142_149.out
   have hms22_0 := NB149_141.out
   have hms22_1 := NB149_142.out
   refine skip_ (w1 := ?_) (by rfl) rfl ?_ ?_
   rotate_left
   ·go_simp
    rfl
   refine hK.out _ _ ⟨((jL (p := ⟨gb149, _, none⟩) NB141_149.out _).trans (((jL (p := ⟨gb149, _, none⟩) NB141_149.out _).trans (hHeld.1)))), ((jL (p := ⟨gb149, _, none⟩) NB141_149.out _).trans (((jL (p := ⟨gb149, _, none⟩) NB141_149.out _).trans (hHeld.2))))⟩ (fun hHeld => ?_)
   clear hK K
   refine done_ (done_of HT_.out zr) ?_
   have hnb23 := NB149_141.out
   have hnc23 := NB141_149.out
   have hnb24 := NB149_142.out
   have hnc24 := NB142_149.out
   have hcz25 := zc2 BK149
   try go_wp2_with (first | ((with_reducible refine jG (f := 25) rfl ?_); refine zL (some 30) Try.func25 #[.slice A0 l0.length c0, .agg #[.int .i64 t145, .slice Ao21 t146.length co21]] ?_; (with_reducible refine (spec_IsMagazine.calls k _ _ l0 t145 _ _ t146 true _ ?side1 ?side2 ?side3 ?side4 A9.out).mono ?_); (case side1 => exact Kd.C_below HR0.out (zb3 HB GE141 GE142 GE149)); (case side2 => exact HC0.out); (case side3 => refine (jO (e := 2) (base := w.heap.size) (ok := fun k_ => True) (n := t146.length) (c := co21) ?_).2.2; exact (zU HO148 BK149)); (case side4 => exact (jO HO148.out).2.1); rintro e w26 ⟨rfl, hb⟩; refine ⟨_, rfl, ?_⟩; replace HO148 := jA (jE (zU HO148 BK149) hb); replace BK141 := jA (jT (g := gb141) (o := .cells #[.int .i64 a1_0, .slice A1_1 l1_1.length c1_1] 28 (0, 0)) (zQ1 BK141 NB141_149) hb); replace BK142 := jA (jT (g := gb142) (o := .cells #[.int .i64 0, .slice none 0 0] 28 (0, 0)) (zQ1 BK142 NB142_149) hb); replace BK149 := jA (jT (g := gb149) (o := .cells #[.int .i64 t145, .slice Ao21 t146.length co21] 28 (0, 0)) (zP0 BK149) hb); replace HB := zS3 HB GE141 GE142 GE149 hb; clear hb; have hcz27 := zc2 BK149; have hcz28 := zc2 BK142))
   refine jX (results_ct rfl _ _ gb142 28 #[.int .i64 t145, .slice Ao21 t146.length co21] (0, 0) _ rfl (zP0 BK142) Try.underlying28 rfl zr) rfl ?_
   exact ⟨_, ze, zT HO148 BK142, zb3 HB GE141 GE142 GE149⟩
  ·replace c10 := Bool.eq_false_iff.mpr c10
   subst c10
   rw [if_neg zfalse] at H
   simp only [jM, jS] at H
   obtain ⟨rfl, rfl, rfl⟩ := H
   go_enter Try.func35, Try.ntmps35
   try go_wp2_with (first | ((with_reducible refine jJ (N := 5) rfl ?_); refine zE 5 #[.int .i64 a1_0, .slice A1_1 l1_1.length c1_1] 28 ?_; intro gb141 hg w29 hbox hb; have BK141 := jA (hbox); have GW141 := zg0 hg HB; have GE141 := zg0 hg HB; replace HB := zS0 HB hb; clear hb hbox hg) | ((with_reducible refine jJ (N := 8) rfl ?_); refine zE 8 #[.int .i64 0, .slice none 0 0] 28 ?_; intro gb142 hg w30 hbox hb; have BK142 := jA (hbox); have GW142 := zg1 hg HB GE141; have GE142 := zg1 hg HB GE141; replace HB := zS1 HB GE141 hb; have NB141_142 := zn hg BK141; replace BK141 := zB BK141 hb; have NB142_141 := jA NB141_142.out.symm; clear hb hbox hg; have hnb31 := NB141_142.out; have hnc31 := NB142_141.out; have hcz32 := zc2 BK141) | ((with_reducible refine jG (f := 69) rfl ?_); refine zL (some 16) Try.func69 #[.slice A0 l0.length c0, .agg #[.int .i64 a1_0, .slice A1_1 l1_1.length c1_1], .string a2, .int .i64 a3] ?_; (with_reducible refine (spec_l26Code.calls k _ _ l0 a1_0 _ _ l1_1 a2 a3 t143 _ ?side1 ?side2 ?side3 ?side4 A5.out).mono ?_); (case side1 => exact zs HR0 HB); (case side2 => exact HC0.out); (case side3 => exact zs HR1_1 HB); (case side4 => exact HC1_1.out); rintro e w33 ⟨rfl, hb⟩; refine ⟨_, rfl, ?_⟩; replace BK141 := zB BK141 hb; replace BK142 := zB BK142 hb; replace HB := zS2 HB GE141 GE142 hb; clear hb))
   replace BK141 := jA (blk_drew BK141.out)
   replace BK142 := jA (blk_drew BK142.out)
   replace HB := jA (below_drew1 HB.out)
   refine start_ (n := 9) (S := fun w' => w'.cell? ⟨gb141, 0, none⟩ = some (.int .i64 a1_0) ∧ w'.cell? ⟨gb141, 1, none⟩ = some (.slice A1_1 l1_1.length c1_1)) (ds := []) m9_0 zr rfl rfl ⟨(jF BK141.out 0).trans rfl, (jF BK141.out 1).trans rfl⟩ (fun hHeld => ?_); refine with_tabW spec_TakePieces.tab4 spec_TakePieces.bits4 (fun HT_ HW_ => ?_)
   generalize w33.drew = w34 at BK141 BK142 HB hHeld ⊢
   refine zp HT_ 1 22 m9_80 ?_
   refine zp HT_ 2 23 m9_c0 ?_
   refine zp HT_ 4 25 m9_d0 ?_
   refine zp HT_ 5 26 m9_d8 ?_
   refine zt2 HT_ HW_ hHeld 0 21 m9_1d8 ?_
   refine join_ (σ := Value × Nat) 1 m9_1fe (fun s_ => [(24, .int .i64 t144), (27, .agg #[.int .i64 t145, s_.1]), (11, .pointer (some ⟨s_.2, 0, none⟩))]) (fun s_ w' => (w'.cell? ⟨gb141, 0, none⟩ = some (.int .i64 a1_0) ∧ w'.cell? ⟨gb141, 1, none⟩ = some (.slice A1_1 l1_1.length c1_1)) ∧ (Kd.R (Kd.int .i64) 2 w' w.heap.size (fun _ => True) s_.1 t146) ∧ (w'.heap[gb141]? = some (.cells #[.int .i64 a1_0, .slice A1_1 l1_1.length c1_1] 28 (0, 0))) ∧ (w'.heap[gb142]? = some (.cells #[.int .i64 0, .slice none 0 0] 28 (0, 0))) ∧ (w'.heap[s_.2]? = some (.cells #[.int .i64 0, .slice none 0 0] 28 (0, 0))) ∧ (w.heap.size ≤ s_.2) ∧ (w.heap.size ≤ s_.2) ∧ (gb141 ≠ s_.2) ∧ (s_.2 ≠ gb141) ∧ (gb142 ≠ s_.2) ∧ (s_.2 ≠ gb142) ∧ (Below w.heap.size w w')) ?_ ?_
   rotate_left
   ·intro hCont
    refine two_ (i := 3) (j := 7) (Ni := some 24) (Nj := some 11) m9_1f8 m9_1da rfl rfl rfl rfl (two_of HT_.out zr) (by decide) (by decide) (fun K hK => ?_) (fun K hK => ?_)
    ·skip
     refine goes_ Try.func73 zr rfl #[.slice A0 l0.length c0, .string a2] (by rfl) rfl rfl zm ?_
     with_reducible refine (spec_l03Find.calls k _ _ l0 a2 t144 _ ?side1 ?side2 A7.out).mono ?_
     (case side1 => exact zs HR0 HB)
     (case side2 => exact HC0.out)
     rintro e w' ⟨rfl, ⟨nd, rfl⟩⟩
     refine ⟨_, rfl, ?_⟩
     refine hK.out _ _ ⟨(jF BK141.out 0).trans rfl, (jF BK141.out 1).trans rfl⟩ (fun hHeld => ?_)
     clear hK K
     refine norm_ (a' := ?_) ?_ ?_
     rotate_left
     ·show Act.put _ (some 24) _ = _
      simp only [Act.put, jC, jH, jI, i64_w, i32_w]
      rfl
     refine two_ (i := 6) (j := 7) (Ni := some 27) (Nj := some 11) m9_1fc m9_1fa rfl rfl rfl rfl (two_of HT_.out zr) (by decide) (by decide) (fun K hK => ?_) (fun K hK => ?_)
     ·skip
      refine goes_ Try.func72 zr rfl #[.agg #[.int .i64 a1_0, .slice A1_1 l1_1.length c1_1], .int .i64 t144, .int .i64 (wrap64 (-a3))] (by rfl) rfl rfl zm ?_
      with_reducible refine (spec_l26With.calls a1_0 _ _ l1_1 t144 (wrap64 (-a3)) t145 t146 _ ?side1 ?side2 A8.out).mono ?_
      (case side1 => repeat (first | exact HR1_1.out | exact (Kd.C_below HR1_1.out (zb2 HB GE141 GE142)) | (with_reducible refine Kd.C_alloc ?_ _) | (with_reducible refine Kd.C_drewN ?_ _) | (with_reducible refine Kd.C_drew ?_)))
      (case side2 => exact HC1_1.out)
      rintro e w35 ⟨v147, rfl, ho0, hb⟩
      refine ⟨_, rfl, ?_⟩
      have HO148 := jA (jU ho0 (jW (zb2 HB GE141 GE142)))
      replace BK141 := zB BK141 hb
      replace BK142 := zB BK142 hb
      replace HB := zS2 HB GE141 GE142 hb
      (try clear hb)
      (try clear hb2)
      (try clear hk)
      (try clear hi)
      (try clear ho0)
      refine hK.out _ _ ⟨(jF BK141.out 0).trans rfl, (jF BK141.out 1).trans rfl⟩ (fun hHeld => ?_)
      clear hK K
      refine norm_ (a' := ?_) ?_ ?_
      rotate_left
      ·show Act.put _ (some 27) _ = _
       simp only [Act.put, jC, jH, jI, i64_w, i32_w]
       rfl
      refine one_ (i := 7) (N := some 11) m9_1fe rfl rfl (one_of HT_.out zr) (by decide) (fun K hK => ?_)
      refine box_step ?hg (N := 11) ?hd (cs := #[.int .i64 0, .slice none 0 0]) (t := 28) ?hr ?_; (case hd => rfl); (case hg => rfl); (case hr => first | (go_simp; done) | (go_simp; rfl))
      intro gb149 hg w36 hbox hb
      replace HO148 := jA (jE (zo HO148) hb)
      have BK149 := jA (hbox)
      have GW149 := zg2 hg HB GE141 GE142
      have GE149 := zg2 hg HB GE141 GE142
      replace HB := zS2 HB GE141 GE142 hb
      have NB141_149 := zn hg BK141
      have NB149_141 := zN hg BK141
      replace BK141 := zB BK141 hb
      have NB142_149 := zn hg BK142
      have NB149_142 := zN hg BK142
      replace BK142 := zB BK142 hb
      clear hb hbox hg
      refine hK.out _ _ ⟨(jF BK141.out 0).trans rfl, (jF BK141.out 1).trans rfl⟩ (fun hHeld => ?_)
      clear hK K
      refine norm_ (a' := ?_) ?_ ?_
      rotate_left
      ·show Act.put _ (some 11) _ = _
       simp only [Act.put, jC, jH, jI, i64_w, i32_w]
       rfl
      exact norm_ (by simp only [putAll, Act.put, jC, jH, jI]) (hCont (v147, gb149) _ ⟨hHeld, (zo HO148), (zk BK141), (zk BK142), (zk BK149), GW149.out, GE149.out, NB141_149.out, NB149_141.out, NB142_149.out, NB149_142.out, (zb3 HB GE141 GE142 GE149)⟩)
     ·skip
      refine box_step ?hg (N := 11) ?hd (cs := #[.int .i64 0, .slice none 0 0]) (t := 28) ?hr ?_; (case hd => rfl); (case hg => rfl); (case hr => first | (go_simp; done) | (go_simp; rfl))
      intro gb149 hg w35 hbox hb
      have BK149 := jA (hbox)
      have GW149 := zg2 hg HB GE141 GE142
      have GE149 := zg2 hg HB GE141 GE142
      replace HB := zS2 HB GE141 GE142 hb
      have NB141_149 := zn hg BK141
      have NB149_141 := zN hg BK141
      replace BK141 := zB BK141 hb
      have NB142_149 := zn hg BK142
      have NB149_142 := zN hg BK142
      replace BK142 := zB BK142 hb
      clear hb hbox hg
      refine hK.out _ _ ⟨(jF BK141.out 0).trans rfl, (jF BK141.out 1).trans rfl⟩ (fun hHeld => ?_)
      clear hK K
      refine norm_ (a' := ?_) ?_ ?_
      rotate_left
      ·show Act.put _ (some 11) _ = _
       simp only [Act.put, jC, jH, jI, i64_w, i32_w]
       rfl
      refine one_ (i := 6) (N := some 27) m9_1fe rfl rfl (one_of HT_.out zr) (by decide) (fun K hK => ?_)
      refine goes_ Try.func72 zr rfl #[.agg #[.int .i64 a1_0, .slice A1_1 l1_1.length c1_1], .int .i64 t144, .int .i64 (wrap64 (-a3))] (by rfl) rfl rfl zm ?_
      with_reducible refine (spec_l26With.calls a1_0 _ _ l1_1 t144 (wrap64 (-a3)) t145 t146 _ ?side1 ?side2 A8.out).mono ?_
      (case side1 => exact zs HR1_1 HB)
      (case side2 => exact HC1_1.out)
      rintro e w36 ⟨v147, rfl, ho0, hb⟩
      refine ⟨_, rfl, ?_⟩
      have HO148 := jA (jU ho0 (jW (zb3 HB GE141 GE142 GE149)))
      replace BK141 := zB BK141 hb
      replace BK142 := zB BK142 hb
      replace BK149 := zB BK149 hb
      replace HB := zS3 HB GE141 GE142 GE149 hb
      (try clear hb)
      (try clear hb2)
      (try clear hk)
      (try clear hi)
      (try clear ho0)
      refine hK.out _ _ ⟨(jF BK141.out 0).trans rfl, (jF BK141.out 1).trans rfl⟩ (fun hHeld => ?_)
      clear hK K
      refine norm_ (a' := ?_) ?_ ?_
      rotate_left
      ·show Act.put _ (some 27) _ = _
       simp only [Act.put, jC, jH, jI, i64_w, i32_w]
       rfl
      exact norm_ (by simp only [putAll, Act.put, jC, jH, jI]) (hCont (v147, gb149) _ ⟨hHeld, (zo HO148), (zk BK141), (zk BK142), (zk BK149), GW149.out, GE149.out, NB141_149.out, NB149_141.out, NB142_149.out, NB149_142.out, (zb3 HB GE141 GE142 GE149)⟩)
    ·skip
     refine box_step ?hg (N := 11) ?hd (cs := #[.int .i64 0, .slice none 0 0]) (t := 28) ?hr ?_; (case hd => rfl); (case hg => rfl); (case hr => first | (go_simp; done) | (go_simp; rfl))
     intro gb149 hg w35 hbox hb
     have BK149 := jA (hbox)
     have GW149 := zg2 hg HB GE141 GE142
     have GE149 := zg2 hg HB GE141 GE142
     replace HB := zS2 HB GE141 GE142 hb
     have NB141_149 := zn hg BK141
     have NB149_141 := zN hg BK141
     replace BK141 := zB BK141 hb
     have NB142_149 := zn hg BK142
     have NB149_142 := zN hg BK142
     replace BK142 := zB BK142 hb
     clear hb hbox hg
     refine hK.out _ _ ⟨(jF BK141.out 0).trans rfl, (jF BK141.out 1).trans rfl⟩ (fun hHeld => ?_)
     clear hK K
     refine norm_ (a' := ?_) ?_ ?_
     rotate_left
     ·show Act.put _ (some 11) _ = _
      simp only [Act.put, jC, jH, jI, i64_w, i32_w]
      rfl
     refine one_ (i := 3) (N := some 24) m9_1fa rfl rfl (one_of HT_.out zr) (by decide) (fun K hK => ?_)
     refine goes_ Try.func73 zr rfl #[.slice A0 l0.length c0, .string a2] (by rfl) rfl rfl zm ?_
     with_reducible refine (spec_l03Find.calls k _ _ l0 a2 t144 _ ?side1 ?side2 A7.out).mono ?_
     (case side1 => exact zs HR0 HB)
     (case side2 => exact HC0.out)
     rintro e w' ⟨rfl, ⟨nd, rfl⟩⟩
     refine ⟨_, rfl, ?_⟩
     refine hK.out _ _ ⟨(jF BK141.out 0).trans rfl, (jF BK141.out 1).trans rfl⟩ (fun hHeld => ?_)
     clear hK K
     refine norm_ (a' := ?_) ?_ ?_
     rotate_left
     ·show Act.put _ (some 24) _ = _
      simp only [Act.put, jC, jH, jI, i64_w, i32_w]
      rfl
     refine one_ (i := 6) (N := some 27) m9_1fe rfl rfl (one_of HT_.out zr) (by decide) (fun K hK => ?_)
     refine goes_ Try.func72 zr rfl #[.agg #[.int .i64 a1_0, .slice A1_1 l1_1.length c1_1], .int .i64 t144, .int .i64 (wrap64 (-a3))] (by rfl) rfl rfl zm ?_
     with_reducible refine (spec_l26With.calls a1_0 _ _ l1_1 t144 (wrap64 (-a3)) t145 t146 _ ?side1 ?side2 A8.out).mono ?_
     (case side1 => repeat (first | exact HR1_1.out | exact (Kd.C_below HR1_1.out (zb3 HB GE141 GE142 GE149)) | (with_reducible refine Kd.C_alloc ?_ _) | (with_reducible refine Kd.C_drewN ?_ _) | (with_reducible refine Kd.C_drew ?_)))
     (case side2 => exact HC1_1.out)
     rintro e w36 ⟨v147, rfl, ho0, hb⟩
     refine ⟨_, rfl, ?_⟩
     have HO148 := jA (jU ho0 (jW (zb3 HB GE141 GE142 GE149)))
     replace BK141 := zB BK141 hb
     replace BK142 := zB BK142 hb
     replace BK149 := zB BK149 hb
     replace HB := zS3 HB GE141 GE142 GE149 hb
     (try clear hb)
     (try clear hb2)
     (try clear hk)
     (try clear hi)
     (try clear ho0)
     refine hK.out _ _ ⟨(jF BK141.out 0).trans rfl, (jF BK141.out 1).trans rfl⟩ (fun hHeld => ?_)
     clear hK K
     refine norm_ (a' := ?_) ?_ ?_
     rotate_left
     ·show Act.put _ (some 27) _ = _
      simp only [Act.put, jC, jH, jI, i64_w, i32_w]
      rfl
     exact norm_ (by simp only [putAll, Act.put, jC, jH, jI]) (hCont (v147, gb149) _ ⟨hHeld, (zo HO148), (zk BK141), (zk BK142), (zk BK149), GW149.out, GE149.out, NB141_149.out, NB149_141.out, NB142_149.out, NB149_142.out, (zb3 HB GE141 GE142 GE149)⟩)
   rintro ⟨v147, gb149⟩ w37 ⟨hS_, h0_, h1_, h2_, h3_, h4_, h5_, h6_, h7_, h8_, h9_, h10_⟩
   have HO148 : Aside0 (Kd.R (Kd.int .i64) 2 w37 w.heap.size (fun _ => True) v147 t146) := ⟨h0_⟩
   replace BK141 : Aside0 (w37.heap[gb141]? = some (.cells #[.int .i64 a1_0, .slice A1_1 l1_1.length c1_1] 28 (0, 0))) := ⟨h1_⟩
   replace BK142 : Aside0 (w37.heap[gb142]? = some (.cells #[.int .i64 0, .slice none 0 0] 28 (0, 0))) := ⟨h2_⟩
   have BK149 : Aside0 (w37.heap[gb149]? = some (.cells #[.int .i64 0, .slice none 0 0] 28 (0, 0))) := ⟨h3_⟩
   have GW149 : Aside0 (w.heap.size ≤ gb149) := ⟨h4_⟩
   have GE149 : Aside0 (w.heap.size ≤ gb149) := ⟨h5_⟩
   have NB141_149 : Aside0 (gb141 ≠ gb149) := ⟨h6_⟩
   have NB149_141 : Aside0 (gb149 ≠ gb141) := ⟨h7_⟩
   have NB142_149 : Aside0 (gb142 ≠ gb149) := ⟨h8_⟩
   have NB149_142 : Aside0 (gb149 ≠ gb142) := ⟨h9_⟩
   replace HB : Aside0 (Below w.heap.size w w37) := ⟨h10_⟩
   clear h0_ h1_ h2_ h3_ h4_ h5_ h6_ h7_ h8_ h9_ h10_
   have hHeld : w37.cell? ⟨gb141, 0, none⟩ = some (.int .i64 a1_0) ∧ w37.cell? ⟨gb141, 1, none⟩ = some (.slice A1_1 l1_1.length c1_1) := hS_
   obtain ⟨Ao39, co39, eo39⟩ := Kd.R_slice HO148.out
   (first | subst eo39 | (injection eo39 with f1_ f2_ f3_; have f4_ := f1_.symm; have f5_ := f3_.symm; clear f1_ f2_ f3_; subst f4_; subst f5_))
   refine norm_ (a' := ?_) ?_ ?_
   rotate_left
   ·simp only [putAll, Act.put, jC, jH, jI]
    rfl
   refine one_ (i := 8) (N := none) m9_1ff rfl rfl (one_of HT_.out zr) (by decide) (fun K hK => ?_)
   have hs38 : w37.cell? ⟨gb149, 0, none⟩ = some (.int .i64 0) := (jF BK149.out 0).trans rfl
   have hfs38 := blk_frozen BK149.out 0
   have hns38_0 := NB141_149.out
   have hns38_1 := NB142_149.out
   have hms38_0 := NB149_141.out
   have hms38_1 := NB149_142.out
   have hs40 : w37.cell? ⟨gb149, 1, none⟩ = some (.slice none 0 0) := (jF BK149.out 1).trans rfl
   have hfs40 := blk_frozen BK149.out 1
   have hns40_0 := NB141_149.out
   have hns40_1 := NB142_149.out
   have hms40_0 := NB149_141.out
   have hms40_1 := NB149_142.out
   refine skip_ (w1 := ?_) (by rfl) rfl ?_ ?_
   rotate_left
   ·go_simp
    rfl
   refine hK.out _ _ ⟨((jL (p := ⟨gb149, _, none⟩) NB141_149.out _).trans (((jL (p := ⟨gb149, _, none⟩) NB141_149.out _).trans (hHeld.1)))), ((jL (p := ⟨gb149, _, none⟩) NB141_149.out _).trans (((jL (p := ⟨gb149, _, none⟩) NB141_149.out _).trans (hHeld.2))))⟩ (fun hHeld => ?_)
   clear hK K
   refine done_ (done_of HT_.out zr) ?_
   have hnb41 := NB149_141.out
   have hnc41 := NB141_149.out
   have hnb42 := NB149_142.out
   have hnc42 := NB142_149.out
   have hcz43 := zc2 BK149
   try go_wp2_with (first | ((with_reducible refine jG (f := 25) rfl ?_); refine zL (some 30) Try.func25 #[.slice A0 l0.length c0, .agg #[.int .i64 t145, .slice Ao39 t146.length co39]] ?_; (with_reducible refine (spec_IsMagazine.calls k _ _ l0 t145 _ _ t146 false _ ?side1 ?side2 ?side3 ?side4 A9.out).mono ?_); (case side1 => exact Kd.C_below HR0.out (zb3 HB GE141 GE142 GE149)); (case side2 => exact HC0.out); (case side3 => refine (jO (e := 2) (base := w.heap.size) (ok := fun k_ => True) (n := t146.length) (c := co39) ?_).2.2; exact (zU HO148 BK149)); (case side4 => exact (jO HO148.out).2.1); rintro e w44 ⟨rfl, hb⟩; refine ⟨_, rfl, ?_⟩; replace HO148 := jA (jE (zU HO148 BK149) hb); replace BK141 := jA (jT (g := gb141) (o := .cells #[.int .i64 a1_0, .slice A1_1 l1_1.length c1_1] 28 (0, 0)) (zQ1 BK141 NB141_149) hb); replace BK142 := jA (jT (g := gb142) (o := .cells #[.int .i64 0, .slice none 0 0] 28 (0, 0)) (zQ1 BK142 NB142_149) hb); replace BK149 := jA (jT (g := gb149) (o := .cells #[.int .i64 t145, .slice Ao39 t146.length co39] 28 (0, 0)) (zP0 BK149) hb); replace HB := zS3 HB GE141 GE142 GE149 hb; clear hb; have hcz45 := zc2 BK142))
   refine jX (results_ct rfl _ _ gb142 28 #[.int .i64 0, .slice none 0 0] (0, 0) _ rfl (zP0 BK142) Try.underlying28 rfl zr) rfl ?_
   exact ⟨_, ze, by first | exact Kd.R_nil _ _ _ _ _ | exact Kd.N_nil _ _ _ _ _ | exact Kd.V_nil _ _ _ _ _ | exact Kd.Q_nil _ _ _ _ _ | exact Kd.S_nil _ _ _ _ _, zb3 HB GE141 GE142 GE149⟩
 ·rw [if_neg c6] at H
  have c6b0 : (t143 == 0) = false := beq_eq_false_iff_ne.mpr c6
  have c6b1 : (t143 != 0) = true := bne_iff_ne.mpr c6
  simp only [jM, jS] at H
  obtain ⟨rfl, rfl, rfl⟩ := H
  go_enter Try.func35, Try.ntmps35
  go_wp2_with (first | ((with_reducible refine jJ (N := 5) rfl ?_); refine zE 5 #[.int .i64 a1_0, .slice A1_1 l1_1.length c1_1] 28 ?_; intro gb141 hg w46 hbox hb; have BK141 := jA (hbox); have GW141 := zg0 hg HB; have GE141 := zg0 hg HB; replace HB := zS0 HB hb; clear hb hbox hg) | ((with_reducible refine jJ (N := 8) rfl ?_); refine zE 8 #[.int .i64 0, .slice none 0 0] 28 ?_; intro gb142 hg w47 hbox hb; have BK142 := jA (hbox); have GW142 := zg1 hg HB GE141; have GE142 := zg1 hg HB GE141; replace HB := zS1 HB GE141 hb; have NB141_142 := zn hg BK141; replace BK141 := zB BK141 hb; have NB142_141 := jA NB141_142.out.symm; clear hb hbox hg; have hnb48 := NB141_142.out; have hnc48 := NB142_141.out; have hcz49 := zc2 BK141) | ((with_reducible refine jG (f := 69) rfl ?_); refine zL (some 16) Try.func69 #[.slice A0 l0.length c0, .agg #[.int .i64 a1_0, .slice A1_1 l1_1.length c1_1], .string a2, .int .i64 a3] ?_; (with_reducible refine (spec_l26Code.calls k _ _ l0 a1_0 _ _ l1_1 a2 a3 t143 _ ?side1 ?side2 ?side3 ?side4 A5.out).mono ?_); (case side1 => exact zs HR0 HB); (case side2 => exact HC0.out); (case side3 => exact zs HR1_1 HB); (case side4 => exact HC1_1.out); rintro e w50 ⟨rfl, hb⟩; refine ⟨_, rfl, ?_⟩; replace BK141 := zB BK141 hb; replace BK142 := zB BK142 hb; replace HB := zS2 HB GE141 GE142 hb; clear hb; have hcz51 := zc2 BK142))
  refine jX (results_ct rfl _ _ gb142 28 #[.int .i64 0, .slice none 0 0] (0, 0) _ rfl (zP0 BK142) Try.underlying28 rfl zr) rfl ?_
  exact ⟨_, ze, by first | exact Kd.R_nil _ _ _ _ _ | exact Kd.N_nil _ _ _ _ _ | exact Kd.V_nil _ _ _ _ _ | exact Kd.Q_nil _ _ _ _ _ | exact Kd.S_nil _ _ _ _ _, zb2 HB GE141 GE142⟩

end Go.Proofs.Ytdgglhfnlljmeaa.PFnMoved
