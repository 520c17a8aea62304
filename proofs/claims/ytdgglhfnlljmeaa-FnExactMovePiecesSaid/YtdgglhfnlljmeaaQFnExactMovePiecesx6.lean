/- Functions and contracts that FnExactMovePieces reaches (7 of 24). -/
import Derived.Test.YtdgglhfnlljmeaaQFnExactMovePiecesx5
namespace Go.Proofs.Ytdgglhfnlljmeaa.PFnExactMovePieces
open Go.RowKit Go.Proofs.YtdgglhfnlljmeaaW.PrintWords Go.Proofs.YtdgglhfnlljmeaaW.PrintLast Go.Proofs.YtdgglhfnlljmeaaW.PrintMore
attribute [local go_sem] max2_int min2_int max_two min_two max_three min_three max_four min_four   -- for this text's walks alone
set_option linter.unusedVariables false
set_option linter.unusedSimpArgs false
open Go.Proofs.YtdgglhfnlljmeaaX

/-! ### spec_StorePieces: function 40 -/
def spec_StorePieces.f (k : Nat) (l0 : List (S65)) (a1_0 : Int) (l1_1 : List Int) (a2 : ByteArray) (a3 : Int) : Option (Int × List Int × Int) := (spec_l26Code.f k l0 a1_0 l1_1 a2 a3).bind fun t169 => (if t169 = 0 then ((spec_l03Find.f k l0 a2).bind fun t170 => ((spec_l26With.f a1_0 l1_1 t170 a3).bind fun bt171 => ((spec_IsMagazine.f k l0 bt171.1 bt171.2).bind fun t176 => (if t176 = true then ((spec_l26Lawful.f k l0 bt171.1 bt171.2).bind fun t177 => (if t177 = true then (some (bt171.1, bt171.2, 0)) else (some (0, ([] : List Int), 5)))) else (some (0, ([] : List Int), 5)))))) else (some (0, ([] : List Int), t169)))
theorem spec_StorePieces.mono : ∀ a0 a1 a2 a3 a4 k, LeO (spec_StorePieces.f k a0 a1 a2 a3 a4) (spec_StorePieces.f (k + 1) a0 a1 a2 a3 a4) := by
 intro a0 a1 a2 a3 a4 k
 unfold spec_StorePieces.f
 repeat' first
   | (with_reducible exact spec_IsMagazine.mono _ _ _ _)
   | (with_reducible exact spec_l03Find.mono _ _ _)
   | (with_reducible exact spec_l26Code.mono _ _ _ _ _ _)
   | (with_reducible exact spec_l26Lawful.mono _ _ _ _)
   | (with_reducible exact LeO.refl _)
   | (with_reducible exact LeO.none _)
   | (with_reducible refine LeO.ite ?_ ?_)
   | (with_reducible refine LeO.bind ?_ (fun _ => ?_))
   | exact spec_IsMagazine.mono _ _ _ _
   | exact spec_l03Find.mono _ _ _
   | exact spec_l26Code.mono _ _ _ _ _ _
   | exact spec_l26Lawful.mono _ _ _ _
   | exact LeO.none _
   | refine LeO.ite ?_ ?_
   | refine LeO.bind ?_ (fun _ => ?_)
def spec_StorePieces.T4 : Bool × List (List Nat × List Nat) := (true, [([], []), ([], []), ([], []), ([1, 2], [1, 2]), ([], []), ([0, 3, 4, 3], [0, 3, 4]), ([], []), ([6, 5, 5, 0, 1, 2, 3, 4, 5, 6], [5, 6])])
def spec_StorePieces.B4 : List Nat := [0, 0, 0, 6, 0, 31, 0, 127]
theorem spec_StorePieces.tab4 : rtab .any (opsOf Try.f40 4) = spec_StorePieces.T4 := by kernel_rfl
theorem spec_StorePieces.bits4 : waitsOk spec_StorePieces.T4.2 spec_StorePieces.B4 = true := by kernel_rfl
set_option maxHeartbeats 8000000 in
set_option maxRecDepth 100000 in
theorem spec_StorePieces.calls (k : Nat) (A0 : Option Addr) (c0 : Nat) (l0 : List (S65)) (a1_0 : Int) (A1_1 : Option Addr) (c1_1 : Nat) (l1_1 : List Int) (a2 : ByteArray) (a3 : Int) (r1 : Int) (r2 : List Int) (r3 : Int) (w : World) (hr0 : Kd.C k65 w A0 l0.length l0) (hc0 : l0.length ≤ c0) (hr1_1 : Kd.C (Kd.int .i64) w A1_1 l1_1.length l1_1) (hc1_1 : l1_1.length ≤ c1_1) (h : spec_StorePieces.f k l0 a1_0 l1_1 a2 a3 = some (r1, r2, r3)) :
  Calls Try.prog 40 #[.slice A0 l0.length c0, .agg #[.int .i64 a1_0, .slice A1_1 l1_1.length c1_1], .string a2, .int .i64 a3] w fun e w' => ∃ v1_ : Value, e = .returned (.tuple #[.agg #[.int .i64 r1, v1_], .int .i64 r3]) ∧ Kd.R (Kd.int .i64) 2 w' w.heap.size (fun _ => True) v1_ r2 ∧ Below w.heap.size w w' := by
 have hu28 := Try.underlying28
 have HR0 := jA hr0
 have HC0 := jA hc0
 clear hr0 hc0
 have HR1_1 := jA hr1_1
 have HC1_1 := jA hc1_1
 clear hr1_1 hc1_1
 have HB := jA (Below.refl w.heap.size w)
 have H := h
 unfold spec_StorePieces.f at H
 clear h
 replace H := jG.mp H
 obtain ⟨t169, A50, H⟩ := H
 try dsimp only at H
 have A5 := jA A50
 clear A50
 by_cases c6 : t169 = 0
 ·rw [if_pos c6] at H
  have c6b0 : (t169 == 0) = true := beq_iff_eq.mpr c6
  have c6b1 : (t169 != 0) = false := bne_eq_false_iff_eq.mpr c6
  clear c6
  replace H := jG.mp H
  obtain ⟨t170, A70, H⟩ := H
  try dsimp only at H
  have A7 := jA A70
  clear A70
  replace H := jG.mp H
  obtain ⟨⟨t171, t172⟩, A80, H⟩ := H
  try dsimp only at H
  have A8 := jA A80
  clear A80
  replace H := jG.mp H
  obtain ⟨t176, A90, H⟩ := H
  try dsimp only at H
  have A9 := jA A90
  clear A90
  by_cases c10 : t176 = true
  ·subst c10
   rw [if_pos rfl] at H
   replace H := jG.mp H
   obtain ⟨t177, A110, H⟩ := H
   try dsimp only at H
   have A11 := jA A110
   clear A110
   by_cases c12 : t177 = true
   ·subst c12
    rw [if_pos rfl] at H
    simp only [jN, jQ] at H
    obtain ⟨rfl, rfl, rfl⟩ := H
    go_enter Try.func40, Try.ntmps40
    try go_wp2_with (first | ((with_reducible refine jJ (N := 5) rfl ?_); refine zE 5 #[.int .i64 a1_0, .slice A1_1 l1_1.length c1_1] 28 ?_; intro gb167 hg w13 hbox hb; have BK167 := jA (hbox); have GW167 := zg0 hg HB; have GE167 := zg0 hg HB; replace HB := zS0 HB hb; clear hb hbox hg) | ((with_reducible refine jJ (N := 8) rfl ?_); refine zE 8 #[.int .i64 0, .slice none 0 0] 28 ?_; intro gb168 hg w14 hbox hb; have BK168 := jA (hbox); have GW168 := zg1 hg HB GE167; have GE168 := zg1 hg HB GE167; replace HB := zS1 HB GE167 hb; have NB167_168 := zn hg BK167; replace BK167 := zB BK167 hb; have NB168_167 := jA NB167_168.out.symm; clear hb hbox hg; have hnb15 := NB167_168.out; have hnc15 := NB168_167.out; have hcz16 := zc2 BK167) | ((with_reducible refine jK (f := 69) rfl ?_); refine zL (some 16) Try.func69 #[.slice A0 l0.length c0, .agg #[.int .i64 a1_0, .slice A1_1 l1_1.length c1_1], .string a2, .int .i64 a3] ?_; (with_reducible refine (spec_l26Code.calls k _ _ l0 a1_0 _ _ l1_1 a2 a3 t169 _ ?side1 ?side2 ?side3 ?side4 A5.out).mono ?_); (case side1 => exact zs HR0 HB); (case side2 => exact HC0.out); (case side3 => exact zs HR1_1 HB); (case side4 => exact HC1_1.out); rintro e w17 ⟨rfl, hb⟩; refine ⟨_, rfl, ?_⟩; replace BK167 := zB BK167 hb; replace BK168 := zB BK168 hb; replace HB := zS2 HB GE167 GE168 hb; clear hb))
    replace BK167 := jA (blk_drew BK167.out)
    replace BK168 := jA (blk_drew BK168.out)
    replace HB := jA (jR HB.out)
    refine start_ (n := 8) (S := fun w' => w'.cell? ⟨gb167, 0, none⟩ = some (.int .i64 a1_0) ∧ w'.cell? ⟨gb167, 1, none⟩ = some (.slice A1_1 l1_1.length c1_1)) (ds := []) m8_0 zr rfl rfl ⟨(jD BK167.out 0).trans rfl, (jD BK167.out 1).trans rfl⟩ (fun hHeld => ?_); refine with_tabW spec_StorePieces.tab4 spec_StorePieces.bits4 (fun HT_ HW_ => ?_)
    generalize w17.drew = w18 at BK167 BK168 HB hHeld ⊢
    refine zp HT_ 1 22 m8_40 ?_
    refine zp HT_ 2 23 m8_60 ?_
    refine zp HT_ 4 25 m8_68 ?_
    refine zt2 HT_ HW_ hHeld 0 21 m8_e8 ?_
    refine join_ (σ := Value × Nat) 1 m8_fe (fun s_ => [(24, .int .i64 t170), (26, .agg #[.int .i64 t171, s_.1]), (11, .pointer (some ⟨s_.2, 0, none⟩))]) (fun s_ w' => (w'.cell? ⟨gb167, 0, none⟩ = some (.int .i64 a1_0) ∧ w'.cell? ⟨gb167, 1, none⟩ = some (.slice A1_1 l1_1.length c1_1)) ∧ (Kd.R (Kd.int .i64) 2 w' w.heap.size (fun _ => True) s_.1 t172) ∧ (w'.heap[gb167]? = some (.cells #[.int .i64 a1_0, .slice A1_1 l1_1.length c1_1] 28 (0, 0))) ∧ (w'.heap[gb168]? = some (.cells #[.int .i64 0, .slice none 0 0] 28 (0, 0))) ∧ (w'.heap[s_.2]? = some (.cells #[.int .i64 0, .slice none 0 0] 28 (0, 0))) ∧ (w.heap.size ≤ s_.2) ∧ (w.heap.size ≤ s_.2) ∧ (gb167 ≠ s_.2) ∧ (s_.2 ≠ gb167) ∧ (gb168 ≠ s_.2) ∧ (s_.2 ≠ gb168) ∧ (Below w.heap.size w w')) ?_ ?_
    rotate_left
    ·intro hCont
     refine two_ (i := 3) (j := 6) (Ni := some 24) (Nj := some 11) m8_f8 m8_ea rfl rfl rfl rfl (two_of HT_.out zr) (by decide) (by decide) (fun K hK => ?_) (fun K hK => ?_)
     ·skip
      refine goes_ Try.func73 zr rfl #[.slice A0 l0.length c0, .string a2] (by rfl) rfl rfl zm ?_
      with_reducible refine (spec_l03Find.calls k _ _ l0 a2 t170 _ ?side1 ?side2 A7.out).mono ?_
      (case side1 => exact zs HR0 HB)
      (case side2 => exact HC0.out)
      rintro e w' ⟨rfl, ⟨nd, rfl⟩⟩
      refine ⟨_, rfl, ?_⟩
      refine hK.out _ _ ⟨(jD BK167.out 0).trans rfl, (jD BK167.out 1).trans rfl⟩ (fun hHeld => ?_)
      clear hK K
      refine norm_ (a' := ?_) ?_ ?_
      rotate_left
      ·show Act.put _ (some 24) _ = _
       simp only [Act.put, jC, jE, jF, i64_w, i32_w]
       rfl
      refine two_ (i := 5) (j := 6) (Ni := some 26) (Nj := some 11) m8_fc m8_fa rfl rfl rfl rfl (two_of HT_.out zr) (by decide) (by decide) (fun K hK => ?_) (fun K hK => ?_)
      ·skip
       refine goes_ Try.func72 zr rfl #[.agg #[.int .i64 a1_0, .slice A1_1 l1_1.length c1_1], .int .i64 t170, .int .i64 a3] (by rfl) rfl rfl zm ?_
       with_reducible refine (spec_l26With.calls a1_0 _ _ l1_1 t170 a3 t171 t172 _ ?side1 ?side2 A8.out).mono ?_
       (case side1 => repeat (first | exact HR1_1.out | exact (Kd.C_below HR1_1.out (zb2 HB GE167 GE168)) | (with_reducible refine Kd.C_alloc ?_ _) | (with_reducible refine Kd.C_drewN ?_ _) | (with_reducible refine Kd.C_drew ?_)))
       (case side2 => exact HC1_1.out)
       rintro e w19 ⟨v173, rfl, ho0, hb⟩
       refine ⟨_, rfl, ?_⟩
       have HO174 := jA (Kd.R_lower ho0 (below_size (zb2 HB GE167 GE168)))
       replace BK167 := zB BK167 hb
       replace BK168 := zB BK168 hb
       replace HB := zS2 HB GE167 GE168 hb
       (try clear hb)
       (try clear hb2)
       (try clear hk)
       (try clear hi)
       (try clear ho0)
       refine hK.out _ _ ⟨(jD BK167.out 0).trans rfl, (jD BK167.out 1).trans rfl⟩ (fun hHeld => ?_)
       clear hK K
       refine norm_ (a' := ?_) ?_ ?_
       rotate_left
       ·show Act.put _ (some 26) _ = _
        simp only [Act.put, jC, jE, jF, i64_w, i32_w]
        rfl
       refine one_ (i := 6) (N := some 11) m8_fe rfl rfl (one_of HT_.out zr) (by decide) (fun K hK => ?_)
       refine box_step ?hg (N := 11) ?hd (cs := #[.int .i64 0, .slice none 0 0]) (t := 28) ?hr ?_; (case hd => rfl); (case hg => rfl); (case hr => first | (go_simp; done) | (go_simp; rfl))
       intro gb175 hg w20 hbox hb
       replace HO174 := jA (Kd.R_below (zo HO174) hb)
       have BK175 := jA (hbox)
       have GW175 := zg2 hg HB GE167 GE168
       have GE175 := zg2 hg HB GE167 GE168
       replace HB := zS2 HB GE167 GE168 hb
       have NB167_175 := zn hg BK167
       have NB175_167 := zN hg BK167
       replace BK167 := zB BK167 hb
       have NB168_175 := zn hg BK168
       have NB175_168 := zN hg BK168
       replace BK168 := zB BK168 hb
       clear hb hbox hg
       refine hK.out _ _ ⟨(jD BK167.out 0).trans rfl, (jD BK167.out 1).trans rfl⟩ (fun hHeld => ?_)
       clear hK K
       refine norm_ (a' := ?_) ?_ ?_
       rotate_left
       ·show Act.put _ (some 11) _ = _
        simp only [Act.put, jC, jE, jF, i64_w, i32_w]
        rfl
       exact norm_ (by simp only [putAll, Act.put, jC, jE, jF]) (hCont (v173, gb175) _ ⟨hHeld, (zo HO174), (zk BK167), (zk BK168), (zk BK175), GW175.out, GE175.out, NB167_175.out, NB175_167.out, NB168_175.out, NB175_168.out, (zb3 HB GE167 GE168 GE175)⟩)
      ·skip
       refine box_step ?hg (N := 11) ?hd (cs := #[.int .i64 0, .slice none 0 0]) (t := 28) ?hr ?_; (case hd => rfl); (case hg => rfl); (case hr => first | (go_simp; done) | (go_simp; rfl))
       intro gb175 hg w19 hbox hb
       have BK175 := jA (hbox)
       have GW175 := zg2 hg HB GE167 GE168
       have GE175 := zg2 hg HB GE167 GE168
       replace HB := zS2 HB GE167 GE168 hb
       have NB167_175 := zn hg BK167
       have NB175_167 := zN hg BK167
       replace BK167 := zB BK167 hb
       have NB168_175 := zn hg BK168
       have NB175_168 := zN hg BK168
       replace BK168 := zB BK168 hb
       clear hb hbox hg
       refine hK.out _ _ ⟨(jD BK167.out 0).trans rfl, (jD BK167.out 1).trans rfl⟩ (fun hHeld => ?_)
       clear hK K
       refine norm_ (a' := ?_) ?_ ?_
       rotate_left
       ·show Act.put _ (some 11) _ = _
        simp only [Act.put, jC, jE, jF, i64_w, i32_w]
        rfl
       refine one_ (i := 5) (N := some 26) m8_fe rfl rfl (one_of HT_.out zr) (by decide) (fun K hK => ?_)
       refine goes_ Try.func72 zr rfl #[.agg #[.int .i64 a1_0, .slice A1_1 l1_1.length c1_1], .int .i64 t170, .int .i64 a3] (by rfl) rfl rfl zm ?_
       with_reducible refine (spec_l26With.calls a1_0 _ _ l1_1 t170 a3 t171 t172 _ ?side1 ?side2 A8.out).mono ?_
       (case side1 => exact zs HR1_1 HB)
       (case side2 => exact HC1_1.out)
       rintro e w20 ⟨v173, rfl, ho0, hb⟩
       refine ⟨_, rfl, ?_⟩
       have HO174 := jA (Kd.R_lower ho0 (below_size (zb3 HB GE167 GE168 GE175)))
       replace BK167 := zB BK167 hb
       replace BK168 := zB BK168 hb
       replace BK175 := zB BK175 hb
       replace HB := zS3 HB GE167 GE168 GE175 hb
       (try clear hb)
       (try clear hb2)
       (try clear hk)
       (try clear hi)
       (try clear ho0)
       refine hK.out _ _ ⟨(jD BK167.out 0).trans rfl, (jD BK167.out 1).trans rfl⟩ (fun hHeld => ?_)
       clear hK K
       refine norm_ (a' := ?_) ?_ ?_
       rotate_left
       ·show Act.put _ (some 26) _ = _
        simp only [Act.put, jC, jE, jF, i64_w, i32_w]
        rfl
       exact norm_ (by simp only [putAll, Act.put, jC, jE, jF]) (hCont (v173, gb175) _ ⟨hHeld, (zo HO174), (zk BK167), (zk BK168), (zk BK175), GW175.out, GE175.out, NB167_175.out, NB175_167.out, NB168_175.out, NB175_168.out, (zb3 HB GE167 GE168 GE175)⟩)
     ·skip
      refine box_step ?hg (N := 11) ?hd (cs := #[.int .i64 0, .slice none 0 0]) (t := 28) ?hr ?_; (case hd => rfl); (case hg => rfl); (case hr => first | (go_simp; done) | (go_simp; rfl))
      intro gb175 hg w19 hbox hb
      have BK175 := jA (hbox)
      have GW175 := zg2 hg HB GE167 GE168
      have GE175 := zg2 hg HB GE167 GE168
      replace HB := zS2 HB GE167 GE168 hb
      have NB167_175 := zn hg BK167
      have NB175_167 := zN hg BK167
      replace BK167 := zB BK167 hb
      have NB168_175 := zn hg BK168
      have NB175_168 := zN hg BK168
      replace BK168 := zB BK168 hb
      clear hb hbox hg
      refine hK.out _ _ ⟨(jD BK167.out 0).trans rfl, (jD BK167.out 1).trans rfl⟩ (fun hHeld => ?_)
      clear hK K
      refine norm_ (a' := ?_) ?_ ?_
      rotate_left
      ·show Act.put _ (some 11) _ = _
       simp only [Act.put, jC, jE, jF, i64_w, i32_w]
       rfl
      refine one_ (i := 3) (N := some 24) m8_fa rfl rfl (one_of HT_.out zr) (by decide) (fun K hK => ?_)
      refine goes_ Try.func73 zr rfl #[.slice A0 l0.length c0, .string a2] (by rfl) rfl rfl zm ?_
      with_reducible refine (spec_l03Find.calls k _ _ l0 a2 t170 _ ?side1 ?side2 A7.out).mono ?_
      (case side1 => exact zs HR0 HB)
      (case side2 => exact HC0.out)
      rintro e w' ⟨rfl, ⟨nd, rfl⟩⟩
      refine ⟨_, rfl, ?_⟩
      refine hK.out _ _ ⟨(jD BK167.out 0).trans rfl, (jD BK167.out 1).trans rfl⟩ (fun hHeld => ?_)
      clear hK K
      refine norm_ (a' := ?_) ?_ ?_
      rotate_left
      ·show Act.put _ (some 24) _ = _
       simp only [Act.put, jC, jE, jF, i64_w, i32_w]
       rfl
      refine one_ (i := 5) (N := some 26) m8_fe rfl rfl (one_of HT_.out zr) (by decide) (fun K hK => ?_)
      refine goes_ Try.func72 zr rfl #[.agg #[.int .i64 a1_0, .slice A1_1 l1_1.length c1_1], .int .i64 t170, .int .i64 a3] (by rfl) rfl rfl zm ?_
      with_reducible refine (spec_l26With.calls a1_0 _ _ l1_1 t170 a3 t171 t172 _ ?side1 ?side2 A8.out).mono ?_
      (case side1 => repeat (first | exact HR1_1.out | exact (Kd.C_below HR1_1.out (zb3 HB GE167 GE168 GE175)) | (with_reducible refine Kd.C_alloc ?_ _) | (with_reducible refine Kd.C_drewN ?_ _) | (with_reducible refine Kd.C_drew ?_)))
      (case side2 => exact HC1_1.out)
      rintro e w20 ⟨v173, rfl, ho0, hb⟩
      refine ⟨_, rfl, ?_⟩
      have HO174 := jA (Kd.R_lower ho0 (below_size (zb3 HB GE167 GE168 GE175)))
      replace BK167 := zB BK167 hb
      replace BK168 := zB BK168 hb
      replace BK175 := zB BK175 hb
      replace HB := zS3 HB GE167 GE168 GE175 hb
      (try clear hb)
      (try clear hb2)
      (try clear hk)
      (try clear hi)
      (try clear ho0)
      refine hK.out _ _ ⟨(jD BK167.out 0).trans rfl, (jD BK167.out 1).trans rfl⟩ (fun hHeld => ?_)
      clear hK K
      refine norm_ (a' := ?_) ?_ ?_
      rotate_left
      ·show Act.put _ (some 26) _ = _
       simp only [Act.put, jC, jE, jF, i64_w, i32_w]
       rfl
      exact norm_ (by simp only [putAll, Act.put, jC, jE, jF]) (hCont (v173, gb175) _ ⟨hHeld, (zo HO174), (zk BK167), (zk BK168), (zk BK175), GW175.out, GE175.out, NB167_175.out, NB175_167.out, NB168_175.out, NB175_168.out, (zb3 HB GE167 GE168 GE175)⟩)
    rintro ⟨v173, gb175⟩ w21 ⟨hS_, h0_, h1_, h2_, h3_, h4_, h5_, h6_, h7_, h8_, h9_, h10_⟩
    have HO174 : Aside0 (Kd.R (Kd.int .i64) 2 w21 w.heap.size (fun _ => True) v173 t172) := ⟨h0_⟩
    replace BK167 : Aside0 (w21.heap[gb167]? = some (.cells #[.int .i64 a1_0, .slice A1_1 l1_1.length c1_1] 28 (0, 0))) := ⟨h1_⟩
    replace BK168 : Aside0 (w21.heap[gb168]? = some (.cells #[.int .i64 0, .slice none 0 0] 28 (0, 0))) := ⟨h2_⟩
    have BK175 : Aside0 (w21.heap[gb175]? = some (.cells #[.int .i64 0, .slice none 0 0] 28 (0, 0))) := ⟨h3_⟩
    have GW175 : Aside0 (w.heap.size ≤ gb175) := ⟨h4_⟩
    have GE175 : Aside0 (w.heap.size ≤ gb175) := ⟨h5_⟩
    have NB167_175 : Aside0 (gb167 ≠ gb175) := ⟨h6_⟩
    have NB175_167 : Aside0 (gb175 ≠ gb167) := ⟨h7_⟩
    have NB168_175 : Aside0 (gb168 ≠ gb175) := ⟨h8_⟩
    have NB175_168 : Aside0 (gb175 ≠ gb168) := ⟨h9_⟩
    replace HB : Aside0 (Below w.heap.size w w21) := ⟨h10_⟩
    clear h0_ h1_ h2_ h3_ h4_ h5_ h6_ h7_ h8_ h9_ h10_
    have hHeld : w21.cell? ⟨gb167, 0, none⟩ = some (.int .i64 a1_0) ∧ w21.cell? ⟨gb167, 1, none⟩ = some (.slice A1_1 l1_1.length c1_1) := hS_
    obtain ⟨Ao23, co23, eo23⟩ := Kd.R_slice HO174.out
    (first | subst eo23 | (injection eo23 with f1_ f2_ f3_; have f4_ := f1_.symm; have f5_ := f3_.symm; clear f1_ f2_ f3_; subst f4_; subst f5_))
    refine norm_ (a' := ?_) ?_ ?_
    rotate_left
    ·simp only [putAll, Act.put, jC, jE, jF]
     rfl
    refine one_ (i := 7) (N := none) m8_ff rfl rfl (one_of HT_.out zr) (by decide) (fun K hK => ?_)
    have hs22 : w21.cell? ⟨gb175, 0, none⟩ = some (.int .i64 0) := (jD BK175.out 0).trans rfl
    have hfs22 := blk_frozen BK175.out 0
    have hns22_0 := NB167_175.out
    have hns22_1 := NB168_175.out
    have hms22_0 := NB175_167.out
    have hms22_1 := NB175_168.out
    have hs24 : w21.cell? ⟨gb175, 1, none⟩ = some (.slice none 0 0) := (jD BK175.out 1).trans rfl
    have hfs24 := blk_frozen BK175.out 1
    have hns24_0 := NB167_175.out
    have hns24_1 := NB168_175.out
    have hms24_0 := NB175_167.out
    have hms24_1 := NB175_168.out
    refine skip_ (w1 := ?_) (by rfl) rfl ?_ ?_
    rotate_left
    ·go_simp
     rfl
    refine hK.out _ _ ⟨((jL (p := ⟨gb175, _, none⟩) NB167_175.out _).trans (((jL (p := ⟨gb175, _, none⟩) NB167_175.out _).trans (hHeld.1)))), ((jL (p := ⟨gb175, _, none⟩) NB167_175.out _).trans (((jL (p := ⟨gb175, _, none⟩) NB167_175.out _).trans (hHeld.2))))⟩ (fun hHeld => ?_)
    clear hK K
    refine done_ (done_of HT_.out zr) ?_
    have hnb25 := NB175_167.out
    have hnc25 := NB167_175.out
    have hnb26 := NB175_168.out
    have hnc26 := NB168_175.out
    have hcz27 := zc2 BK175
    try go_wp2_with (first | ((with_reducible refine jK (f := 25) rfl ?_); refine zL (some 29) Try.func25 #[.slice A0 l0.length c0, .agg #[.int .i64 t171, .slice Ao23 t172.length co23]] ?_; (with_reducible refine (spec_IsMagazine.calls k _ _ l0 t171 _ _ t172 true _ ?side1 ?side2 ?side3 ?side4 A9.out).mono ?_); (case side1 => exact Kd.C_below HR0.out (zb3 HB GE167 GE168 GE175)); (case side2 => exact HC0.out); (case side3 => refine (jP (e := 2) (base := w.heap.size) (ok := fun k_ => True) (n := t172.length) (c := co23) ?_).2.2; exact (zU HO174 BK175)); (case side4 => exact (jP HO174.out).2.1); rintro e w28 ⟨rfl, hb⟩; refine ⟨_, rfl, ?_⟩; replace HO174 := jA (Kd.R_below (zU HO174 BK175) hb); replace BK167 := jA (jO (g := gb167) (o := .cells #[.int .i64 a1_0, .slice A1_1 l1_1.length c1_1] 28 (0, 0)) (zQ1 BK167 NB167_175) hb); replace BK168 := jA (jO (g := gb168) (o := .cells #[.int .i64 0, .slice none 0 0] 28 (0, 0)) (zQ1 BK168 NB168_175) hb); replace BK175 := jA (jO (g := gb175) (o := .cells #[.int .i64 t171, .slice Ao23 t172.length co23] 28 (0, 0)) (zP0 BK175) hb); replace HB := zS3 HB GE167 GE168 GE175 hb; clear hb; have hcz29 := zc2 BK175) | (go_at_call 65; (with_reducible refine (spec_l26Lawful.calls k _ _ l0 t171 _ _ t172 true _ ?side1 ?side2 ?side3 ?side4 A11.out).mono ?_); (case side1 => exact zs HR0 HB); (case side2 => exact HC0.out); (case side3 => exact zv HO174); (case side4 => exact (jP HO174.out).2.1); rintro e w30 ⟨rfl, hb⟩; replace HO174 := jA (Kd.R_below (zo HO174) hb); replace BK167 := zB BK167 hb; replace BK168 := zB BK168 hb; replace BK175 := zB BK175 hb; replace HB := zS3 HB GE167 GE168 GE175 hb; (try clear hb); (try clear hb2); (try clear hk); (try clear hi); have hcz31 := zc2 BK175; have hcz32 := zc2 BK168))
    refine bodyPost_ret (results_ct rfl _ _ gb168 28 #[.int .i64 t171, .slice Ao23 t172.length co23] (0, 0) _ rfl (zP0 BK168) Try.underlying28 rfl zr) rfl ?_
    exact ⟨_, ze, zT HO174 BK168, zb3 HB GE167 GE168 GE175⟩
   ·replace c12 := Bool.eq_false_iff.mpr c12
    subst c12
    rw [if_neg zfalse] at H
    simp only [jN, jQ] at H
    obtain ⟨rfl, rfl, rfl⟩ := H
    go_enter Try.func40, Try.ntmps40
    try go_wp2_with (first | ((with_reducible refine jJ (N := 5) rfl ?_); refine zE 5 #[.int .i64 a1_0, .slice A1_1 l1_1.length c1_1] 28 ?_; intro gb167 hg w33 hbox hb; have BK167 := jA (hbox); have GW167 := zg0 hg HB; have GE167 := zg0 hg HB; replace HB := zS0 HB hb; clear hb hbox hg) | ((with_reducible refine jJ (N := 8) rfl ?_); refine zE 8 #[.int .i64 0, .slice none 0 0] 28 ?_; intro gb168 hg w34 hbox hb; have BK168 := jA (hbox); have GW168 := zg1 hg HB GE167; have GE168 := zg1 hg HB GE167; replace HB := zS1 HB GE167 hb; have NB167_168 := zn hg BK167; replace BK167 := zB BK167 hb; have NB168_167 := jA NB167_168.out.symm; clear hb hbox hg; have hnb35 := NB167_168.out; have hnc35 := NB168_167.out; have hcz36 := zc2 BK167) | ((with_reducible refine jK (f := 69) rfl ?_); refine zL (some 16) Try.func69 #[.slice A0 l0.length c0, .agg #[.int .i64 a1_0, .slice A1_1 l1_1.length c1_1], .string a2, .int .i64 a3] ?_; (with_reducible refine (spec_l26Code.calls k _ _ l0 a1_0 _ _ l1_1 a2 a3 t169 _ ?side1 ?side2 ?side3 ?side4 A5.out).mono ?_); (case side1 => exact zs HR0 HB); (case side2 => exact HC0.out); (case side3 => exact zs HR1_1 HB); (case side4 => exact HC1_1.out); rintro e w37 ⟨rfl, hb⟩; refine ⟨_, rfl, ?_⟩; replace BK167 := zB BK167 hb; replace BK168 := zB BK168 hb; replace HB := zS2 HB GE167 GE168 hb; clear hb))
    replace BK167 := jA (blk_drew BK167.out)
    replace BK168 := jA (blk_drew BK168.out)
    replace HB := jA (jR HB.out)
    refine start_ (n := 8) (S := fun w' => w'.cell? ⟨gb167, 0, none⟩ = some (.int .i64 a1_0) ∧ w'.cell? ⟨gb167, 1, none⟩ = some (.slice A1_1 l1_1.length c1_1)) (ds := []) m8_0 zr rfl rfl ⟨(jD BK167.out 0).trans rfl, (jD BK167.out 1).trans rfl⟩ (fun hHeld => ?_); refine with_tabW spec_StorePieces.tab4 spec_StorePieces.bits4 (fun HT_ HW_ => ?_)
    generalize w37.drew = w38 at BK167 BK168 HB hHeld ⊢
    refine zp HT_ 1 22 m8_40 ?_
    refine zp HT_ 2 23 m8_60 ?_
    refine zp HT_ 4 25 m8_68 ?_
    refine zt2 HT_ HW_ hHeld 0 21 m8_e8 ?_
    refine join_ (σ := Value × Nat) 1 m8_fe (fun s_ => [(24, .int .i64 t170), (26, .agg #[.int .i64 t171, s_.1]), (11, .pointer (some ⟨s_.2, 0, none⟩))]) (fun s_ w' => (w'.cell? ⟨gb167, 0, none⟩ = some (.int .i64 a1_0) ∧ w'.cell? ⟨gb167, 1, none⟩ = some (.slice A1_1 l1_1.length c1_1)) ∧ (Kd.R (Kd.int .i64) 2 w' w.heap.size (fun _ => True) s_.1 t172) ∧ (w'.heap[gb167]? = some (.cells #[.int .i64 a1_0, .slice A1_1 l1_1.length c1_1] 28 (0, 0))) ∧ (w'.heap[gb168]? = some (.cells #[.int .i64 0, .slice none 0 0] 28 (0, 0))) ∧ (w'.heap[s_.2]? = some (.cells #[.int .i64 0, .slice none 0 0] 28 (0, 0))) ∧ (w.heap.size ≤ s_.2) ∧ (w.heap.size ≤ s_.2) ∧ (gb167 ≠ s_.2) ∧ (s_.2 ≠ gb167) ∧ (gb168 ≠ s_.2) ∧ (s_.2 ≠ gb168) ∧ (Below w.heap.size w w')) ?_ ?_
    rotate_left
    ·intro hCont
     refine two_ (i := 3) (j := 6) (Ni := some 24) (Nj := some 11) m8_f8 m8_ea rfl rfl rfl rfl (two_of HT_.out zr) (by decide) (by decide) (fun K hK => ?_) (fun K hK => ?_)
     ·skip
      refine goes_ Try.func73 zr rfl #[.slice A0 l0.length c0, .string a2] (by rfl) rfl rfl zm ?_
      with_reducible refine (spec_l03Find.calls k _ _ l0 a2 t170 _ ?side1 ?side2 A7.out).mono ?_
      (case side1 => exact zs HR0 HB)
      (case side2 => exact HC0.out)
      rintro e w' ⟨rfl, ⟨nd, rfl⟩⟩
      refine ⟨_, rfl, ?_⟩
      refine hK.out _ _ ⟨(jD BK167.out 0).trans rfl, (jD BK167.out 1).trans rfl⟩ (fun hHeld => ?_)
      clear hK K
      refine norm_ (a' := ?_) ?_ ?_
      rotate_left
      ·show Act.put _ (some 24) _ = _
       simp only [Act.put, jC, jE, jF, i64_w, i32_w]
       rfl
      refine two_ (i := 5) (j := 6) (Ni := some 26) (Nj := some 11) m8_fc m8_fa rfl rfl rfl rfl (two_of HT_.out zr) (by decide) (by decide) (fun K hK => ?_) (fun K hK => ?_)
      ·skip
       refine goes_ Try.func72 zr rfl #[.agg #[.int .i64 a1_0, .slice A1_1 l1_1.length c1_1], .int .i64 t170, .int .i64 a3] (by rfl) rfl rfl zm ?_
       with_reducible refine (spec_l26With.calls a1_0 _ _ l1_1 t170 a3 t171 t172 _ ?side1 ?side2 A8.out).mono ?_
       (case side1 => repeat (first | exact HR1_1.out | exact (Kd.C_below HR1_1.out (zb2 HB GE167 GE168)) | (with_reducible refine Kd.C_alloc ?_ _) | (with_reducible refine Kd.C_drewN ?_ _) | (with_reducible refine Kd.C_drew ?_)))
       (case side2 => exact HC1_1.out)
       rintro e w39 ⟨v173, rfl, ho0, hb⟩
       refine ⟨_, rfl, ?_⟩
       have HO174 := jA (Kd.R_lower ho0 (below_size (zb2 HB GE167 GE168)))
       replace BK167 := zB BK167 hb
       replace BK168 := zB BK168 hb
       replace HB := zS2 HB GE167 GE168 hb
       (try clear hb)
       (try clear hb2)
       (try clear hk)
       (try clear hi)
       (try clear ho0)
       refine hK.out _ _ ⟨(jD BK167.out 0).trans rfl, (jD BK167.out 1).trans rfl⟩ (fun hHeld => ?_)
       clear hK K
       refine norm_ (a' := ?_) ?_ ?_
       rotate_left
       ·show Act.put _ (some 26) _ = _
        simp only [Act.put, jC, jE, jF, i64_w, i32_w]
        rfl
       refine one_ (i := 6) (N := some 11) m8_fe rfl rfl (one_of HT_.out zr) (by decide) (fun K hK => ?_)
       refine box_step ?hg (N := 11) ?hd (cs := #[.int .i64 0, .slice none 0 0]) (t := 28) ?hr ?_; (case hd => rfl); (case hg => rfl); (case hr => first | (go_simp; done) | (go_simp; rfl))
       intro gb175 hg w40 hbox hb
       replace HO174 := jA (Kd.R_below (zo HO174) hb)
       have BK175 := jA (hbox)
       have GW175 := zg2 hg HB GE167 GE168
       have GE175 := zg2 hg HB GE167 GE168
       replace HB := zS2 HB GE167 GE168 hb
       have NB167_175 := zn hg BK167
       have NB175_167 := zN hg BK167
       replace BK167 := zB BK167 hb
       have NB168_175 := zn hg BK168
       have NB175_168 := zN hg BK168
       replace BK168 := zB BK168 hb
       clear hb hbox hg
       refine hK.out _ _ ⟨(jD BK167.out 0).trans rfl, (jD BK167.out 1).trans rfl⟩ (fun hHeld => ?_)
       clear hK K
       refine norm_ (a' := ?_) ?_ ?_
       rotate_left
       ·show Act.put _ (some 11) _ = _
        simp only [Act.put, jC, jE, jF, i64_w, i32_w]
        rfl
       exact norm_ (by simp only [putAll, Act.put, jC, jE, jF]) (hCont (v173, gb175) _ ⟨hHeld, (zo HO174), (zk BK167), (zk BK168), (zk BK175), GW175.out, GE175.out, NB167_175.out, NB175_167.out, NB168_175.out, NB175_168.out, (zb3 HB GE167 GE168 GE175)⟩)
      ·skip
       refine box_step ?hg (N := 11) ?hd (cs := #[.int .i64 0, .slice none 0 0]) (t := 28) ?hr ?_; (case hd => rfl); (case hg => rfl); (case hr => first | (go_simp; done) | (go_simp; rfl))
       intro gb175 hg w39 hbox hb
       have BK175 := jA (hbox)
       have GW175 := zg2 hg HB GE167 GE168
       have GE175 := zg2 hg HB GE167 GE168
       replace HB := zS2 HB GE167 GE168 hb
       have NB167_175 := zn hg BK167
       have NB175_167 := zN hg BK167
       replace BK167 := zB BK167 hb
       have NB168_175 := zn hg BK168
       have NB175_168 := zN hg BK168
       replace BK168 := zB BK168 hb
       clear hb hbox hg
       refine hK.out _ _ ⟨(jD BK167.out 0).trans rfl, (jD BK167.out 1).trans rfl⟩ (fun hHeld => ?_)
       clear hK K
       refine norm_ (a' := ?_) ?_ ?_
       rotate_left
       ·show Act.put _ (some 11) _ = _
        simp only [Act.put, jC, jE, jF, i64_w, i32_w]
        rfl
       refine one_ (i := 5) (N := some 26) m8_fe rfl rfl (one_of HT_.out zr) (by decide) (fun K hK => ?_)
       refine goes_ Try.func72 zr rfl #[.agg #[.int .i64 a1_0, .slice A1_1 l1_1.length c1_1], .int .i64 t170, .int .i64 a3] (by rfl) rfl rfl zm ?_
       with_reducible refine (spec_l26With.calls a1_0 _ _ l1_1 t170 a3 t171 t172 _ ?side1 ?side2 A8.out).mono ?_
       (case side1 => exact zs HR1_1 HB)
       (case side2 => exact HC1_1.out)
       rintro e w40 ⟨v173, rfl, ho0, hb⟩
       refine ⟨_, rfl, ?_⟩
       have HO174 := jA (Kd.R_lower ho0 (below_size (zb3 HB GE167 GE168 GE175)))
       replace BK167 := zB BK167 hb
       replace BK168 := zB BK168 hb
       replace BK175 := zB BK175 hb
       replace HB := zS3 HB GE167 GE168 GE175 hb
       (try clear hb)
       (try clear hb2)
       (try clear hk)
       (try clear hi)
       (try clear ho0)
       refine hK.out _ _ ⟨(jD BK167.out 0).trans rfl, (jD BK167.out 1).trans rfl⟩ (fun hHeld => ?_)
       clear hK K
       refine norm_ (a' := ?_) ?_ ?_
       rotate_left
       ·show Act.put _ (some 26) _ = _
        simp only [Act.put, jC, jE, jF, i64_w, i32_w]
        rfl
       exact norm_ (by simp only [putAll, Act.put, jC, jE, jF]) (hCont (v173, gb175) _ ⟨hHeld, (zo HO174), (zk BK167), (zk BK168), (zk BK175), GW175.out, GE175.out, NB167_175.out, NB175_167.out, NB168_175.out, NB175_168.out, (zb3 HB GE167 GE168 GE175)⟩)
     ·skip
      refine box_step ?hg (N := 11) ?hd (cs := #[.int .i64 0, .slice none 0 0]) (t := 28) ?hr ?_; (case hd => rfl); (case hg => rfl); (case hr => first | (go_simp; done) | (go_simp; rfl))
      intro gb175 hg w39 hbox hb
      have BK175 := jA (hbox)
      have GW175 := zg2 hg HB GE167 GE168
      have GE175 := zg2 hg HB GE167 GE168
      replace HB := zS2 HB GE167 GE168 hb
      have NB167_175 := zn hg BK167
      have NB175_167 := zN hg BK167
      replace BK167 := zB BK167 hb
      have NB168_175 := zn hg BK168
      have NB175_168 := zN hg BK168
      replace BK168 := zB BK168 hb
      clear hb hbox hg
      refine hK.out _ _ ⟨(jD BK167.out 0).trans rfl, (jD BK167.out 1).trans rfl⟩ (fun hHeld => ?_)
      clear hK K
      refine norm_ (a' := ?_) ?_ ?_
      rotate_left
      ·show Act.put _ (some 11) _ = _
       simp only [Act.put, jC, jE, jF, i64_w, i32_w]
       rfl
      refine one_ (i := 3) (N := some 24) m8_fa rfl rfl (one_of HT_.out zr) (by decide) (fun K hK => ?_)
      refine goes_ Try.func73 zr rfl #[.slice A0 l0.length c0, .string a2] (by rfl) rfl rfl zm ?_
      with_reducible refine (spec_l03Find.calls k _ _ l0 a2 t170 _ ?side1 ?side2 A7.out).mono ?_
      (case side1 => exact zs HR0 HB)
      (case side2 => exact HC0.out)
      rintro e w' ⟨rfl, ⟨nd, rfl⟩⟩
      refine ⟨_, rfl, ?_⟩
      refine hK.out _ _ ⟨(jD BK167.out 0).trans rfl, (jD BK167.out 1).trans rfl⟩ (fun hHeld => ?_)
      clear hK K
      refine norm_ (a' := ?_) ?_ ?_
      rotate_left
      ·show Act.put _ (some 24) _ = _
       simp only [Act.put, jC, jE, jF, i64_w, i32_w]
       rfl
      refine one_ (i := 5) (N := some 26) m8_fe rfl rfl (one_of HT_.out zr) (by decide) (fun K hK => ?_)
      refine goes_ Try.func72 zr rfl #[.agg #[.int .i64 a1_0, .slice A1_1 l1_1.length c1_1], .int .i64 t170, .int .i64 a3] (by rfl) rfl rfl zm ?_
      with_reducible refine (spec_l26With.calls a1_0 _ _ l1_1 t170 a3 t171 t172 _ ?side1 ?side2 A8.out).mono ?_
      (case side1 => repeat (first | exact HR1_1.out | exact (Kd.C_below HR1_1.out (zb3 HB GE167 GE168 GE175)) | (with_reducible refine Kd.C_alloc ?_ _) | (with_reducible refine Kd.C_drewN ?_ _) | (with_reducible refine Kd.C_drew ?_)))
      (case side2 => exact HC1_1.out)
      rintro e w40 ⟨v173, rfl, ho0, hb⟩
      refine ⟨_, rfl, ?_⟩
      have HO174 := jA (Kd.R_lower ho0 (below_size (zb3 HB GE167 GE168 GE175)))
      replace BK167 := zB BK167 hb
      replace BK168 := zB BK168 hb
      replace BK175 := zB BK175 hb
      replace HB := zS3 HB GE167 GE168 GE175 hb
      (try clear hb)
      (try clear hb2)
      (try clear hk)
      (try clear hi)
      (try clear ho0)
      refine hK.out _ _ ⟨(jD BK167.out 0).trans rfl, (jD BK167.out 1).trans rfl⟩ (fun hHeld => ?_)
      clear hK K
      refine norm_ (a' := ?_) ?_ ?_
      rotate_left
      ·show Act.put _ (some 26) _ = _
       simp only [Act.put, jC, jE, jF, i64_w, i32_w]
       rfl
      exact norm_ (by simp only [putAll, Act.put, jC, jE, jF]) (hCont (v173, gb175) _ ⟨hHeld, (zo HO174), (zk BK167), (zk BK168), (zk BK175), GW175.out, GE175.out, NB167_175.out, NB175_167.out, NB168_175.out, NB175_168.out, (zb3 HB GE167 GE168 GE175)⟩)
    rintro ⟨v173, gb175⟩ w41 ⟨hS_, h0_, h1_, h2_, h3_, h4_, h5_, h6_, h7_, h8_, h9_, h10_⟩
    have HO174 : Aside0 (Kd.R (Kd.int .i64) 2 w41 w.heap.size (fun _ => True) v173 t172) := ⟨h0_⟩
    replace BK167 : Aside0 (w41.heap[gb167]? = some (.cells #[.int .i64 a1_0, .slice A1_1 l1_1.length c1_1] 28 (0, 0))) := ⟨h1_⟩
    replace BK168 : Aside0 (w41.heap[gb168]? = some (.cells #[.int .i64 0, .slice none 0 0] 28 (0, 0))) := ⟨h2_⟩
    have BK175 : Aside0 (w41.heap[gb175]? = some (.cells #[.int .i64 0, .slice none 0 0] 28 (0, 0))) := ⟨h3_⟩
    have GW175 : Aside0 (w.heap.size ≤ gb175) := ⟨h4_⟩
    have GE175 : Aside0 (w.heap.size ≤ gb175) := ⟨h5_⟩
    have NB167_175 : Aside0 (gb167 ≠ gb175) := ⟨h6_⟩
    have NB175_167 : Aside0 (gb175 ≠ gb167) := ⟨h7_⟩
    have NB168_175 : Aside0 (gb168 ≠ gb175) := ⟨h8_⟩
    have NB175_168 : Aside0 (gb175 ≠ gb168) := ⟨h9_⟩
    replace HB : Aside0 (Below w.heap.size w w41) := ⟨h10_⟩
    clear h0_ h1_ h2_ h3_ h4_ h5_ h6_ h7_ h8_ h9_ h10_
    have hHeld : w41.cell? ⟨gb167, 0, none⟩ = some (.int .i64 a1_0) ∧ w41.cell? ⟨gb167, 1, none⟩ = some (.slice A1_1 l1_1.length c1_1) := hS_
    obtain ⟨Ao43, co43, eo43⟩ := Kd.R_slice HO174.out
    (first | subst eo43 | (injection eo43 with f1_ f2_ f3_; have f4_ := f1_.symm; have f5_ := f3_.symm; clear f1_ f2_ f3_; subst f4_; subst f5_))
    refine norm_ (a' := ?_) ?_ ?_
    rotate_left
    ·simp only [putAll, Act.put, jC, jE, jF]
     rfl
    refine one_ (i := 7) (N := none) m8_ff rfl rfl (one_of HT_.out zr) (by decide) (fun K hK => ?_)
    have hs42 : w41.cell? ⟨gb175, 0, none⟩ = some (.int .i64 0) := (jD BK175.out 0).trans rfl
    have hfs42 := blk_frozen BK175.out 0
    have hns42_0 := NB167_175.out
    have hns42_1 := NB168_175.out
    have hms42_0 := NB175_167.out
    have hms42_1 := NB175_168.out
    have hs44 : w41.cell? ⟨gb175, 1, none⟩ = some (.slice none 0 0) := (jD BK175.out 1).trans rfl
    have hfs44 := blk_frozen BK175.out 1
    have hns44_0 := NB167_175.out
    have hns44_1 := NB168_175.out
    have hms44_0 := NB175_167.out
    have hms44_1 := NB175_168.out
    refine skip_ (w1 := ?_) (by rfl) rfl ?_ ?_
    rotate_left
    ·go_simp
     rfl
    refine hK.out _ _ ⟨((jL (p := ⟨gb175, _, none⟩) NB167_175.out _).trans (((jL (p := ⟨gb175, _, none⟩) NB167_175.out _).trans (hHeld.1)))), ((jL (p := ⟨gb175, _, none⟩) NB167_175.out _).trans (((jL (p := ⟨gb175, _, none⟩) NB167_175.out _).trans (hHeld.2))))⟩ (fun hHeld => ?_)
    clear hK K
    refine done_ (done_of HT_.out zr) ?_
    have hnb45 := NB175_167.out
    have hnc45 := NB167_175.out
    have hnb46 := NB175_168.out
    have hnc46 := NB168_175.out
    have hcz47 := zc2 BK175
    try go_wp2_with (first | ((with_reducible refine jK (f := 25) rfl ?_); refine zL (some 29) Try.func25 #[.slice A0 l0.length c0, .agg #[.int .i64 t171, .slice Ao43 t172.length co43]] ?_; (with_reducible refine (spec_IsMagazine.calls k _ _ l0 t171 _ _ t172 true _ ?side1 ?side2 ?side3 ?side4 A9.out).mono ?_); (case side1 => exact Kd.C_below HR0.out (zb3 HB GE167 GE168 GE175)); (case side2 => exact HC0.out); (case side3 => refine (jP (e := 2) (base := w.heap.size) (ok := fun k_ => True) (n := t172.length) (c := co43) ?_).2.2; exact (zU HO174 BK175)); (case side4 => exact (jP HO174.out).2.1); rintro e w48 ⟨rfl, hb⟩; refine ⟨_, rfl, ?_⟩; replace HO174 := jA (Kd.R_below (zU HO174 BK175) hb); replace BK167 := jA (jO (g := gb167) (o := .cells #[.int .i64 a1_0, .slice A1_1 l1_1.length c1_1] 28 (0, 0)) (zQ1 BK167 NB167_175) hb); replace BK168 := jA (jO (g := gb168) (o := .cells #[.int .i64 0, .slice none 0 0] 28 (0, 0)) (zQ1 BK168 NB168_175) hb); replace BK175 := jA (jO (g := gb175) (o := .cells #[.int .i64 t171, .slice Ao43 t172.length co43] 28 (0, 0)) (zP0 BK175) hb); replace HB := zS3 HB GE167 GE168 GE175 hb; clear hb; have hcz49 := zc2 BK175) | (go_at_call 65; (with_reducible refine (spec_l26Lawful.calls k _ _ l0 t171 _ _ t172 false _ ?side1 ?side2 ?side3 ?side4 A11.out).mono ?_); (case side1 => exact zs HR0 HB); (case side2 => exact HC0.out); (case side3 => exact zv HO174); (case side4 => exact (jP HO174.out).2.1); rintro e w50 ⟨rfl, hb⟩; replace HO174 := jA (Kd.R_below (zo HO174) hb); replace BK167 := zB BK167 hb; replace BK168 := zB BK168 hb; replace BK175 := zB BK175 hb; replace HB := zS3 HB GE167 GE168 GE175 hb; (try clear hb); (try clear hb2); (try clear hk); (try clear hi); have hcz51 := zc2 BK168))
    refine bodyPost_ret (results_ct rfl _ _ gb168 28 #[.int .i64 0, .slice none 0 0] (0, 0) _ rfl (zP0 BK168) Try.underlying28 rfl zr) rfl ?_
    exact ⟨_, ze, by first | exact Kd.R_nil _ _ _ _ _ | exact Kd.N_nil _ _ _ _ _ | exact Kd.V_nil _ _ _ _ _ | exact Kd.Q_nil _ _ _ _ _ | exact Kd.S_nil _ _ _ _ _, zb3 HB GE167 GE168 GE175⟩
  ·replace c10 := Bool.eq_false_iff.mpr c10
   subst c10
   rw [if_neg zfalse] at H
   simp only [jN, jQ] at H
   obtain ⟨rfl, rfl, rfl⟩ := H
   go_enter Try.func40, Try.ntmps40
   try go_wp2_with (first | ((with_reducible refine jJ (N := 5) rfl ?_); refine zE 5 #[.int .i64 a1_0, .slice A1_1 l1_1.length c1_1] 28 ?_; intro gb167 hg w52 hbox hb; have BK167 := jA (hbox); have GW167 := zg0 hg HB; have GE167 := zg0 hg HB; replace HB := zS0 HB hb; clear hb hbox hg) | ((with_reducible refine jJ (N := 8) rfl ?_); refine zE 8 #[.int .i64 0, .slice none 0 0] 28 ?_; intro gb168 hg w53 hbox hb; have BK168 := jA (hbox); have GW168 := zg1 hg HB GE167; have GE168 := zg1 hg HB GE167; replace HB := zS1 HB GE167 hb; have NB167_168 := zn hg BK167; replace BK167 := zB BK167 hb; have NB168_167 := jA NB167_168.out.symm; clear hb hbox hg; have hnb54 := NB167_168.out; have hnc54 := NB168_167.out; have hcz55 := zc2 BK167) | ((with_reducible refine jK (f := 69) rfl ?_); refine zL (some 16) Try.func69 #[.slice A0 l0.length c0, .agg #[.int .i64 a1_0, .slice A1_1 l1_1.length c1_1], .string a2, .int .i64 a3] ?_; (with_reducible refine (spec_l26Code.calls k _ _ l0 a1_0 _ _ l1_1 a2 a3 t169 _ ?side1 ?side2 ?side3 ?side4 A5.out).mono ?_); (case side1 => exact zs HR0 HB); (case side2 => exact HC0.out); (case side3 => exact zs HR1_1 HB); (case side4 => exact HC1_1.out); rintro e w56 ⟨rfl, hb⟩; refine ⟨_, rfl, ?_⟩; replace BK167 := zB BK167 hb; replace BK168 := zB BK168 hb; replace HB := zS2 HB GE167 GE168 hb; clear hb))
   replace BK167 := jA (blk_drew BK167.out)
   replace BK168 := jA (blk_drew BK168.out)
   replace HB := jA (jR HB.out)
   refine start_ (n := 8) (S := fun w' => w'.cell? ⟨gb167, 0, none⟩ = some (.int .i64 a1_0) ∧ w'.cell? ⟨gb167, 1, none⟩ = some (.slice A1_1 l1_1.length c1_1)) (ds := []) m8_0 zr rfl rfl ⟨(jD BK167.out 0).trans rfl, (jD BK167.out 1).trans rfl⟩ (fun hHeld => ?_); refine with_tabW spec_StorePieces.tab4 spec_StorePieces.bits4 (fun HT_ HW_ => ?_)
   generalize w56.drew = w57 at BK167 BK168 HB hHeld ⊢
   refine zp HT_ 1 22 m8_40 ?_
   refine zp HT_ 2 23 m8_60 ?_
   refine zp HT_ 4 25 m8_68 ?_
   refine zt2 HT_ HW_ hHeld 0 21 m8_e8 ?_
   refine join_ (σ := Value × Nat) 1 m8_fe (fun s_ => [(24, .int .i64 t170), (26, .agg #[.int .i64 t171, s_.1]), (11, .pointer (some ⟨s_.2, 0, none⟩))]) (fun s_ w' => (w'.cell? ⟨gb167, 0, none⟩ = some (.int .i64 a1_0) ∧ w'.cell? ⟨gb167, 1, none⟩ = some (.slice A1_1 l1_1.length c1_1)) ∧ (Kd.R (Kd.int .i64) 2 w' w.heap.size (fun _ => True) s_.1 t172) ∧ (w'.heap[gb167]? = some (.cells #[.int .i64 a1_0, .slice A1_1 l1_1.length c1_1] 28 (0, 0))) ∧ (w'.heap[gb168]? = some (.cells #[.int .i64 0, .slice none 0 0] 28 (0, 0))) ∧ (w'.heap[s_.2]? = some (.cells #[.int .i64 0, .slice none 0 0] 28 (0, 0))) ∧ (w.heap.size ≤ s_.2) ∧ (w.heap.size ≤ s_.2) ∧ (gb167 ≠ s_.2) ∧ (s_.2 ≠ gb167) ∧ (gb168 ≠ s_.2) ∧ (s_.2 ≠ gb168) ∧ (Below w.heap.size w w')) ?_ ?_
   rotate_left
   ·intro hCont
    refine two_ (i := 3) (j := 6) (Ni := some 24) (Nj := some 11) m8_f8 m8_ea rfl rfl rfl rfl (two_of HT_.out zr) (by decide) (by decide) (fun K hK => ?_) (fun K hK => ?_)
    ·skip
     refine goes_ Try.func73 zr rfl #[.slice A0 l0.length c0, .string a2] (by rfl) rfl rfl zm ?_
     with_reducible refine (spec_l03Find.calls k _ _ l0 a2 t170 _ ?side1 ?side2 A7.out).mono ?_
     (case side1 => exact zs HR0 HB)
     (case side2 => exact HC0.out)
     rintro e w' ⟨rfl, ⟨nd, rfl⟩⟩
     refine ⟨_, rfl, ?_⟩
     refine hK.out _ _ ⟨(jD BK167.out 0).trans rfl, (jD BK167.out 1).trans rfl⟩ (fun hHeld => ?_)
     clear hK K
     refine norm_ (a' := ?_) ?_ ?_
     rotate_left
     ·show Act.put _ (some 24) _ = _
      simp only [Act.put, jC, jE, jF, i64_w, i32_w]
      rfl
     refine two_ (i := 5) (j := 6) (Ni := some 26) (Nj := some 11) m8_fc m8_fa rfl rfl rfl rfl (two_of HT_.out zr) (by decide) (by decide) (fun K hK => ?_) (fun K hK => ?_)
     ·skip
      refine goes_ Try.func72 zr rfl #[.agg #[.int .i64 a1_0, .slice A1_1 l1_1.length c1_1], .int .i64 t170, .int .i64 a3] (by rfl) rfl rfl zm ?_
      with_reducible refine (spec_l26With.calls a1_0 _ _ l1_1 t170 a3 t171 t172 _ ?side1 ?side2 A8.out).mono ?_
      (case side1 => repeat (first | exact HR1_1.out | exact (Kd.C_below HR1_1.out (zb2 HB GE167 GE168)) | (with_reducible refine Kd.C_alloc ?_ _) | (with_reducible refine Kd.C_drewN ?_ _) | (with_reducible refine Kd.C_drew ?_)))
      (case side2 => exact HC1_1.out)
      rintro e w58 ⟨v173, rfl, ho0, hb⟩
      refine ⟨_, rfl, ?_⟩
      have HO174 := jA (Kd.R_lower ho0 (below_size (zb2 HB GE167 GE168)))
      replace BK167 := zB BK167 hb
      replace BK168 := zB BK168 hb
      replace HB := zS2 HB GE167 GE168 hb
      (try clear hb)
      (try clear hb2)
      (try clear hk)
      (try clear hi)
      (try clear ho0)
      refine hK.out _ _ ⟨(jD BK167.out 0).trans rfl, (jD BK167.out 1).trans rfl⟩ (fun hHeld => ?_)
      clear hK K
      refine norm_ (a' := ?_) ?_ ?_
      rotate_left
      ·show Act.put _ (some 26) _ = _
       simp only [Act.put, jC, jE, jF, i64_w, i32_w]
       rfl
      refine one_ (i := 6) (N := some 11) m8_fe rfl rfl (one_of HT_.out zr) (by decide) (fun K hK => ?_)
      refine box_step ?hg (N := 11) ?hd (cs := #[.int .i64 0, .slice none 0 0]) (t := 28) ?hr ?_; (case hd => rfl); (case hg => rfl); (case hr => first | (go_simp; done) | (go_simp; rfl))
      intro gb175 hg w59 hbox hb
      replace HO174 := jA (Kd.R_below (zo HO174) hb)
      have BK175 := jA (hbox)
      have GW175 := zg2 hg HB GE167 GE168
      have GE175 := zg2 hg HB GE167 GE168
      replace HB := zS2 HB GE167 GE168 hb
      have NB167_175 := zn hg BK167
      have NB175_167 := zN hg BK167
      replace BK167 := zB BK167 hb
      have NB168_175 := zn hg BK168
      have NB175_168 := zN hg BK168
      replace BK168 := zB BK168 hb
      clear hb hbox hg
      refine hK.out _ _ ⟨(jD BK167.out 0).trans rfl, (jD BK167.out 1).trans rfl⟩ (fun hHeld => ?_)
      clear hK K
      refine norm_ (a' := ?_) ?_ ?_
      rotate_left
      ·show Act.put _ (some 11) _ = _
       simp only [Act.put, jC, jE, jF, i64_w, i32_w]
       rfl
      exact norm_ (by simp only [putAll, Act.put, jC, jE, jF]) (hCont (v173, gb175) _ ⟨hHeld, (zo HO174), (zk BK167), (zk BK168), (zk BK175), GW175.out, GE175.out, NB167_175.out, NB175_167.out, NB168_175.out, NB175_168.out, (zb3 HB GE167 GE168 GE175)⟩)
     ·skip
      refine box_step ?hg (N := 11) ?hd (cs := #[.int .i64 0, .slice none 0 0]) (t := 28) ?hr ?_; (case hd => rfl); (case hg => rfl); (case hr => first | (go_simp; done) | (go_simp; rfl))
      intro gb175 hg w58 hbox hb
      have BK175 := jA (hbox)
      have GW175 := zg2 hg HB GE167 GE168
      have GE175 := zg2 hg HB GE167 GE168
      replace HB := zS2 HB GE167 GE168 hb
      have NB167_175 := zn hg BK167
      have NB175_167 := zN hg BK167
      replace BK167 := zB BK167 hb
      have NB168_175 := zn hg BK168
      have NB175_168 := zN hg BK168
      replace BK168 := zB BK168 hb
      clear hb hbox hg
      refine hK.out _ _ ⟨(jD BK167.out 0).trans rfl, (jD BK167.out 1).trans rfl⟩ (fun hHeld => ?_)
      clear hK K
      refine norm_ (a' := ?_) ?_ ?_
      rotate_left
      ·show Act.put _ (some 11) _ = _
       simp only [Act.put, jC, jE, jF, i64_w, i32_w]
       rfl
      refine one_ (i := 5) (N := some 26) m8_fe rfl rfl (one_of HT_.out zr) (by decide) (fun K hK => ?_)
      refine goes_ Try.func72 zr rfl #[.agg #[.int .i64 a1_0, .slice A1_1 l1_1.length c1_1], .int .i64 t170, .int .i64 a3] (by rfl) rfl rfl zm ?_
      with_reducible refine (spec_l26With.calls a1_0 _ _ l1_1 t170 a3 t171 t172 _ ?side1 ?side2 A8.out).mono ?_
      (case side1 => exact zs HR1_1 HB)
      (case side2 => exact HC1_1.out)
      rintro e w59 ⟨v173, rfl, ho0, hb⟩
      refine ⟨_, rfl, ?_⟩
      have HO174 := jA (Kd.R_lower ho0 (below_size (zb3 HB GE167 GE168 GE175)))
      replace BK167 := zB BK167 hb
      replace BK168 := zB BK168 hb
      replace BK175 := zB BK175 hb
      replace HB := zS3 HB GE167 GE168 GE175 hb
      (try clear hb)
      (try clear hb2)
      (try clear hk)
      (try clear hi)
      (try clear ho0)
      refine hK.out _ _ ⟨(jD BK167.out 0).trans rfl, (jD BK167.out 1).trans rfl⟩ (fun hHeld => ?_)
      clear hK K
      refine norm_ (a' := ?_) ?_ ?_
      rotate_left
      ·show Act.put _ (some 26) _ = _
       simp only [Act.put, jC, jE, jF, i64_w, i32_w]
       rfl
      exact norm_ (by simp only [putAll, Act.put, jC, jE, jF]) (hCont (v173, gb175) _ ⟨hHeld, (zo HO174), (zk BK167), (zk BK168), (zk BK175), GW175.out, GE175.out, NB167_175.out, NB175_167.out, NB168_175.out, NB175_168.out, (zb3 HB GE167 GE168 GE175)⟩)
    ·skip
     refine box_step ?hg (N := 11) ?hd (cs := #[.int .i64 0, .slice none 0 0]) (t := 28) ?hr ?_; (case hd => rfl); (case hg => rfl); (case hr => first | (go_simp; done) | (go_simp; rfl))
     intro gb175 hg w58 hbox hb
     have BK175 := jA (hbox)
     have GW175 := zg2 hg HB GE167 GE168
     have GE175 := zg2 hg HB GE167 GE168
     replace HB := zS2 HB GE167 GE168 hb
     have NB167_175 := zn hg BK167
     have NB175_167 := zN hg BK167
     replace BK167 := zB BK167 hb
     have NB168_175 := zn hg BK168
     have NB175_168 := zN hg BK168
     replace BK168 := zB BK168 hb
     clear hb hbox hg
     refine hK.out _ _ ⟨(jD BK167.out 0).trans rfl, (jD BK167.out 1).trans rfl⟩ (fun hHeld => ?_)
     clear hK K
     refine norm_ (a' := ?_) ?_ ?_
     rotate_left
     ·show Act.put _ (some 11) _ = _
      simp only [Act.put, jC, jE, jF, i64_w, i32_w]
      rfl
     refine one_ (i := 3) (N := some 24) m8_fa rfl rfl (one_of HT_.out zr) (by decide) (fun K hK => ?_)
     refine goes_ Try.func73 zr rfl #[.slice A0 l0.length c0, .string a2] (by rfl) rfl rfl zm ?_
     with_reducible refine (spec_l03Find.calls k _ _ l0 a2 t170 _ ?side1 ?side2 A7.out).mono ?_
     (case side1 => exact zs HR0 HB)
     (case side2 => exact HC0.out)
     rintro e w' ⟨rfl, ⟨nd, rfl⟩⟩
     refine ⟨_, rfl, ?_⟩
     refine hK.out _ _ ⟨(jD BK167.out 0).trans rfl, (jD BK167.out 1).trans rfl⟩ (fun hHeld => ?_)
     clear hK K
     refine norm_ (a' := ?_) ?_ ?_
     rotate_left
     ·show Act.put _ (some 24) _ = _
      simp only [Act.put, jC, jE, jF, i64_w, i32_w]
      rfl
     refine one_ (i := 5) (N := some 26) m8_fe rfl rfl (one_of HT_.out zr) (by decide) (fun K hK => ?_)
     refine goes_ Try.func72 zr rfl #[.agg #[.int .i64 a1_0, .slice A1_1 l1_1.length c1_1], .int .i64 t170, .int .i64 a3] (by rfl) rfl rfl zm ?_
     with_reducible refine (spec_l26With.calls a1_0 _ _ l1_1 t170 a3 t171 t172 _ ?side1 ?side2 A8.out).mono ?_
     (case side1 => repeat (first | exact HR1_1.out | exact (Kd.C_below HR1_1.out (zb3 HB GE167 GE168 GE175)) | (with_reducible refine Kd.C_alloc ?_ _) | (with_reducible refine Kd.C_drewN ?_ _) | (with_reducible refine Kd.C_drew ?_)))
     (case side2 => exact HC1_1.out)
     rintro e w59 ⟨v173, rfl, ho0, hb⟩
     refine ⟨_, rfl, ?_⟩
     have HO174 := jA (Kd.R_lower ho0 (below_size (zb3 HB GE167 GE168 GE175)))
     replace BK167 := zB BK167 hb
     replace BK168 := zB BK168 hb
     replace BK175 := zB BK175 hb
     replace HB := zS3 HB GE167 GE168 GE175 hb
     (try clear hb)
     (try clear hb2)
     (try clear hk)
     (try clear hi)
     (try clear ho0)
     refine hK.out _ _ ⟨(jD BK167.out 0).trans rfl, (jD BK167.out 1).trans rfl⟩ (fun hHeld => ?_)
     clear hK K
     refine norm_ (a' := ?_) ?_ ?_
     rotate_left
     ·show Act.put _ (some 26) _ = _
      simp only [Act.put, jC, jE, jF, i64_w, i32_w]
      rfl
     exact norm_ (by simp only [putAll, Act.put, jC, jE, jF]) (hCont (v173, gb175) _ ⟨hHeld, (zo HO174), (zk BK167), (zk BK168), (zk BK175), GW175.out, GE175.out, NB167_175.out, NB175_167.out, NB168_175.out, NB175_168.out, (zb3 HB GE167 GE168 GE175)⟩)
   rintro ⟨v173, gb175⟩ w60 ⟨hS_, h0_, h1_, h2_, h3_, h4_, h5_, h6_, h7_, h8_, h9_, h10_⟩
   have HO174 : Aside0 (Kd.R (Kd.int .i64) 2 w60 w.heap.size (fun _ => True) v173 t172) := ⟨h0_⟩
   replace BK167 : Aside0 (w60.heap[gb167]? = some (.cells #[.int .i64 a1_0, .slice A1_1 l1_1.length c1_1] 28 (0, 0))) := ⟨h1_⟩
   replace BK168 : Aside0 (w60.heap[gb168]? = some (.cells #[.int .i64 0, .slice none 0 0] 28 (0, 0))) := ⟨h2_⟩
   have BK175 : Aside0 (w60.heap[gb175]? = some (.cells #[.int .i64 0, .slice none 0 0] 28 (0, 0))) := ⟨h3_⟩
   have GW175 : Aside0 (w.heap.size ≤ gb175) := ⟨h4_⟩
   have GE175 : Aside0 (w.heap.size ≤ gb175) := ⟨h5_⟩
   have NB167_175 : Aside0 (gb167 ≠ gb175) := ⟨h6_⟩
   have NB175_167 : Aside0 (gb175 ≠ gb167) := ⟨h7_⟩
   have NB168_175 : Aside0 (gb168 ≠ gb175) := ⟨h8_⟩
   have NB175_168 : Aside0 (gb175 ≠ gb168) := ⟨h9_⟩
   replace HB : Aside0 (Below w.heap.size w w60) := ⟨h10_⟩
   clear h0_ h1_ h2_ h3_ h4_ h5_ h6_ h7_ h8_ h9_ h10_
   have hHeld : w60.cell? ⟨gb167, 0, none⟩ = some (.int .i64 a1_0) ∧ w60.cell? ⟨gb167, 1, none⟩ = some (.slice A1_1 l1_1.length c1_1) := hS_
   obtain ⟨Ao62, co62, eo62⟩ := Kd.R_slice HO174.out
   (first | subst eo62 | (injection eo62 with f1_ f2_ f3_; have f4_ := f1_.symm; have f5_ := f3_.symm; clear f1_ f2_ f3_; subst f4_; subst f5_))
   refine norm_ (a' := ?_) ?_ ?_
   rotate_left
   ·simp only [putAll, Act.put, jC, jE, jF]
    rfl
   refine one_ (i := 7) (N := none) m8_ff rfl rfl (one_of HT_.out zr) (by decide) (fun K hK => ?_)
   have hs61 : w60.cell? ⟨gb175, 0, none⟩ = some (.int .i64 0) := (jD BK175.out 0).trans rfl
   have hfs61 := blk_frozen BK175.out 0
   have hns61_0 := NB167_175.out
   have hns61_1 := NB168_175.out
   have hms61_0 := NB175_167.out
   have hms61_1 := NB175_168.out
   have hs63 : w60.cell? ⟨gb175, 1, none⟩ = some (.slice none 0 0) := (jD BK175.out 1).trans rfl
   have hfs63 := blk_frozen BK175.out 1
   have hns63_0 := NB167_175.out
   have hns63_1 := NB168_175.out
   have hms63_0 := NB175_167.out
   have hms63_1 := NB175_168.out
   refine skip_ (w1 := ?_) (by rfl) rfl ?_ ?_
   rotate_left
   ·go_simp
    rfl
   refine hK.out _ _ ⟨((jL (p := ⟨gb175, _, none⟩) NB167_175.out _).trans (((jL (p := ⟨gb175, _, none⟩) NB167_175.out _).trans (hHeld.1)))), ((jL (p := ⟨gb175, _, none⟩) NB167_175.out _).trans (((jL (p := ⟨gb175, _, none⟩) NB167_175.out _).trans (hHeld.2))))⟩ (fun hHeld => ?_)
   clear hK K
   refine done_ (done_of HT_.out zr) ?_
   have hnb64 := NB175_167.out
   have hnc64 := NB167_175.out
   have hnb65 := NB175_168.out
   have hnc65 := NB168_175.out
   have hcz66 := zc2 BK175
   try go_wp2_with (first | ((with_reducible refine jK (f := 25) rfl ?_); refine zL (some 29) Try.func25 #[.slice A0 l0.length c0, .agg #[.int .i64 t171, .slice Ao62 t172.length co62]] ?_; (with_reducible refine (spec_IsMagazine.calls k _ _ l0 t171 _ _ t172 false _ ?side1 ?side2 ?side3 ?side4 A9.out).mono ?_); (case side1 => exact Kd.C_below HR0.out (zb3 HB GE167 GE168 GE175)); (case side2 => exact HC0.out); (case side3 => refine (jP (e := 2) (base := w.heap.size) (ok := fun k_ => True) (n := t172.length) (c := co62) ?_).2.2; exact (zU HO174 BK175)); (case side4 => exact (jP HO174.out).2.1); rintro e w67 ⟨rfl, hb⟩; refine ⟨_, rfl, ?_⟩; replace HO174 := jA (Kd.R_below (zU HO174 BK175) hb); replace BK167 := jA (jO (g := gb167) (o := .cells #[.int .i64 a1_0, .slice A1_1 l1_1.length c1_1] 28 (0, 0)) (zQ1 BK167 NB167_175) hb); replace BK168 := jA (jO (g := gb168) (o := .cells #[.int .i64 0, .slice none 0 0] 28 (0, 0)) (zQ1 BK168 NB168_175) hb); replace BK175 := jA (jO (g := gb175) (o := .cells #[.int .i64 t171, .slice Ao62 t172.length co62] 28 (0, 0)) (zP0 BK175) hb); replace HB := zS3 HB GE167 GE168 GE175 hb; clear hb; have hcz68 := zc2 BK168))
   refine bodyPost_ret (results_ct rfl _ _ gb168 28 #[.int .i64 0, .slice none 0 0] (0, 0) _ rfl (zP0 BK168) Try.underlying28 rfl zr) rfl ?_
   exact ⟨_, ze, by first | exact Kd.R_nil _ _ _ _ _ | exact Kd.N_nil _ _ _ _ _ | exact Kd.V_nil _ _ _ _ _ | exact Kd.Q_nil _ _ _ _ _ | exact Kd.S_nil _ _ _ _ _, zb3 HB GE167 GE168 GE175⟩
 ·rw [if_neg c6] at H
  have c6b0 : (t169 == 0) = false := beq_eq_false_iff_ne.mpr c6
  have c6b1 : (t169 != 0) = true := bne_iff_ne.mpr c6
  simp only [jN, jQ] at H
  obtain ⟨rfl, rfl, rfl⟩ := H
  go_enter Try.func40, Try.ntmps40
  go_wp2_with (first | ((with_reducible refine jJ (N := 5) rfl ?_); refine zE 5 #[.int .i64 a1_0, .slice A1_1 l1_1.length c1_1] 28 ?_; intro gb167 hg w69 hbox hb; have BK167 := jA (hbox); have GW167 := zg0 hg HB; have GE167 := zg0 hg HB; replace HB := zS0 HB hb; clear hb hbox hg) | ((with_reducible refine jJ (N := 8) rfl ?_); refine zE 8 #[.int .i64 0, .slice none 0 0] 28 ?_; intro gb168 hg w70 hbox hb; have BK168 := jA (hbox); have GW168 := zg1 hg HB GE167; have GE168 := zg1 hg HB GE167; replace HB := zS1 HB GE167 hb; have NB167_168 := zn hg BK167; replace BK167 := zB BK167 hb; have NB168_167 := jA NB167_168.out.symm; clear hb hbox hg; have hnb71 := NB167_168.out; have hnc71 := NB168_167.out; have hcz72 := zc2 BK167) | ((with_reducible refine jK (f := 69) rfl ?_); refine zL (some 16) Try.func69 #[.slice A0 l0.length c0, .agg #[.int .i64 a1_0, .slice A1_1 l1_1.length c1_1], .string a2, .int .i64 a3] ?_; (with_reducible refine (spec_l26Code.calls k _ _ l0 a1_0 _ _ l1_1 a2 a3 t169 _ ?side1 ?side2 ?side3 ?side4 A5.out).mono ?_); (case side1 => exact zs HR0 HB); (case side2 => exact HC0.out); (case side3 => exact zs HR1_1 HB); (case side4 => exact HC1_1.out); rintro e w73 ⟨rfl, hb⟩; refine ⟨_, rfl, ?_⟩; replace BK167 := zB BK167 hb; replace BK168 := zB BK168 hb; replace HB := zS2 HB GE167 GE168 hb; clear hb; have hcz74 := zc2 BK168))
  refine bodyPost_ret (results_ct rfl _ _ gb168 28 #[.int .i64 0, .slice none 0 0] (0, 0) _ rfl (zP0 BK168) Try.underlying28 rfl zr) rfl ?_
  exact ⟨_, ze, by first | exact Kd.R_nil _ _ _ _ _ | exact Kd.N_nil _ _ _ _ _ | exact Kd.V_nil _ _ _ _ _ | exact Kd.Q_nil _ _ _ _ _ | exact Kd.S_nil _ _ _ _ _, zb2 HB GE167 GE168⟩

end Go.Proofs.Ytdgglhfnlljmeaa.PFnExactMovePieces
