/- Functions and contracts that FnExactMovePieces reaches (4 of 24). -/
import Derived.Test.YtdgglhfnlljmeaaQFnExactMovePiecesx2
namespace Go.Proofs.Ytdgglhfnlljmeaa.PFnExactMovePieces
open Go.RowKit Go.Proofs.YtdgglhfnlljmeaaW.PrintWords Go.Proofs.YtdgglhfnlljmeaaW.PrintLast Go.Proofs.YtdgglhfnlljmeaaW.PrintMore
attribute [local go_sem] max2_int min2_int max_two min_two max_three min_three max_four min_four   -- for this text's walks alone
set_option linter.unusedVariables false
set_option linter.unusedSimpArgs false
open Go.Proofs.YtdgglhfnlljmeaaX

/-! ### spec_l26With: function 72 -/
def spec_l26With.f (a0_0 : Int) (l0_1 : List Int) (a1 : Int) (a2 : Int) : Option (Int × List Int) := (spec_l01Own.f l0_1).bind fun t140 => (if 0 ≤ a1 then (if a1 < (t140.length : Int) then (some (a0_0, (t140.set (a1 : Int).toNat (wrap64 ((rd t140 a1) + a2))))) else (none)) else (none))
def spec_l26With.T1 : Bool × List (List Nat × List Nat) := (true, [([], []), ([0], [0]), ([], []), ([2], [2]), ([3], [3]), ([1, 4], [1, 4]), ([], []), ([6, 5, 4, 0, 1, 2, 3, 4, 5, 6], [5, 6])])
def spec_l26With.B1 : List Nat := [0, 1, 0, 4, 12, 31, 0, 127]
theorem spec_l26With.tab1 : rtab .any (opsOf Try.f72 1) = spec_l26With.T1 := by kernel_rfl
theorem spec_l26With.bits1 : waitsOk spec_l26With.T1.2 spec_l26With.B1 = true := by kernel_rfl
def spec_l26With.T2 : Bool × List (List Nat × List Nat) := (true, [([], []), ([0], [0]), ([], []), ([], []), ([3], [3]), ([], []), ([4, 5], [4, 5]), ([6], [6]), ([], []), ([7, 8], [7, 8]), ([1, 2, 0, 1, 2, 3, 4, 5, 6, 7, 8, 9], [1, 2]), ([10, 9, 0, 1, 2, 3, 4, 5, 6, 7, 8, 9], [9, 10])])
def spec_l26With.B2 : List Nat := [0, 1, 0, 0, 8, 0, 56, 120, 0, 504, 1023, 2047]
theorem spec_l26With.tab2 : rtab .any (opsOf Try.f72 2) = spec_l26With.T2 := by kernel_rfl
theorem spec_l26With.bits2 : waitsOk spec_l26With.T2.2 spec_l26With.B2 = true := by kernel_rfl
set_option maxHeartbeats 8000000 in
set_option maxRecDepth 100000 in
theorem spec_l26With.calls (a0_0 : Int) (A0_1 : Option Addr) (c0_1 : Nat) (l0_1 : List Int) (a1 : Int) (a2 : Int) (r1 : Int) (r2 : List Int) (w : World) (hr0_1 : Kd.C (Kd.int .i64) w A0_1 l0_1.length l0_1) (hc0_1 : l0_1.length ≤ c0_1) (h : spec_l26With.f a0_0 l0_1 a1 a2 = some (r1, r2)) :
  Calls Try.prog 72 #[.agg #[.int .i64 a0_0, .slice A0_1 l0_1.length c0_1], .int .i64 a1, .int .i64 a2] w fun e w' => ∃ v1_ : Value, e = .returned (.agg #[.int .i64 r1, v1_]) ∧ Kd.R (Kd.int .i64) 2 w' w.heap.size (fun _ => True) v1_ r2 ∧ Below w.heap.size w w' := by
 have hu28 := Try.underlying28
 have HR0_1 := jA hr0_1
 have HC0_1 := jA hc0_1
 clear hr0_1 hc0_1
 have HB := jA (Below.refl w.heap.size w)
 have H := h
 unfold spec_l26With.f at H
 clear h
 replace H := jG.mp H
 obtain ⟨t140, A40, H⟩ := H
 try dsimp only at H
 have A4 := jA A40
 clear A40
 by_cases c5 : 0 ≤ a1
 ·rw [if_pos c5] at H
  have c5b0 : decide (0 ≤ a1) = true := jI c5
  clear c5
  by_cases c6 : a1 < (t140.length : Int)
  ·rw [if_pos c6] at H
   have c6b0 : decide (a1 < (t140.length : Int)) = true := jI c6
   clear c6
   obtain ⟨y145, hy145⟩ : ∃ y_ : List Int, y_ = (t140.set (a1 : Int).toNat (wrap64 ((rd t140 a1) + a2))) := ⟨_, rfl⟩
   replace H : (some (a0_0, y145)) = some (r1, r2) := by first | (rw [hy145]; with_reducible exact H) | (have H2_ := (Option.bind_some _ _).symm.trans H; rw [hy145]; with_reducible exact H2_) | (have H2_ := (Option.bind_some _ _).symm.trans H; with_reducible exact H2_) | with_reducible exact H | (rw [hy145]; exact H) | exact H
   have Ny145 := jA hy145
   clear hy145
   simp only [jN, jQ] at H
   obtain ⟨rfl, rfl⟩ := H
   go_enter Try.func72, Try.ntmps72
   try go_wp2_with (first | ((with_reducible refine jJ (N := 3) rfl ?_); refine zE 3 #[.int .i64 a0_0, .slice A0_1 l0_1.length c0_1] 28 ?_; intro gb138 hg w8 hbox hb; have BK138 := jA (hbox); have GW138 := zg0 hg HB; have GE138 := zg0 hg HB; replace HB := zS0 HB hb; clear hb hbox hg) | ((with_reducible refine jJ (N := 6) rfl ?_); refine zE 6 #[.int .i64 0, .slice none 0 0] 28 ?_; intro gb139 hg w9 hbox hb; have BK139 := jA (hbox); have GW139 := zg1 hg HB GE138; have GE139 := zg1 hg HB GE138; replace HB := zS1 HB GE138 hb; have NB138_139 := zn hg BK138; replace BK138 := zB BK138 hb; have NB139_138 := jA NB138_139.out.symm; clear hb hbox hg))
   replace BK138 := jA (blk_drew BK138.out)
   replace BK139 := jA (blk_drew BK139.out)
   replace HB := jA (jR HB.out)
   refine start_ (n := 8) (S := fun w' => w'.cell? ⟨gb138, 0, none⟩ = some (.int .i64 a0_0) ∧ w'.cell? ⟨gb138, 1, none⟩ = some (.slice A0_1 l0_1.length c0_1)) (ds := []) m8_0 zr rfl rfl ⟨(jD BK138.out 0).trans rfl, (jD BK138.out 1).trans rfl⟩ (fun hHeld => ?_); refine with_tabW spec_l26With.tab1 spec_l26With.bits1 (fun HT_ HW_ => ?_)
   generalize w9.drew = w10 at BK138 BK139 HB hHeld ⊢
   refine zp HT_ 0 8 m8_80 ?_
   refine zp HT_ 2 10 m8_a0 ?_
   refine zt2 HT_ HW_ hHeld 1 9 m8_e0 ?_
   refine zt2 HT_ HW_ hHeld 3 11 m8_f0 ?_
   refine join_ (σ := Value × Nat) 1 m8_fe (fun s_ => [(12, s_.1), (7, .pointer (some ⟨s_.2, 0, none⟩)), (13, .agg #[.int .i64 a0_0, s_.1])]) (fun s_ w' => (w'.cell? ⟨gb138, 0, none⟩ = some (.int .i64 a0_0) ∧ w'.cell? ⟨gb138, 1, none⟩ = some (.slice A0_1 l0_1.length c0_1)) ∧ (Kd.R (Kd.int .i64) 2 w' w.heap.size (fun _ => True) s_.1 t140) ∧ (w'.heap[gb138]? = some (.cells #[.int .i64 a0_0, .slice A0_1 l0_1.length c0_1] 28 (0, 0))) ∧ (w'.heap[gb139]? = some (.cells #[.int .i64 0, .slice none 0 0] 28 (0, 0))) ∧ (w'.heap[s_.2]? = some (.cells #[.int .i64 0, .slice none 0 0] 28 (0, 0))) ∧ (w.heap.size ≤ s_.2) ∧ (w.heap.size ≤ s_.2) ∧ (gb138 ≠ s_.2) ∧ (s_.2 ≠ gb138) ∧ (gb139 ≠ s_.2) ∧ (s_.2 ≠ gb139) ∧ (Below w.heap.size w w')) ?_ ?_
   rotate_left
   ·intro hCont
    refine two_ (i := 4) (j := 6) (Ni := some 12) (Nj := some 7) m8_f8 m8_f2 rfl rfl rfl rfl (two_of HT_.out zr) (by decide) (by decide) (fun K hK => ?_) (fun K hK => ?_)
    ·skip
     refine goes_ Try.func86 zr rfl #[.slice A0_1 l0_1.length c0_1] (by rfl) rfl rfl zm ?_
     with_reducible refine (spec_l01Own.calls _ _ l0_1 t140 _ ?side1 ?side2 A4.out).mono ?_
     (case side1 => exact zs HR0_1 HB)
     (case side2 => exact HC0_1.out)
     rintro e w11 ⟨v141, rfl, ho0, hb⟩
     refine ⟨_, rfl, ?_⟩
     have HO142 := jA (Kd.R_lower ho0 (below_size (zb2 HB GE138 GE139)))
     replace BK138 := zB BK138 hb
     replace BK139 := zB BK139 hb
     replace HB := zS2 HB GE138 GE139 hb
     (try clear hb)
     (try clear hb2)
     (try clear hk)
     (try clear hi)
     (try clear ho0)
     obtain ⟨Ao12, co12, eo12⟩ := Kd.R_slice HO142.out
     (first | subst eo12 | (injection eo12 with f1_ f2_ f3_; have f4_ := f1_.symm; have f5_ := f3_.symm; clear f1_ f2_ f3_; subst f4_; subst f5_))
     refine hK.out _ _ ⟨(jD BK138.out 0).trans rfl, (jD BK138.out 1).trans rfl⟩ (fun hHeld => ?_)
     clear hK K
     refine norm_ (a' := ?_) ?_ ?_
     rotate_left
     ·show Act.put _ (some 12) _ = _
      simp only [Act.put, jC, jE, jF, i64_w, i32_w]
      rfl
     refine zp HT_ 5 13 m8_fc ?_
     refine one_ (i := 6) (N := some 7) m8_fe rfl rfl (one_of HT_.out zr) (by decide) (fun K hK => ?_)
     refine box_step ?hg (N := 7) ?hd (cs := #[.int .i64 0, .slice none 0 0]) (t := 28) ?hr ?_; (case hd => rfl); (case hg => rfl); (case hr => first | (go_simp; done) | (go_simp; rfl))
     intro gb143 hg w13 hbox hb
     replace HO142 := jA (Kd.R_below (zo HO142) hb)
     have BK143 := jA (hbox)
     have GW143 := zg2 hg HB GE138 GE139
     have GE143 := zg2 hg HB GE138 GE139
     replace HB := zS2 HB GE138 GE139 hb
     have NB138_143 := zn hg BK138
     have NB143_138 := zN hg BK138
     replace BK138 := zB BK138 hb
     have NB139_143 := zn hg BK139
     have NB143_139 := zN hg BK139
     replace BK139 := zB BK139 hb
     clear hb hbox hg
     refine hK.out _ _ ⟨(jD BK138.out 0).trans rfl, (jD BK138.out 1).trans rfl⟩ (fun hHeld => ?_)
     clear hK K
     refine norm_ (a' := ?_) ?_ ?_
     rotate_left
     ·show Act.put _ (some 7) _ = _
      simp only [Act.put, jC, jE, jF, i64_w, i32_w]
      rfl
     exact norm_ (by simp only [putAll, Act.put, jC, jE, jF]) (hCont (.slice Ao12 t140.length co12, gb143) _ ⟨hHeld, (zo HO142), (zk BK138), (zk BK139), (zk BK143), GW143.out, GE143.out, NB138_143.out, NB143_138.out, NB139_143.out, NB143_139.out, (zb3 HB GE138 GE139 GE143)⟩)
    ·skip
     refine box_step ?hg (N := 7) ?hd (cs := #[.int .i64 0, .slice none 0 0]) (t := 28) ?hr ?_; (case hd => rfl); (case hg => rfl); (case hr => first | (go_simp; done) | (go_simp; rfl))
     intro gb143 hg w11 hbox hb
     have BK143 := jA (hbox)
     have GW143 := zg2 hg HB GE138 GE139
     have GE143 := zg2 hg HB GE138 GE139
     replace HB := zS2 HB GE138 GE139 hb
     have NB138_143 := zn hg BK138
     have NB143_138 := zN hg BK138
     replace BK138 := zB BK138 hb
     have NB139_143 := zn hg BK139
     have NB143_139 := zN hg BK139
     replace BK139 := zB BK139 hb
     clear hb hbox hg
     refine hK.out _ _ ⟨(jD BK138.out 0).trans rfl, (jD BK138.out 1).trans rfl⟩ (fun hHeld => ?_)
     clear hK K
     refine norm_ (a' := ?_) ?_ ?_
     rotate_left
     ·show Act.put _ (some 7) _ = _
      simp only [Act.put, jC, jE, jF, i64_w, i32_w]
      rfl
     refine one_ (i := 4) (N := some 12) m8_fa rfl rfl (one_of HT_.out zr) (by decide) (fun K hK => ?_)
     refine goes_ Try.func86 zr rfl #[.slice A0_1 l0_1.length c0_1] (by rfl) rfl rfl zm ?_
     with_reducible refine (spec_l01Own.calls _ _ l0_1 t140 _ ?side1 ?side2 A4.out).mono ?_
     (case side1 => exact zs HR0_1 HB)
     (case side2 => exact HC0_1.out)
     rintro e w12 ⟨v141, rfl, ho0, hb⟩
     refine ⟨_, rfl, ?_⟩
     have HO142 := jA (Kd.R_lower ho0 (below_size (zb3 HB GE138 GE139 GE143)))
     replace BK138 := zB BK138 hb
     replace BK139 := zB BK139 hb
     replace BK143 := zB BK143 hb
     replace HB := zS3 HB GE138 GE139 GE143 hb
     (try clear hb)
     (try clear hb2)
     (try clear hk)
     (try clear hi)
     (try clear ho0)
     obtain ⟨Ao13, co13, eo13⟩ := Kd.R_slice HO142.out
     (first | subst eo13 | (injection eo13 with f1_ f2_ f3_; have f4_ := f1_.symm; have f5_ := f3_.symm; clear f1_ f2_ f3_; subst f4_; subst f5_))
     refine hK.out _ _ ⟨(jD BK138.out 0).trans rfl, (jD BK138.out 1).trans rfl⟩ (fun hHeld => ?_)
     clear hK K
     refine norm_ (a' := ?_) ?_ ?_
     rotate_left
     ·show Act.put _ (some 12) _ = _
      simp only [Act.put, jC, jE, jF, i64_w, i32_w]
      rfl
     refine zp HT_ 5 13 m8_fe ?_
     exact norm_ (by simp only [putAll, Act.put, jC, jE, jF]) (hCont (.slice Ao13 t140.length co13, gb143) _ ⟨hHeld, (zo HO142), (zk BK138), (zk BK139), (zk BK143), GW143.out, GE143.out, NB138_143.out, NB143_138.out, NB139_143.out, NB143_139.out, (zb3 HB GE138 GE139 GE143)⟩)
   rintro ⟨v141, gb143⟩ w14 ⟨hS_, h0_, h1_, h2_, h3_, h4_, h5_, h6_, h7_, h8_, h9_, h10_⟩
   have HO142 : Aside0 (Kd.R (Kd.int .i64) 2 w14 w.heap.size (fun _ => True) v141 t140) := ⟨h0_⟩
   replace BK138 : Aside0 (w14.heap[gb138]? = some (.cells #[.int .i64 a0_0, .slice A0_1 l0_1.length c0_1] 28 (0, 0))) := ⟨h1_⟩
   replace BK139 : Aside0 (w14.heap[gb139]? = some (.cells #[.int .i64 0, .slice none 0 0] 28 (0, 0))) := ⟨h2_⟩
   have BK143 : Aside0 (w14.heap[gb143]? = some (.cells #[.int .i64 0, .slice none 0 0] 28 (0, 0))) := ⟨h3_⟩
   have GW143 : Aside0 (w.heap.size ≤ gb143) := ⟨h4_⟩
   have GE143 : Aside0 (w.heap.size ≤ gb143) := ⟨h5_⟩
   have NB138_143 : Aside0 (gb138 ≠ gb143) := ⟨h6_⟩
   have NB143_138 : Aside0 (gb143 ≠ gb138) := ⟨h7_⟩
   have NB139_143 : Aside0 (gb139 ≠ gb143) := ⟨h8_⟩
   have NB143_139 : Aside0 (gb143 ≠ gb139) := ⟨h9_⟩
   replace HB : Aside0 (Below w.heap.size w w14) := ⟨h10_⟩
   clear h0_ h1_ h2_ h3_ h4_ h5_ h6_ h7_ h8_ h9_ h10_
   have hHeld : w14.cell? ⟨gb138, 0, none⟩ = some (.int .i64 a0_0) ∧ w14.cell? ⟨gb138, 1, none⟩ = some (.slice A0_1 l0_1.length c0_1) := hS_
   obtain ⟨Ao15, co15, eo15⟩ := Kd.R_slice HO142.out
   (first | subst eo15 | (injection eo15 with f1_ f2_ f3_; have f4_ := f1_.symm; have f5_ := f3_.symm; clear f1_ f2_ f3_; subst f4_; subst f5_))
   refine norm_ (a' := ?_) ?_ ?_
   rotate_left
   ·simp only [putAll, Act.put, jC, jE, jF]
    rfl
   refine one_ (i := 7) (N := none) m8_ff rfl rfl (one_of HT_.out zr) (by decide) (fun K hK => ?_)
   have hs16 : w14.cell? ⟨gb143, 0, none⟩ = some (.int .i64 0) := (jD BK143.out 0).trans rfl
   have hfs16 := blk_frozen BK143.out 0
   have hns16_0 := NB138_143.out
   have hns16_1 := NB139_143.out
   have hms16_0 := NB143_138.out
   have hms16_1 := NB143_139.out
   have hs17 : w14.cell? ⟨gb143, 1, none⟩ = some (.slice none 0 0) := (jD BK143.out 1).trans rfl
   have hfs17 := blk_frozen BK143.out 1
   have hns17_0 := NB138_143.out
   have hns17_1 := NB139_143.out
   have hms17_0 := NB143_138.out
   have hms17_1 := NB143_139.out
   refine skip_ (w1 := ?_) (by rfl) rfl ?_ ?_
   rotate_left
   ·go_simp
    rfl
   refine hK.out _ _ ⟨((jL (p := ⟨gb143, _, none⟩) NB138_143.out _).trans (((jL (p := ⟨gb143, _, none⟩) NB138_143.out _).trans (hHeld.1)))), ((jL (p := ⟨gb143, _, none⟩) NB138_143.out _).trans (((jL (p := ⟨gb143, _, none⟩) NB138_143.out _).trans (hHeld.2))))⟩ (fun hHeld => ?_)
   clear hK K
   refine done_ (done_of HT_.out zr) ?_
   try go_wp2
   have n0_ : Aside0 (Kd.R (Kd.int .i64) 2 ((w14.setCell ⟨gb143, 0, none⟩ (.int .i64 a0_0)).setCell ⟨gb143, 1, none⟩ (.slice Ao15 t140.length co15)) w.heap.size (fun _ => True) (.slice Ao15 t140.length co15) t140) := ⟨zT HO142 BK143⟩
   have n1_ : Aside0 (((w14.setCell ⟨gb143, 0, none⟩ (.int .i64 a0_0)).setCell ⟨gb143, 1, none⟩ (.slice Ao15 t140.length co15)).heap[gb138]? = some (.cells #[.int .i64 a0_0, .slice A0_1 l0_1.length c0_1] 28 (0, 0))) := ⟨zQ1 BK138 NB138_143⟩
   have n2_ : Aside0 (((w14.setCell ⟨gb143, 0, none⟩ (.int .i64 a0_0)).setCell ⟨gb143, 1, none⟩ (.slice Ao15 t140.length co15)).heap[gb139]? = some (.cells #[.int .i64 0, .slice none 0 0] 28 (0, 0))) := ⟨zQ1 BK139 NB139_143⟩
   have n3_ : Aside0 (((w14.setCell ⟨gb143, 0, none⟩ (.int .i64 a0_0)).setCell ⟨gb143, 1, none⟩ (.slice Ao15 t140.length co15)).heap[gb143]? = some (.cells #[.int .i64 a0_0, .slice Ao15 t140.length co15] 28 (0, 0))) := ⟨zP0 BK143⟩
   have n4_ : Aside0 (Below w.heap.size w ((w14.setCell ⟨gb143, 0, none⟩ (.int .i64 a0_0)).setCell ⟨gb143, 1, none⟩ (.slice Ao15 t140.length co15))) := ⟨zb3 HB GE138 GE139 GE143⟩
   (try clear HO142)
   (try clear BK138)
   (try clear BK139)
   (try clear BK143)
   (try clear HB)
   generalize ((w14.setCell ⟨gb143, 0, none⟩ (.int .i64 a0_0)).setCell ⟨gb143, 1, none⟩ (.slice Ao15 t140.length co15)) = w18 at n0_ n1_ n2_ n3_ n4_ ⊢
   have HO142 := n0_
   have BK138 := n1_
   have BK139 := n2_
   have BK143 := n3_
   have HB := n4_
   clear n0_ n1_ n2_ n3_ n4_
   replace HO142 := jA (Kd.R_drew HO142.out)
   replace BK138 := jA (blk_drew BK138.out)
   replace BK139 := jA (blk_drew BK139.out)
   replace BK143 := jA (blk_drew BK143.out)
   replace HB := jA (jR HB.out)
   have p144 : 0 ≤ (a1 : Int) := jB za
   have q144 : a1 < (t140.length : Int) := jB za
   obtain ⟨ad144, e144, hx144_0⟩ := Kd.at_int (jP HO142.out).2.2 a1 p144 q144
   cases e144
   replace p144 := eq_true p144
   replace q144 := eq_true q144
   have p7 : 0 ≤ (a1 : Int) := jB za
   have q7 : (a1 : Int) < ((t140.length : Int) : Int) := jB za
   obtain ⟨go7, co7, eo7, gb7, gl7, cl7, HG7⟩ := Kd.R_form HO142.out (by omega)
   (first | cases eo7 | (injection eo7 with ea_ en_ ec_; (first | subst ea_ | (injection ea_ with ea_; subst ea_)); subst ec_; clear en_))
   have GB7 := jA gb7
   have GG7 := jA HG7
   clear gb7 gl7 HG7
   (first | simp only [add_plain] at hx144_0 | skip)
   obtain ⟨hx7_0, hf7_0⟩ := Kd.R_celln 0 HO142.out (a1 : Int) p7 q7
   replace p7 := eq_true p7
   replace q7 := eq_true q7
   have HP20 := Kd.R_putn HO142.out (a1 : Int) (wrap64 ((rd t140 a1) + a2))
   rw [← Ny145.out] at HP20
   have HQ20 := jA HP20
   clear HP20
   refine start_ (n := 12) (S := fun w' => w'.cell? ⟨gb143, 0, none⟩ = some (.int .i64 a0_0) ∧ w'.cell? ⟨gb143, 1, none⟩ = some (.slice (some ⟨go7, 0, none⟩) t140.length co15) ∧ w'.cell? ⟨go7, (a1).toNat, none⟩ = some (.int .i64 (rd t140 a1))) (ds := [11]) #[false, false, false, false, false, false, false, false, false, false, false, false] zr rfl rfl ⟨(jD BK143.out 0).trans rfl, (jD BK143.out 1).trans rfl, hx144_0⟩ (fun hHeld => ?_); refine with_tabW spec_l26With.tab2 spec_l26With.bits2 (fun HT_ HW_ => ?_)
   generalize w18.drew = w19 at HO142 BK138 BK139 BK143 HB GG7 HQ20 hf7_0 hx144_0 hx7_0 hHeld ⊢
   refine zp HT_ 0 14 #[true, false, false, false, false, false, false, false, false, false, false, false] ?_
   refine zp HT_ 2 16 #[true, false, true, false, false, false, false, false, false, false, false, false] ?_
   refine zp HT_ 3 17 #[true, false, true, true, false, false, false, false, false, false, false, false] ?_
   refine zp HT_ 5 19 #[true, false, true, true, false, true, false, false, false, false, false, false] ?_
   refine zp HT_ 8 22 #[true, false, true, true, false, true, false, false, true, false, false, false] ?_
   refine zt3 HT_ HW_ hHeld 1 15 #[true, true, true, true, false, true, false, false, true, false, false, false] ?_
   refine zt3 HT_ HW_ hHeld 4 18 #[true, true, true, true, true, true, false, false, true, false, false, false] ?_
   refine zp HT_ 6 20 #[true, true, true, true, true, true, true, false, true, false, false, false] ?_
   refine zt3 HT_ HW_ hHeld 7 21 #[true, true, true, true, true, true, true, true, true, false, false, false] ?_
   refine zp HT_ 9 23 #[true, true, true, true, true, true, true, true, true, true, false, false] ?_
   refine zp HT_ 10 24 #[true, true, true, true, true, true, true, true, true, true, true, false] ?_
   refine last_ (i := 11) (N := none) #[true, true, true, true, true, true, true, true, true, true, true, true] rfl rfl (one_of HT_.out zr) (by decide) (fun K hK => ?_)
   refine skip_ (w1 := ?_) (by rfl) rfl ?_ ?_
   rotate_left
   ·go_simp
    rfl
   refine hK.out _ _ ?_
   clear hK K
   refine done_ (done_of HT_.out zr) ?_
   have n0_ : Aside0 (Kd.R (Kd.int .i64) 2 (w19.setCell ⟨go7, (a1 : Int).toNat, none⟩ (.int .i64 (wrap64 ((rd t140 a1) + a2)))) w.heap.size (fun _ => True) (.slice (some ⟨go7, 0, none⟩) t140.length co15) y145) := ⟨by (with_reducible repeat (first | apply Kd.R_alloc | apply Kd.R_drewN | apply Kd.R_drew)); exact HQ20.out⟩
   have n1_ : Aside0 ((w19.setCell ⟨go7, (a1 : Int).toNat, none⟩ (.int .i64 (wrap64 ((rd t140 a1) + a2)))).heap[gb138]? = some (.cells #[.int .i64 a0_0, .slice A0_1 l0_1.length c0_1] 28 (0, 0))) := ⟨by (with_reducible repeat (first | refine blk_drewN ?_ _ | refine blk_drew ?_ | refine blk_alloc ?_ _)); refine blk_far ?_ (by have h_ := Kd.R_ne HO142.out BK138.out (by decide); intro e_; exact h_ (by rw [e_]; rfl)) _; (with_reducible repeat (first | refine blk_drewN ?_ _ | refine blk_drew ?_ | refine blk_alloc ?_ _)); exact BK138.out⟩
   have n2_ : Aside0 ((w19.setCell ⟨go7, (a1 : Int).toNat, none⟩ (.int .i64 (wrap64 ((rd t140 a1) + a2)))).heap[gb139]? = some (.cells #[.int .i64 0, .slice none 0 0] 28 (0, 0))) := ⟨by (with_reducible repeat (first | refine blk_drewN ?_ _ | refine blk_drew ?_ | refine blk_alloc ?_ _)); refine blk_far ?_ (by have h_ := Kd.R_ne HO142.out BK139.out (by decide); intro e_; exact h_ (by rw [e_]; rfl)) _; (with_reducible repeat (first | refine blk_drewN ?_ _ | refine blk_drew ?_ | refine blk_alloc ?_ _)); exact BK139.out⟩
   have n3_ : Aside0 ((w19.setCell ⟨go7, (a1 : Int).toNat, none⟩ (.int .i64 (wrap64 ((rd t140 a1) + a2)))).heap[gb143]? = some (.cells #[.int .i64 a0_0, .slice (some ⟨go7, 0, none⟩) t140.length co15] 28 (0, 0))) := ⟨by (with_reducible repeat (first | refine blk_drewN ?_ _ | refine blk_drew ?_ | refine blk_alloc ?_ _)); refine blk_far ?_ (by have h_ := Kd.R_ne HO142.out BK143.out (by decide); intro e_; exact h_ (by rw [e_]; rfl)) _; (with_reducible repeat (first | refine blk_drewN ?_ _ | refine blk_drew ?_ | refine blk_alloc ?_ _)); exact BK143.out⟩
   have n4_ : Aside0 (Below w.heap.size w (w19.setCell ⟨go7, (a1 : Int).toNat, none⟩ (.int .i64 (wrap64 ((rd t140 a1) + a2))))) := ⟨zr0 HB GB7 GE138 GE139 GE143⟩
   (try clear HO142)
   (try clear BK138)
   (try clear BK139)
   (try clear BK143)
   (try clear HB)
   generalize (w19.setCell ⟨go7, (a1 : Int).toNat, none⟩ (.int .i64 (wrap64 ((rd t140 a1) + a2)))) = w21 at n0_ n1_ n2_ n3_ n4_ ⊢
   have HO142 := n0_
   have BK138 := n1_
   have BK139 := n2_
   have BK143 := n3_
   have HB := n4_
   clear n0_ n1_ n2_ n3_ n4_
   have hnb22 := NB143_138.out
   have hnc22 := NB138_143.out
   have hnb23 := NB143_139.out
   have hnc23 := NB139_143.out
   have hcz24 := zc2 BK143
   have hnb25 := NB139_138.out
   have hnc25 := NB138_139.out
   have hcz26 := zc2 BK139
   try go_wp2
   refine bodyPost_ret (results_cell_row rfl _ _ gb139 28 #[.int .i64 a0_0, .slice (some ⟨go7, 0, none⟩) t140.length co15] (0, 0) _ rfl (zP0 BK139) Try.underlying28 rfl zr) rfl ?_
   exact ⟨_, ze, zT HO142 BK139, zb3 HB GE138 GE139 GE143⟩
  ·rw [if_neg c6] at H
   exact absurd H (by simp)
 ·rw [if_neg c5] at H
  exact absurd H (by simp)

end Go.Proofs.Ytdgglhfnlljmeaa.PFnExactMovePieces
