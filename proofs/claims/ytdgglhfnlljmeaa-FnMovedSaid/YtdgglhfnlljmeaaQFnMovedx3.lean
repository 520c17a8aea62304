/- Functions and contracts that FnMoved reaches (4 of 29). -/
import Derived.Test.YtdgglhfnlljmeaaQFnMovedx2
namespace Go.Proofs.Ytdgglhfnlljmeaa.PFnMoved
open Go.RowKit Go.Proofs.YtdgglhfnlljmeaaW.PrintWords Go.Proofs.YtdgglhfnlljmeaaW.PrintLast Go.Proofs.YtdgglhfnlljmeaaW.PrintMore
attribute [local go_sem] max2_int min2_int max_two min_two max_three min_three max_four min_four   -- for this text's walks alone
set_option linter.unusedVariables false
set_option linter.unusedSimpArgs false

/-! ### spec_l26With: function 72 -/
def spec_l26With.f (a0_0 : Int) (l0_1 : List Int) (a1 : Int) (a2 : Int) : Option (Int × List Int) := (spec_l01Own.f l0_1).bind fun t135 => (if 0 ≤ a1 then (if a1 < (t135.length : Int) then (some (a0_0, (t135.set (a1 : Int).toNat (wrap64 ((rd t135 a1) + a2))))) else (none)) else (none))
def spec_l26With.T1 : Bool × List (List Nat × List Nat) := (true, [([], []), ([0], [0]), ([], []), ([2], [2]), ([3], [3]), ([1, 4], [1, 4]), ([], []), ([6, 5, 4, 0, 1, 2, 3, 4, 5, 6], [5, 6])])
def spec_l26With.B1 : List Nat := [0, 1, 0, 4, 12, 31, 0, 127]
theorem spec_l26With.tab1 : rtab .any (opsOf Try.f72 1) = spec_l26With.T1 := by kernel_rfl
theorem spec_l26With.bits1 : waitsOk spec_l26With.T1.2 spec_l26With.B1 = true := by kernel_rfl
def spec_l26With.T2 : Bool × List (List Nat × List Nat) := (true, [([], []), ([0], [0]), ([], []), ([], []), ([3], [3]), ([], []), ([4, 5], [4, 5]), ([6], [6]), ([], []), ([7, 8], [7, 8]), ([1, 2, 0, 1, 2, 3, 4, 5, 6, 7, 8, 9], [1, 2]), ([10, 9, 0, 1, 2, 3, 4, 5, 6, 7, 8, 9], [9, 10])])
def spec_l26With.B2 : List Nat := [0, 1, 0, 0, 8, 0, 56, 120, 0, 504, 1023, 2047]
theorem spec_l26With.tab2 : rtab .any (opsOf Try.f72 2) = spec_l26With.T2 := by kernel_rfl
theorem spec_l26With.bits2 : waitsOk spec_l26With.T2.2 spec_l26With.B2 = true := by kernel_rfl
set_option maxHeartbeats 8000000 in
set_option maxRecDepth 100000 in
theorem spec_l26With.calls (a0_0 : Int) (A0_1 : Option Addr) (c0_1 : Nat) (l0_1 : List Int) (a1 : Int) (a2 : Int) (r1 : Int) (r2 : List Int) (w : World) (hr0_1 : Kd.C (Kd.int .i64) w A0_1 l0_1.length l0_1) (hc0_1 : l0_1.length ≤ c0_1) (h : spec_l26With.f a0_0 l0_1 a1 a2 = some (r1, r2)) :
  Calls Try.prog 72 #[.agg #[.int .i64 a0_0, .slice A0_1 l0_1.length c0_1], .int .i64 a1, .int .i64 a2] w fun e w' => ∃ v1_ : Value, e = .returned (.agg #[.int .i64 r1, v1_]) ∧ Kd.R (Kd.int .i64) 2 w' w.heap.size (fun _ => True) v1_ r2 ∧ Below w.heap.size w w' := by
 have hu28 := Try.underlying28
 have HR0_1 := jA hr0_1
 have HC0_1 := jA hc0_1
 clear hr0_1 hc0_1
 have HB := jA (Below.refl w.heap.size w)
 have H := h
 unfold spec_l26With.f at H
 clear h
 replace H := jB.mp H
 obtain ⟨t135, A40, H⟩ := H
 try dsimp only at H
 have A4 := jA A40
 clear A40
 by_cases c5 : 0 ≤ a1
 ·rw [if_pos c5] at H
  have c5b0 : decide (0 ≤ a1) = true := jK c5
  clear c5
  by_cases c6 : a1 < (t135.length : Int)
  ·rw [if_pos c6] at H
   have c6b0 : decide (a1 < (t135.length : Int)) = true := jK c6
   clear c6
   obtain ⟨y140, hy140⟩ : ∃ y_ : List Int, y_ = (t135.set (a1 : Int).toNat (wrap64 ((rd t135 a1) + a2))) := ⟨_, rfl⟩
   replace H : (some (a0_0, y140)) = some (r1, r2) := by first | (rw [hy140]; with_reducible exact H) | (have H2_ := (Option.bind_some _ _).symm.trans H; rw [hy140]; with_reducible exact H2_) | (have H2_ := (Option.bind_some _ _).symm.trans H; with_reducible exact H2_) | with_reducible exact H | (rw [hy140]; exact H) | exact H
   have Ny140 := jA hy140
   clear hy140
   simp only [jM, jS] at H
   obtain ⟨rfl, rfl⟩ := H
   go_enter Try.func72, Try.ntmps72
   try go_wp2_with (first | ((with_reducible refine jJ (N := 3) rfl ?_); refine zE 3 #[.int .i64 a0_0, .slice A0_1 l0_1.length c0_1] 28 ?_; intro gb133 hg w8 hbox hb; have BK133 := jA (hbox); have GW133 := zg0 hg HB; have GE133 := zg0 hg HB; replace HB := zS0 HB hb; clear hb hbox hg) | ((with_reducible refine jJ (N := 6) rfl ?_); refine zE 6 #[.int .i64 0, .slice none 0 0] 28 ?_; intro gb134 hg w9 hbox hb; have BK134 := jA (hbox); have GW134 := zg1 hg HB GE133; have GE134 := zg1 hg HB GE133; replace HB := zS1 HB GE133 hb; have NB133_134 := zn hg BK133; replace BK133 := zB BK133 hb; have NB134_133 := jA NB133_134.out.symm; clear hb hbox hg))
   replace BK133 := jA (blk_drew BK133.out)
   replace BK134 := jA (blk_drew BK134.out)
   replace HB := jA (below_drew1 HB.out)
   refine start_ (n := 8) (S := fun w' => w'.cell? ⟨gb133, 0, none⟩ = some (.int .i64 a0_0) ∧ w'.cell? ⟨gb133, 1, none⟩ = some (.slice A0_1 l0_1.length c0_1)) (ds := []) m8_0 zr rfl rfl ⟨(jF BK133.out 0).trans rfl, (jF BK133.out 1).trans rfl⟩ (fun hHeld => ?_); refine with_tabW spec_l26With.tab1 spec_l26With.bits1 (fun HT_ HW_ => ?_)
   generalize w9.drew = w10 at BK133 BK134 HB hHeld ⊢
   refine zp HT_ 0 8 m8_80 ?_
   refine zp HT_ 2 10 m8_a0 ?_
   refine zt2 HT_ HW_ hHeld 1 9 m8_e0 ?_
   refine zt2 HT_ HW_ hHeld 3 11 m8_f0 ?_
   refine join_ (σ := Value × Nat) 1 m8_fe (fun s_ => [(12, s_.1), (7, .pointer (some ⟨s_.2, 0, none⟩)), (13, .agg #[.int .i64 a0_0, s_.1])]) (fun s_ w' => (w'.cell? ⟨gb133, 0, none⟩ = some (.int .i64 a0_0) ∧ w'.cell? ⟨gb133, 1, none⟩ = some (.slice A0_1 l0_1.length c0_1)) ∧ (Kd.R (Kd.int .i64) 2 w' w.heap.size (fun _ => True) s_.1 t135) ∧ (w'.heap[gb133]? = some (.cells #[.int .i64 a0_0, .slice A0_1 l0_1.length c0_1] 28 (0, 0))) ∧ (w'.heap[gb134]? = some (.cells #[.int .i64 0, .slice none 0 0] 28 (0, 0))) ∧ (w'.heap[s_.2]? = some (.cells #[.int .i64 0, .slice none 0 0] 28 (0, 0))) ∧ (w.heap.size ≤ s_.2) ∧ (w.heap.size ≤ s_.2) ∧ (gb133 ≠ s_.2) ∧ (s_.2 ≠ gb133) ∧ (gb134 ≠ s_.2) ∧ (s_.2 ≠ gb134) ∧ (Below w.heap.size w w')) ?_ ?_
   rotate_left
   ·intro hCont
    refine two_ (i := 4) (j := 6) (Ni := some 12) (Nj := some 7) m8_f8 m8_f2 rfl rfl rfl rfl (two_of HT_.out zr) (by decide) (by decide) (fun K hK => ?_) (fun K hK => ?_)
    ·skip
     refine goes_ Try.func86 zr rfl #[.slice A0_1 l0_1.length c0_1] (by rfl) rfl rfl zm ?_
     with_reducible refine (spec_l01Own.calls _ _ l0_1 t135 _ ?side1 ?side2 A4.out).mono ?_
     (case side1 => exact zs HR0_1 HB)
     (case side2 => exact HC0_1.out)
     rintro e w11 ⟨v136, rfl, ho0, hb⟩
     refine ⟨_, rfl, ?_⟩
     have HO137 := jA (jU ho0 (jW (zb2 HB GE133 GE134)))
     replace BK133 := zB BK133 hb
     replace BK134 := zB BK134 hb
     replace HB := zS2 HB GE133 GE134 hb
     (try clear hb)
     (try clear hb2)
     (try clear hk)
     (try clear hi)
     (try clear ho0)
     obtain ⟨Ao12, co12, eo12⟩ := Kd.R_slice HO137.out
     (first | subst eo12 | (injection eo12 with f1_ f2_ f3_; have f4_ := f1_.symm; have f5_ := f3_.symm; clear f1_ f2_ f3_; subst f4_; subst f5_))
     refine hK.out _ _ ⟨(jF BK133.out 0).trans rfl, (jF BK133.out 1).trans rfl⟩ (fun hHeld => ?_)
     clear hK K
     refine norm_ (a' := ?_) ?_ ?_
     rotate_left
     ·show Act.put _ (some 12) _ = _
      simp only [Act.put, jC, jH, jI, i64_w, i32_w]
      rfl
     refine zp HT_ 5 13 m8_fc ?_
     refine one_ (i := 6) (N := some 7) m8_fe rfl rfl (one_of HT_.out zr) (by decide) (fun K hK => ?_)
     refine box_step ?hg (N := 7) ?hd (cs := #[.int .i64 0, .slice none 0 0]) (t := 28) ?hr ?_; (case hd => rfl); (case hg => rfl); (case hr => first | (go_simp; done) | (go_simp; rfl))
     intro gb138 hg w13 hbox hb
     replace HO137 := jA (jE (zo HO137) hb)
     have BK138 := jA (hbox)
     have GW138 := zg2 hg HB GE133 GE134
     have GE138 := zg2 hg HB GE133 GE134
     replace HB := zS2 HB GE133 GE134 hb
     have NB133_138 := zn hg BK133
     have NB138_133 := zN hg BK133
     replace BK133 := zB BK133 hb
     have NB134_138 := zn hg BK134
     have NB138_134 := zN hg BK134
     replace BK134 := zB BK134 hb
     clear hb hbox hg
     refine hK.out _ _ ⟨(jF BK133.out 0).trans rfl, (jF BK133.out 1).trans rfl⟩ (fun hHeld => ?_)
     clear hK K
     refine norm_ (a' := ?_) ?_ ?_
     rotate_left
     ·show Act.put _ (some 7) _ = _
      simp only [Act.put, jC, jH, jI, i64_w, i32_w]
      rfl
     exact norm_ (by simp only [putAll, Act.put, jC, jH, jI]) (hCont (.slice Ao12 t135.length co12, gb138) _ ⟨hHeld, (zo HO137), (zk BK133), (zk BK134), (zk BK138), GW138.out, GE138.out, NB133_138.out, NB138_133.out, NB134_138.out, NB138_134.out, (zb3 HB GE133 GE134 GE138)⟩)
    ·skip
     refine box_step ?hg (N := 7) ?hd (cs := #[.int .i64 0, .slice none 0 0]) (t := 28) ?hr ?_; (case hd => rfl); (case hg => rfl); (case hr => first | (go_simp; done) | (go_simp; rfl))
     intro gb138 hg w11 hbox hb
     have BK138 := jA (hbox)
     have GW138 := zg2 hg HB GE133 GE134
     have GE138 := zg2 hg HB GE133 GE134
     replace HB := zS2 HB GE133 GE134 hb
     have NB133_138 := zn hg BK133
     have NB138_133 := zN hg BK133
     replace BK133 := zB BK133 hb
     have NB134_138 := zn hg BK134
     have NB138_134 := zN hg BK134
     replace BK134 := zB BK134 hb
     clear hb hbox hg
     refine hK.out _ _ ⟨(jF BK133.out 0).trans rfl, (jF BK133.out 1).trans rfl⟩ (fun hHeld => ?_)
     clear hK K
     refine norm_ (a' := ?_) ?_ ?_
     rotate_left
     ·show Act.put _ (some 7) _ = _
      simp only [Act.put, jC, jH, jI, i64_w, i32_w]
      rfl
     refine one_ (i := 4) (N := some 12) m8_fa rfl rfl (one_of HT_.out zr) (by decide) (fun K hK => ?_)
     refine goes_ Try.func86 zr rfl #[.slice A0_1 l0_1.length c0_1] (by rfl) rfl rfl zm ?_
     with_reducible refine (spec_l01Own.calls _ _ l0_1 t135 _ ?side1 ?side2 A4.out).mono ?_
     (case side1 => exact zs HR0_1 HB)
     (case side2 => exact HC0_1.out)
     rintro e w12 ⟨v136, rfl, ho0, hb⟩
     refine ⟨_, rfl, ?_⟩
     have HO137 := jA (jU ho0 (jW (zb3 HB GE133 GE134 GE138)))
     replace BK133 := zB BK133 hb
     replace BK134 := zB BK134 hb
     replace BK138 := zB BK138 hb
     replace HB := zS3 HB GE133 GE134 GE138 hb
     (try clear hb)
     (try clear hb2)
     (try clear hk)
     (try clear hi)
     (try clear ho0)
     obtain ⟨Ao13, co13, eo13⟩ := Kd.R_slice HO137.out
     (first | subst eo13 | (injection eo13 with f1_ f2_ f3_; have f4_ := f1_.symm; have f5_ := f3_.symm; clear f1_ f2_ f3_; subst f4_; subst f5_))
     refine hK.out _ _ ⟨(jF BK133.out 0).trans rfl, (jF BK133.out 1).trans rfl⟩ (fun hHeld => ?_)
     clear hK K
     refine norm_ (a' := ?_) ?_ ?_
     rotate_left
     ·show Act.put _ (some 12) _ = _
      simp only [Act.put, jC, jH, jI, i64_w, i32_w]
      rfl
     refine zp HT_ 5 13 m8_fe ?_
     exact norm_ (by simp only [putAll, Act.put, jC, jH, jI]) (hCont (.slice Ao13 t135.length co13, gb138) _ ⟨hHeld, (zo HO137), (zk BK133), (zk BK134), (zk BK138), GW138.out, GE138.out, NB133_138.out, NB138_133.out, NB134_138.out, NB138_134.out, (zb3 HB GE133 GE134 GE138)⟩)
   rintro ⟨v136, gb138⟩ w14 ⟨hS_, h0_, h1_, h2_, h3_, h4_, h5_, h6_, h7_, h8_, h9_, h10_⟩
   have HO137 : Aside0 (Kd.R (Kd.int .i64) 2 w14 w.heap.size (fun _ => True) v136 t135) := ⟨h0_⟩
   replace BK133 : Aside0 (w14.heap[gb133]? = some (.cells #[.int .i64 a0_0, .slice A0_1 l0_1.length c0_1] 28 (0, 0))) := ⟨h1_⟩
   replace BK134 : Aside0 (w14.heap[gb134]? = some (.cells #[.int .i64 0, .slice none 0 0] 28 (0, 0))) := ⟨h2_⟩
   have BK138 : Aside0 (w14.heap[gb138]? = some (.cells #[.int .i64 0, .slice none 0 0] 28 (0, 0))) := ⟨h3_⟩
   have GW138 : Aside0 (w.heap.size ≤ gb138) := ⟨h4_⟩
   have GE138 : Aside0 (w.heap.size ≤ gb138) := ⟨h5_⟩
   have NB133_138 : Aside0 (gb133 ≠ gb138) := ⟨h6_⟩
   have NB138_133 : Aside0 (gb138 ≠ gb133) := ⟨h7_⟩
   have NB134_138 : Aside0 (gb134 ≠ gb138) := ⟨h8_⟩
   have NB138_134 : Aside0 (gb138 ≠ gb134) := ⟨h9_⟩
   replace HB : Aside0 (Below w.heap.size w w14) := ⟨h10_⟩
   clear h0_ h1_ h2_ h3_ h4_ h5_ h6_ h7_ h8_ h9_ h10_
   have hHeld : w14.cell? ⟨gb133, 0, none⟩ = some (.int .i64 a0_0) ∧ w14.cell? ⟨gb133, 1, none⟩ = some (.slice A0_1 l0_1.length c0_1) := hS_
   obtain ⟨Ao15, co15, eo15⟩ := Kd.R_slice HO137.out
   (first | subst eo15 | (injection eo15 with f1_ f2_ f3_; have f4_ := f1_.symm; have f5_ := f3_.symm; clear f1_ f2_ f3_; subst f4_; subst f5_))
   refine norm_ (a' := ?_) ?_ ?_
   rotate_left
   ·simp only [putAll, Act.put, jC, jH, jI]
    rfl
   refine one_ (i := 7) (N := none) m8_ff rfl rfl (one_of HT_.out zr) (by decide) (fun K hK => ?_)
   have hs16 : w14.cell? ⟨gb138, 0, none⟩ = some (.int .i64 0) := (jF BK138.out 0).trans rfl
   have hfs16 := blk_frozen BK138.out 0
   have hns16_0 := NB133_138.out
   have hns16_1 := NB134_138.out
   have hms16_0 := NB138_133.out
   have hms16_1 := NB138_134.out
   have hs17 : w14.cell? ⟨gb138, 1, none⟩ = some (.slice none 0 0) := (jF BK138.out 1).trans rfl
   have hfs17 := blk_frozen BK138.out 1
   have hns17_0 := NB133_138.out
   have hns17_1 := NB134_138.out
   have hms17_0 := NB138_133.out
   have hms17_1 := NB138_134.out
   refine skip_ (w1 := ?_) (by rfl) rfl ?_ ?_
   rotate_left
   ·go_simp
    rfl
   refine hK.out _ _ ⟨((jL (p := ⟨gb138, _, none⟩) NB133_138.out _).trans (((jL (p := ⟨gb138, _, none⟩) NB133_138.out _).trans (hHeld.1)))), ((jL (p := ⟨gb138, _, none⟩) NB133_138.out _).trans (((jL (p := ⟨gb138, _, none⟩) NB133_138.out _).trans (hHeld.2))))⟩ (fun hHeld => ?_)
   clear hK K
   refine done_ (done_of HT_.out zr) ?_
   try go_wp2
   have n0_ : Aside0 (Kd.R (Kd.int .i64) 2 ((w14.setCell ⟨gb138, 0, none⟩ (.int .i64 a0_0)).setCell ⟨gb138, 1, none⟩ (.slice Ao15 t135.length co15)) w.heap.size (fun _ => True) (.slice Ao15 t135.length co15) t135) := ⟨zT HO137 BK138⟩
   have n1_ : Aside0 (((w14.setCell ⟨gb138, 0, none⟩ (.int .i64 a0_0)).setCell ⟨gb138, 1, none⟩ (.slice Ao15 t135.length co15)).heap[gb133]? = some (.cells #[.int .i64 a0_0, .slice A0_1 l0_1.length c0_1] 28 (0, 0))) := ⟨zQ1 BK133 NB133_138⟩
   have n2_ : Aside0 (((w14.setCell ⟨gb138, 0, none⟩ (.int .i64 a0_0)).setCell ⟨gb138, 1, none⟩ (.slice Ao15 t135.length co15)).heap[gb134]? = some (.cells #[.int .i64 0, .slice none 0 0] 28 (0, 0))) := ⟨zQ1 BK134 NB134_138⟩
   have n3_ : Aside0 (((w14.setCell ⟨gb138, 0, none⟩ (.int .i64 a0_0)).setCell ⟨gb138, 1, none⟩ (.slice Ao15 t135.length co15)).heap[gb138]? = some (.cells #[.int .i64 a0_0, .slice Ao15 t135.length co15] 28 (0, 0))) := ⟨zP0 BK138⟩
   have n4_ : Aside0 (Below w.heap.size w ((w14.setCell ⟨gb138, 0, none⟩ (.int .i64 a0_0)).setCell ⟨gb138, 1, none⟩ (.slice Ao15 t135.length co15))) := ⟨zb3 HB GE133 GE134 GE138⟩
   (try clear HO137)
   (try clear BK133)
   (try clear BK134)
   (try clear BK138)
   (try clear HB)
   generalize ((w14.setCell ⟨gb138, 0, none⟩ (.int .i64 a0_0)).setCell ⟨gb138, 1, none⟩ (.slice Ao15 t135.length co15)) = w18 at n0_ n1_ n2_ n3_ n4_ ⊢
   have HO137 := n0_
   have BK133 := n1_
   have BK134 := n2_
   have BK138 := n3_
   have HB := n4_
   clear n0_ n1_ n2_ n3_ n4_
   replace HO137 := jA (jP HO137.out)
   replace BK133 := jA (blk_drew BK133.out)
   replace BK134 := jA (blk_drew BK134.out)
   replace BK138 := jA (blk_drew BK138.out)
   replace HB := jA (below_drew1 HB.out)
   have p139 : 0 ≤ (a1 : Int) := jD za
   have q139 : a1 < (t135.length : Int) := jD za
   obtain ⟨ad139, e139, hx139_0⟩ := Kd.at_int (jO HO137.out).2.2 a1 p139 q139
   cases e139
   replace p139 := eq_true p139
   replace q139 := eq_true q139
   have p7 : 0 ≤ (a1 : Int) := jD za
   have q7 : (a1 : Int) < ((t135.length : Int) : Int) := jD za
   obtain ⟨go7, co7, eo7, gb7, gl7, cl7, HG7⟩ := Kd.R_form HO137.out (by omega)
   (first | cases eo7 | (injection eo7 with ea_ en_ ec_; (first | subst ea_ | (injection ea_ with ea_; subst ea_)); subst ec_; clear en_))
   have GB7 := jA gb7
   have GG7 := jA HG7
   clear gb7 gl7 HG7
   (first | simp only [add_plain] at hx139_0 | skip)
   obtain ⟨hx7_0, hf7_0⟩ := Kd.R_celln 0 HO137.out (a1 : Int) p7 q7
   replace p7 := eq_true p7
   replace q7 := eq_true q7
   have HP20 := Kd.R_putn HO137.out (a1 : Int) (wrap64 ((rd t135 a1) + a2))
   rw [← Ny140.out] at HP20
   have HQ20 := jA HP20
   clear HP20
   refine start_ (n := 12) (S := fun w' => w'.cell? ⟨gb138, 0, none⟩ = some (.int .i64 a0_0) ∧ w'.cell? ⟨gb138, 1, none⟩ = some (.slice (some ⟨go7, 0, none⟩) t135.length co15) ∧ w'.cell? ⟨go7, (a1).toNat, none⟩ = some (.int .i64 (rd t135 a1))) (ds := [11]) #[false, false, false, false, false, false, false, false, false, false, false, false] zr rfl rfl ⟨(jF BK138.out 0).trans rfl, (jF BK138.out 1).trans rfl, hx139_0⟩ (fun hHeld => ?_); refine with_tabW spec_l26With.tab2 spec_l26With.bits2 (fun HT_ HW_ => ?_)
   generalize w18.drew = w19 at HO137 BK133 BK134 BK138 HB GG7 HQ20 hf7_0 hx139_0 hx7_0 hHeld ⊢
   refine zp HT_ 0 14 #[true, false, false, false, false, false, false, false, false, false, false, false] ?_
   refine zp HT_ 2 16 #[true, false, true, false, false, false, false, false, false, false, false, false] ?_
   refine zp HT_ 3 17 #[true, false, true, true, false, false, false, false, false, false, false, false] ?_
   refine zp HT_ 5 19 #[true, false, true, true, false, true, false, false, false, false, false, false] ?_
   refine zp HT_ 8 22 #[true, false, true, true, false, true, false, false, true, false, false, false] ?_
   refine zt3 HT_ HW_ hHeld 1 15 #[true, true, true, true, false, true, false, false, true, false, false, false] ?_
   refine zt3 HT_ HW_ hHeld 4 18 #[true, true, true, true, true, true, false, false, true, false, false, false] ?_
   refine zp HT_ 6 20 #[true, true, true, true, true, true, true, false, true, false, false, false] ?_
   refine zt3 HT_ HW_ hHeld 7 21 #[true, true, true, true, true, true, true, true, true, false, false, false] ?_
   refine zp HT_ 9 23 #[true, true, true, true, true, true, true, true, true, true, false, false] ?_
   refine zp HT_ 10 24 #[true, true, true, true, true, true, true, true, true, true, true, false] ?_
   refine last_ (i := 11) (N := none) #[true, true, true, true, true, true, true, true, true, true, true, true] rfl rfl (one_of HT_.out zr) (by decide) (fun K hK => ?_)
   refine skip_ (w1 := ?_) (by rfl) rfl ?_ ?_
   rotate_left
   ·go_simp
    rfl
   refine hK.out _ _ ?_
   clear hK K
   refine done_ (done_of HT_.out zr) ?_
   have n0_ : Aside0 (Kd.R (Kd.int .i64) 2 (w19.setCell ⟨go7, (a1 : Int).toNat, none⟩ (.int .i64 (wrap64 ((rd t135 a1) + a2)))) w.heap.size (fun _ => True) (.slice (some ⟨go7, 0, none⟩) t135.length co15) y140) := ⟨by (with_reducible repeat (first | apply jR | apply jQ | apply jP)); exact HQ20.out⟩
   have n1_ : Aside0 ((w19.setCell ⟨go7, (a1 : Int).toNat, none⟩ (.int .i64 (wrap64 ((rd t135 a1) + a2)))).heap[gb133]? = some (.cells #[.int .i64 a0_0, .slice A0_1 l0_1.length c0_1] 28 (0, 0))) := ⟨by (with_reducible repeat (first | refine blk_drewN ?_ _ | refine blk_drew ?_ | refine blk_alloc ?_ _)); refine blk_far ?_ (by have h_ := Kd.R_ne HO137.out BK133.out (by decide); intro e_; exact h_ (by rw [e_]; rfl)) _; (with_reducible repeat (first | refine blk_drewN ?_ _ | refine blk_drew ?_ | refine blk_alloc ?_ _)); exact BK133.out⟩
   have n2_ : Aside0 ((w19.setCell ⟨go7, (a1 : Int).toNat, none⟩ (.int .i64 (wrap64 ((rd t135 a1) + a2)))).heap[gb134]? = some (.cells #[.int .i64 0, .slice none 0 0] 28 (0, 0))) := ⟨by (with_reducible repeat (first | refine blk_drewN ?_ _ | refine blk_drew ?_ | refine blk_alloc ?_ _)); refine blk_far ?_ (by have h_ := Kd.R_ne HO137.out BK134.out (by decide); intro e_; exact h_ (by rw [e_]; rfl)) _; (with_reducible repeat (first | refine blk_drewN ?_ _ | refine blk_drew ?_ | refine blk_alloc ?_ _)); exact BK134.out⟩
   have n3_ : Aside0 ((w19.setCell ⟨go7, (a1 : Int).toNat, none⟩ (.int .i64 (wrap64 ((rd t135 a1) + a2)))).heap[gb138]? = some (.cells #[.int .i64 a0_0, .slice (some ⟨go7, 0, none⟩) t135.length co15] 28 (0, 0))) := ⟨by (with_reducible repeat (first | refine blk_drewN ?_ _ | refine blk_drew ?_ | refine blk_alloc ?_ _)); refine blk_far ?_ (by have h_ := Kd.R_ne HO137.out BK138.out (by decide); intro e_; exact h_ (by rw [e_]; rfl)) _; (with_reducible repeat (first | refine blk_drewN ?_ _ | refine blk_drew ?_ | refine blk_alloc ?_ _)); exact BK138.out⟩
   have n4_ : Aside0 (Below w.heap.size w (w19.setCell ⟨go7, (a1 : Int).toNat, none⟩ (.int .i64 (wrap64 ((rd t135 a1) + a2))))) := ⟨zr0 HB GB7 GE133 GE134 GE138⟩
   (try clear HO137)
   (try clear BK133)
   (try clear BK134)
   (try clear BK138)
   (try clear HB)
   generalize (w19.setCell ⟨go7, (a1 : Int).toNat, none⟩ (.int .i64 (wrap64 ((rd t135 a1) + a2)))) = w21 at n0_ n1_ n2_ n3_ n4_ ⊢
   have HO137 := n0_
   have BK133 := n1_
   have BK134 := n2_
   have BK138 := n3_
   have HB := n4_
   clear n0_ n1_ n2_ n3_ n4_
   have hnb22 := NB138_133.out
   have hnc22 := NB133_138.out
   have hnb23 := NB138_134.out
   have hnc23 := NB134_138.out
   have hcz24 := zc2 BK138
   have hnb25 := NB134_133.out
   have hnc25 := NB133_134.out
   have hcz26 := zc2 BK134
   try go_wp2
   refine jX (results_cell_row rfl _ _ gb134 28 #[.int .i64 a0_0, .slice (some ⟨go7, 0, none⟩) t135.length co15] (0, 0) _ rfl (zP0 BK134) Try.underlying28 rfl zr) rfl ?_
   exact ⟨_, ze, zT HO137 BK134, zb3 HB GE133 GE134 GE138⟩
  ·rw [if_neg c6] at H
   exact absurd H (by simp)
 ·rw [if_neg c5] at H
  exact absurd H (by simp)

end Go.Proofs.Ytdgglhfnlljmeaa.PFnMoved
