/- Functions and contracts that FnMoved reaches (8 of 29). -/
import Derived.Test.YtdgglhfnlljmeaaQFnMovedx6
namespace Go.Proofs.Ytdgglhfnlljmeaa.PFnMoved
open Go.RowKit Go.Proofs.YtdgglhfnlljmeaaW.PrintWords Go.Proofs.YtdgglhfnlljmeaaW.PrintLast Go.Proofs.YtdgglhfnlljmeaaW.PrintMore
attribute [local go_sem] max2_int min2_int max_two min_two max_three min_three max_four min_four   -- for this text's walks alone
set_option linter.unusedVariables false
set_option linter.unusedSimpArgs false

/-! ### spec_MovePieces: function 15 -/
def spec_MovePieces.f (k : Nat) (l0 : List (S65)) (a1_0 : Int) (l1_1 : List Int) (a2_0 : Int) (l2_1 : List Int) (a3 : ByteArray) (a4 : Int) : Option (Int × List Int × Int × List Int × Int) := (spec_IsMagazine.f k l0 a2_0 l2_1).bind fun t177 => (if t177 = true then ((spec_TakePieces.f k l0 a1_0 l1_1 a3 a4).bind fun bt178 => (if bt178.2.2 = 0 then ((spec_StorePieces.f k l0 a2_0 l2_1 a3 a4).bind fun bt184 => (if bt184.2.2 = 0 then (some (bt178.1, bt178.2.1, bt184.1, bt184.2.1, 0)) else (some (0, ([] : List Int), 0, ([] : List Int), bt184.2.2)))) else (some (0, ([] : List Int), 0, ([] : List Int), bt178.2.2)))) else (some (0, ([] : List Int), 0, ([] : List Int), 1)))
theorem spec_MovePieces.mono : ∀ a0 a1 a2 a3 a4 a5 a6 k, LeO (spec_MovePieces.f k a0 a1 a2 a3 a4 a5 a6) (spec_MovePieces.f (k + 1) a0 a1 a2 a3 a4 a5 a6) := by
 intro a0 a1 a2 a3 a4 a5 a6 k
 unfold spec_MovePieces.f
 repeat' first
   | (with_reducible exact spec_IsMagazine.mono _ _ _ _)
   | (with_reducible exact spec_StorePieces.mono _ _ _ _ _ _)
   | (with_reducible exact spec_TakePieces.mono _ _ _ _ _ _)
   | (with_reducible exact LeO.refl _)
   | (with_reducible exact LeO.none _)
   | (with_reducible refine LeO.ite ?_ ?_)
   | (with_reducible refine LeO.bind ?_ (fun _ => ?_))
   | exact spec_IsMagazine.mono _ _ _ _
   | exact spec_StorePieces.mono _ _ _ _ _ _
   | exact spec_TakePieces.mono _ _ _ _ _ _
   | exact LeO.none _
   | refine LeO.ite ?_ ?_
   | refine LeO.bind ?_ (fun _ => ?_)
set_option maxHeartbeats 8000000 in
set_option maxRecDepth 100000 in
theorem spec_MovePieces.calls (k : Nat) (A0 : Option Addr) (c0 : Nat) (l0 : List (S65)) (a1_0 : Int) (A1_1 : Option Addr) (c1_1 : Nat) (l1_1 : List Int) (a2_0 : Int) (A2_1 : Option Addr) (c2_1 : Nat) (l2_1 : List Int) (a3 : ByteArray) (a4 : Int) (r1 : Int) (r2 : List Int) (r3 : Int) (r4 : List Int) (r5 : Int) (w : World) (hr0 : Kd.C k65 w A0 l0.length l0) (hc0 : l0.length ≤ c0) (hr1_1 : Kd.C (Kd.int .i64) w A1_1 l1_1.length l1_1) (hc1_1 : l1_1.length ≤ c1_1) (hr2_1 : Kd.C (Kd.int .i64) w A2_1 l2_1.length l2_1) (hc2_1 : l2_1.length ≤ c2_1) (h : spec_MovePieces.f k l0 a1_0 l1_1 a2_0 l2_1 a3 a4 = some (r1, r2, r3, r4, r5)) :
  Calls Try.prog 15 #[.slice A0 l0.length c0, .agg #[.int .i64 a1_0, .slice A1_1 l1_1.length c1_1], .agg #[.int .i64 a2_0, .slice A2_1 l2_1.length c2_1], .string a3, .int .i64 a4] w fun e w' => ∃ v1_ v3_ : Value, e = .returned (.tuple #[.agg #[.int .i64 r1, v1_], .agg #[.int .i64 r3, v3_], .int .i64 r5]) ∧ Kd.R (Kd.int .i64) 2 w' w.heap.size (fun k_ => some k_ ≠ (v3_ : Value).ownBlock) v1_ r2 ∧ Kd.R (Kd.int .i64) 2 w' w.heap.size (fun k_ => some k_ ≠ (v1_ : Value).ownBlock) v3_ r4 ∧ Below w.heap.size w w' := by
 have hu28 := Try.underlying28
 have HR0 := jA hr0
 have HC0 := jA hc0
 clear hr0 hc0
 have HR1_1 := jA hr1_1
 have HC1_1 := jA hc1_1
 clear hr1_1 hc1_1
 have HR2_1 := jA hr2_1
 have HC2_1 := jA hc2_1
 clear hr2_1 hc2_1
 have HB := jA (Below.refl w.heap.size w)
 have H := h
 unfold spec_MovePieces.f at H
 clear h
 replace H := jB.mp H
 obtain ⟨t177, A60, H⟩ := H
 try dsimp only at H
 have A6 := jA A60
 clear A60
 by_cases c7 : t177 = true
 ·subst c7
  rw [if_pos rfl] at H
  replace H := jB.mp H
  obtain ⟨⟨t178, t179, t182⟩, A80, H⟩ := H
  try dsimp only at H
  have A8 := jA A80
  clear A80
  by_cases c9 : t182 = 0
  ·rw [if_pos c9] at H
   have c9b0 : (t182 == 0) = true := beq_iff_eq.mpr c9
   have c9b1 : (t182 != 0) = false := bne_eq_false_iff_eq.mpr c9
   clear c9
   replace H := jB.mp H
   obtain ⟨⟨t184, t185, t188⟩, A100, H⟩ := H
   try dsimp only at H
   have A10 := jA A100
   clear A100
   by_cases c11 : t188 = 0
   ·rw [if_pos c11] at H
    have c11b0 : (t188 == 0) = true := beq_iff_eq.mpr c11
    have c11b1 : (t188 != 0) = false := bne_eq_false_iff_eq.mpr c11
    clear c11
    simp only [jM, jS] at H
    obtain ⟨rfl, rfl, rfl, rfl, rfl⟩ := H
    go_enter Try.func15, Try.ntmps15
    try go_wp2_with (first | ((with_reducible refine jJ (N := 6) rfl ?_); refine zE 6 #[.int .i64 a1_0, .slice A1_1 l1_1.length c1_1] 28 ?_; intro gb173 hg w12 hbox hb; have BK173 := jA (hbox); have GW173 := zg0 hg HB; have GE173 := zg0 hg HB; replace HB := zS0 HB hb; clear hb hbox hg) | ((with_reducible refine jJ (N := 7) rfl ?_); refine zE 7 #[.int .i64 a2_0, .slice A2_1 l2_1.length c2_1] 28 ?_; intro gb174 hg w13 hbox hb; have BK174 := jA (hbox); have GW174 := zg1 hg HB GE173; have GE174 := zg1 hg HB GE173; replace HB := zS1 HB GE173 hb; have NB173_174 := zn hg BK173; replace BK173 := zB BK173 hb; have NB174_173 := jA NB173_174.out.symm; clear hb hbox hg) | ((with_reducible refine jJ (N := 10) rfl ?_); refine zE 10 #[.int .i64 0, .slice none 0 0] 28 ?_; intro gb175 hg w14 hbox hb; have BK175 := jA (hbox); have GW175 := zg2 hg HB GE173 GE174; have GE175 := zg2 hg HB GE173 GE174; replace HB := zS2 HB GE173 GE174 hb; have NB173_175 := zn hg BK173; replace BK173 := zB BK173 hb; have NB175_173 := jA NB173_175.out.symm; have NB174_175 := zn hg BK174; replace BK174 := zB BK174 hb; have NB175_174 := jA NB174_175.out.symm; clear hb hbox hg) | ((with_reducible refine jJ (N := 11) rfl ?_); refine zE 11 #[.int .i64 0, .slice none 0 0] 28 ?_; intro gb176 hg w15 hbox hb; have BK176 := jA (hbox); have GW176 := zg3 hg HB GE173 GE174 GE175; have GE176 := zg3 hg HB GE173 GE174 GE175; replace HB := zS3 HB GE173 GE174 GE175 hb; have NB173_176 := zn hg BK173; replace BK173 := zB BK173 hb; have NB176_173 := jA NB173_176.out.symm; have NB174_176 := zn hg BK174; replace BK174 := zB BK174 hb; have NB176_174 := jA NB174_176.out.symm; have NB175_176 := zn hg BK175; replace BK175 := zB BK175 hb; have NB176_175 := jA NB175_176.out.symm; clear hb hbox hg; have hnb16 := NB174_173.out; have hnc16 := NB173_174.out; have hnb17 := NB174_175.out; have hnc17 := NB175_174.out; have hnb18 := NB174_176.out; have hnc18 := NB176_174.out; have hcz19 := zc2 BK174) | ((with_reducible refine jG (f := 25) rfl ?_); refine zL (some 19) Try.func25 #[.slice A0 l0.length c0, .agg #[.int .i64 a2_0, .slice A2_1 l2_1.length c2_1]] ?_; (with_reducible refine (spec_IsMagazine.calls k _ _ l0 a2_0 _ _ l2_1 true _ ?side1 ?side2 ?side3 ?side4 A6.out).mono ?_); (case side1 => exact zs HR0 HB); (case side2 => exact HC0.out); (case side3 => exact zs HR2_1 HB); (case side4 => exact HC2_1.out); rintro e w20 ⟨rfl, hb⟩; refine ⟨_, rfl, ?_⟩; replace BK173 := zB BK173 hb; replace BK174 := zB BK174 hb; replace BK175 := zB BK175 hb; replace BK176 := zB BK176 hb; replace HB := zS4 HB GE173 GE174 GE175 GE176 hb; clear hb; have hnb21 := NB173_175.out; have hnc21 := NB175_173.out; have hnb22 := NB173_176.out; have hnc22 := NB176_173.out; have hcz23 := zc2 BK173) | ((with_reducible refine jG (f := 35) rfl ?_); refine zL (some 28) Try.func35 #[.slice A0 l0.length c0, .agg #[.int .i64 a1_0, .slice A1_1 l1_1.length c1_1], .string a3, .int .i64 a4] ?_; (with_reducible refine (spec_TakePieces.calls k _ _ l0 a1_0 _ _ l1_1 a3 a4 t178 t179 t182 _ ?side1 ?side2 ?side3 ?side4 A8.out).mono ?_); (case side1 => exact zs HR0 HB); (case side2 => exact HC0.out); (case side3 => exact zs HR1_1 HB); (case side4 => exact HC1_1.out); rintro e w24 ⟨v180, rfl, ho0, hb⟩; refine ⟨_, rfl, ?_⟩; have HO181 := jA (jU ho0 (jW (zb4 HB GE173 GE174 GE175 GE176))); replace BK173 := zB BK173 hb; replace BK174 := zB BK174 hb; replace BK175 := zB BK175 hb; replace BK176 := zB BK176 hb; replace HB := zS4 HB GE173 GE174 GE175 GE176 hb; (try clear hb); (try clear hb2); (try clear hk); (try clear hi); (try clear ho0)) | ((with_reducible refine jJ (N := 13) rfl ?_); refine zE 13 #[.int .i64 0, .slice none 0 0] 28 ?_; intro gb183 hg w25 hbox hb; replace HO181 := jA (jE (zo HO181) hb); have BK183 := jA (hbox); have GW183 := zg4 hg HB GE173 GE174 GE175 GE176; have GE183 := zg4 hg HB GE173 GE174 GE175 GE176; replace HB := zS4 HB GE173 GE174 GE175 GE176 hb; have NB173_183 := zn hg BK173; replace BK173 := zB BK173 hb; have NB183_173 := jA NB173_183.out.symm; have NB174_183 := zn hg BK174; replace BK174 := zB BK174 hb; have NB183_174 := jA NB174_183.out.symm; have NB175_183 := zn hg BK175; replace BK175 := zB BK175 hb; have NB183_175 := jA NB175_183.out.symm; have NB176_183 := zn hg BK176; replace BK176 := zB BK176 hb; have NB183_176 := jA NB176_183.out.symm; clear hb hbox hg; have hnb26 := NB183_173.out; have hnc26 := NB173_183.out; have hnb27 := NB183_174.out; have hnc27 := NB174_183.out; have hnb28 := NB183_175.out; have hnc28 := NB175_183.out; have hnb29 := NB183_176.out; have hnc29 := NB176_183.out; have hcz30 := zc2 BK183; obtain ⟨Ao31, co31, eo31⟩ := Kd.R_slice HO181.out; subst eo31; have hcz32 := zc2 BK174) | ((with_reducible refine jG (f := 40) rfl ?_); refine zL (some 41) Try.func40 #[.slice A0 l0.length c0, .agg #[.int .i64 a2_0, .slice A2_1 l2_1.length c2_1], .string a3, .int .i64 a4] ?_; (with_reducible refine (spec_StorePieces.calls k _ _ l0 a2_0 _ _ l2_1 a3 a4 t184 t185 t188 _ ?side1 ?side2 ?side3 ?side4 A10.out).mono ?_); (case side1 => exact Kd.C_below HR0.out (zb5 HB GE173 GE174 GE175 GE176 GE183)); (case side2 => exact HC0.out); (case side3 => exact Kd.C_below HR2_1.out (zb5 HB GE173 GE174 GE175 GE176 GE183)); (case side4 => exact HC2_1.out); rintro e w33 ⟨v186, rfl, ho0, hb⟩; refine ⟨_, rfl, ?_⟩; have HO187 := jA (jU (Kd.R_new' ho0 (Kd.R_lt (zU HO181 BK183))) (jW (zb5 HB GE173 GE174 GE175 GE176 GE183))); replace HO181 := jA (Kd.R_elder' (zU HO181 BK183) (Kd.R_base ho0) hb); replace BK173 := jA (jT (g := gb173) (o := .cells #[.int .i64 a1_0, .slice A1_1 l1_1.length c1_1] 28 (0, 0)) (zQ1 BK173 NB173_183) hb); replace BK174 := jA (jT (g := gb174) (o := .cells #[.int .i64 a2_0, .slice A2_1 l2_1.length c2_1] 28 (0, 0)) (zQ1 BK174 NB174_183) hb); replace BK175 := jA (jT (g := gb175) (o := .cells #[.int .i64 0, .slice none 0 0] 28 (0, 0)) (zQ1 BK175 NB175_183) hb); replace BK176 := jA (jT (g := gb176) (o := .cells #[.int .i64 0, .slice none 0 0] 28 (0, 0)) (zQ1 BK176 NB176_183) hb); replace BK183 := jA (jT (g := gb183) (o := .cells #[.int .i64 t178, .slice Ao31 t179.length co31] 28 (0, 0)) (zP0 BK183) hb); replace HB := zS5 HB GE173 GE174 GE175 GE176 GE183 hb; (try clear hb); (try clear hb2); (try clear hk); (try clear hi); (try clear ho0)) | ((with_reducible refine jJ (N := 15) rfl ?_); refine zE 15 #[.int .i64 0, .slice none 0 0] 28 ?_; intro gb189 hg w34 hbox hb; replace HO181 := jA (jE (zo HO181) hb); replace HO187 := jA (jE (zo HO187) hb); have BK189 := jA (hbox); have GW189 := zg5 hg HB GE173 GE174 GE175 GE176 GE183; have GE189 := zg5 hg HB GE173 GE174 GE175 GE176 GE183; replace HB := zS5 HB GE173 GE174 GE175 GE176 GE183 hb; have NB173_189 := zn hg BK173; replace BK173 := zB BK173 hb; have NB189_173 := jA NB173_189.out.symm; have NB174_189 := zn hg BK174; replace BK174 := zB BK174 hb; have NB189_174 := jA NB174_189.out.symm; have NB175_189 := zn hg BK175; replace BK175 := zB BK175 hb; have NB189_175 := jA NB175_189.out.symm; have NB176_189 := zn hg BK176; replace BK176 := zB BK176 hb; have NB189_176 := jA NB176_189.out.symm; have NB183_189 := zn hg BK183; replace BK183 := zB BK183 hb; have NB189_183 := jA NB183_189.out.symm; clear hb hbox hg; have hnb35 := NB189_173.out; have hnc35 := NB173_189.out; have hnb36 := NB189_174.out; have hnc36 := NB174_189.out; have hnb37 := NB189_175.out; have hnc37 := NB175_189.out; have hnb38 := NB189_176.out; have hnc38 := NB176_189.out; have hnb39 := NB189_183.out; have hnc39 := NB183_189.out; have hcz40 := zc2 BK189; obtain ⟨Ao41, co41, eo41⟩ := Kd.R_slice HO187.out; subst eo41))
    have n0_ : Aside0 (Kd.R (Kd.int .i64) 2 ((w34.setCell ⟨gb189, 0, none⟩ (.int .i64 t184)).setCell ⟨gb189, 1, none⟩ (.slice Ao41 t185.length co41)) w.heap.size (fun k_ => some k_ ≠ (.slice Ao41 t185.length co41 : Value).ownBlock) (.slice Ao31 t179.length co31) t179) := ⟨by (with_reducible repeat (first | apply jR | apply jQ | apply jP)); exact Kd.R_mono (Kd.R_far (p := ⟨gb189, 1, none⟩) (Kd.R_far (p := ⟨gb189, 0, none⟩) (Kd.R_types HO181.out BK189.out (by decide)) (fun _ hk => hk.2) (.int .i64 t184)) (fun _ hk => hk.2) (.slice Ao41 t185.length co41)) (fun _ hk => hk.1.2)⟩
    have n1_ : Aside0 (Kd.R (Kd.int .i64) 2 ((w34.setCell ⟨gb189, 0, none⟩ (.int .i64 t184)).setCell ⟨gb189, 1, none⟩ (.slice Ao41 t185.length co41)) w.heap.size (fun k_ => some k_ ≠ (.slice Ao31 t179.length co31 : Value).ownBlock) (.slice Ao41 t185.length co41) t185) := ⟨by (with_reducible repeat (first | apply jR | apply jQ | apply jP)); exact Kd.R_mono (Kd.R_far (p := ⟨gb189, 1, none⟩) (Kd.R_far (p := ⟨gb189, 0, none⟩) (Kd.R_types HO187.out BK189.out (by decide)) (fun _ hk => hk.2) (.int .i64 t184)) (fun _ hk => hk.2) (.slice Ao41 t185.length co41)) (fun _ hk => hk.1.2)⟩
    have n2_ : Aside0 (((w34.setCell ⟨gb189, 0, none⟩ (.int .i64 t184)).setCell ⟨gb189, 1, none⟩ (.slice Ao41 t185.length co41)).heap[gb173]? = some (.cells #[.int .i64 a1_0, .slice A1_1 l1_1.length c1_1] 28 (0, 0))) := ⟨zQ1 BK173 NB173_189⟩
    have n3_ : Aside0 (((w34.setCell ⟨gb189, 0, none⟩ (.int .i64 t184)).setCell ⟨gb189, 1, none⟩ (.slice Ao41 t185.length co41)).heap[gb174]? = some (.cells #[.int .i64 a2_0, .slice A2_1 l2_1.length c2_1] 28 (0, 0))) := ⟨zQ1 BK174 NB174_189⟩
    have n4_ : Aside0 (((w34.setCell ⟨gb189, 0, none⟩ (.int .i64 t184)).setCell ⟨gb189, 1, none⟩ (.slice Ao41 t185.length co41)).heap[gb175]? = some (.cells #[.int .i64 0, .slice none 0 0] 28 (0, 0))) := ⟨zQ1 BK175 NB175_189⟩
    have n5_ : Aside0 (((w34.setCell ⟨gb189, 0, none⟩ (.int .i64 t184)).setCell ⟨gb189, 1, none⟩ (.slice Ao41 t185.length co41)).heap[gb176]? = some (.cells #[.int .i64 0, .slice none 0 0] 28 (0, 0))) := ⟨zQ1 BK176 NB176_189⟩
    have n6_ : Aside0 (((w34.setCell ⟨gb189, 0, none⟩ (.int .i64 t184)).setCell ⟨gb189, 1, none⟩ (.slice Ao41 t185.length co41)).heap[gb183]? = some (.cells #[.int .i64 t178, .slice Ao31 t179.length co31] 28 (0, 0))) := ⟨zQ1 BK183 NB183_189⟩
    have n7_ : Aside0 (((w34.setCell ⟨gb189, 0, none⟩ (.int .i64 t184)).setCell ⟨gb189, 1, none⟩ (.slice Ao41 t185.length co41)).heap[gb189]? = some (.cells #[.int .i64 t184, .slice Ao41 t185.length co41] 28 (0, 0))) := ⟨zP0 BK189⟩
    have n8_ : Aside0 (Below w.heap.size w ((w34.setCell ⟨gb189, 0, none⟩ (.int .i64 t184)).setCell ⟨gb189, 1, none⟩ (.slice Ao41 t185.length co41))) := ⟨zb6 HB GE173 GE174 GE175 GE176 GE183 GE189⟩
    (try clear HO181)
    (try clear HO187)
    (try clear BK173)
    (try clear BK174)
    (try clear BK175)
    (try clear BK176)
    (try clear BK183)
    (try clear BK189)
    (try clear HB)
    generalize ((w34.setCell ⟨gb189, 0, none⟩ (.int .i64 t184)).setCell ⟨gb189, 1, none⟩ (.slice Ao41 t185.length co41)) = w42 at n0_ n1_ n2_ n3_ n4_ n5_ n6_ n7_ n8_ ⊢
    have HO181 := n0_
    have HO187 := n1_
    have BK173 := n2_
    have BK174 := n3_
    have BK175 := n4_
    have BK176 := n5_
    have BK183 := n6_
    have BK189 := n7_
    have HB := n8_
    clear n0_ n1_ n2_ n3_ n4_ n5_ n6_ n7_ n8_
    replace HO181 := jA (jP HO181.out)
    replace HO187 := jA (jP HO187.out)
    replace BK173 := jA (blk_drew BK173.out)
    replace BK174 := jA (blk_drew BK174.out)
    replace BK175 := jA (blk_drew BK175.out)
    replace BK176 := jA (blk_drew BK176.out)
    replace BK183 := jA (blk_drew BK183.out)
    replace BK189 := jA (blk_drew BK189.out)
    replace HB := jA (below_drew1 HB.out)
    refine start_ (n := 5) (S := fun w' => w'.cell? ⟨gb183, 0, none⟩ = some (.int .i64 t178) ∧ w'.cell? ⟨gb183, 1, none⟩ = some (.slice Ao31 t179.length co31) ∧ w'.cell? ⟨gb189, 0, none⟩ = some (.int .i64 t184) ∧ w'.cell? ⟨gb189, 1, none⟩ = some (.slice Ao41 t185.length co41)) (ds := []) #[false, false, false, false, false] zr rfl rfl ⟨(jF BK183.out 0).trans rfl, (jF BK183.out 1).trans rfl, (jF BK189.out 0).trans rfl, (jF BK189.out 1).trans rfl⟩ (fun hHeld => ?_)
    generalize w42.drew = w43 at HO181 HO187 BK173 BK174 BK175 BK176 BK183 BK189 HB hHeld ⊢
    refine take_ (i := 0) (N := some 49) (v := ?_) (a' := ?_) #[true, false, false, false, false] rfl rfl zr (fun _ _ _ h => h) (Or.inl ⟨by rfl, ?_⟩) hHeld ?_ ?_
    rotate_left
    ·rintro w' ⟨s0, s1, s2, s3⟩
     go_simp
     with_reducible rfl
    rotate_left
    ·simp only [Act.put, jC, jH, jI, i64_w, i32_w]
     rfl
    refine take_ (i := 1) (N := some 50) (v := ?_) (a' := ?_) #[true, true, false, false, false] rfl rfl zr (fun _ _ _ h => h) (Or.inl ⟨by rfl, ?_⟩) hHeld ?_ ?_
    rotate_left
    ·rintro w' ⟨s0, s1, s2, s3⟩
     go_simp
     with_reducible rfl
    rotate_left
    ·simp only [Act.put, jC, jH, jI, i64_w, i32_w]
     rfl
    refine one_ (i := 2) (N := none) #[true, true, true, false, false] rfl rfl zr (by decide) (fun K hK => ?_)
    have hs44 : w43.cell? ⟨gb175, 0, none⟩ = some (.int .i64 0) := (jF BK175.out 0).trans rfl
    have hfs44 := blk_frozen BK175.out 0
    have hns44_0 := NB173_175.out
    have hns44_1 := NB174_175.out
    have hns44_3 := NB176_175.out
    have hns44_4 := NB183_175.out
    have hns44_5 := NB189_175.out
    have hms44_0 := NB175_173.out
    have hms44_1 := NB175_174.out
    have hms44_3 := NB175_176.out
    have hms44_4 := NB175_183.out
    have hms44_5 := NB175_189.out
    have hs45 : w43.cell? ⟨gb175, 1, none⟩ = some (.slice none 0 0) := (jF BK175.out 1).trans rfl
    have hfs45 := blk_frozen BK175.out 1
    have hns45_0 := NB173_175.out
    have hns45_1 := NB174_175.out
    have hns45_3 := NB176_175.out
    have hns45_4 := NB183_175.out
    have hns45_5 := NB189_175.out
    have hms45_0 := NB175_173.out
    have hms45_1 := NB175_174.out
    have hms45_3 := NB175_176.out
    have hms45_4 := NB175_183.out
    have hms45_5 := NB175_189.out
    refine skip_ (w1 := ?_) (by rfl) rfl ?_ ?_
    rotate_left
    ·go_simp
     rfl
    refine hK.out _ _ ⟨((jL (p := ⟨gb175, _, none⟩) NB183_175.out _).trans (((jL (p := ⟨gb175, _, none⟩) NB183_175.out _).trans (hHeld.1)))), ((jL (p := ⟨gb175, _, none⟩) NB183_175.out _).trans (((jL (p := ⟨gb175, _, none⟩) NB183_175.out _).trans (hHeld.2.1)))), ((jL (p := ⟨gb175, _, none⟩) NB189_175.out _).trans (((jL (p := ⟨gb175, _, none⟩) NB189_175.out _).trans (hHeld.2.2.1)))), ((jL (p := ⟨gb175, _, none⟩) NB189_175.out _).trans (((jL (p := ⟨gb175, _, none⟩) NB189_175.out _).trans (hHeld.2.2.2))))⟩ (fun hHeld => ?_)
    clear hK K
    refine one_ (i := 3) (N := none) #[true, true, true, true, false] rfl rfl zr (by decide) (fun K hK => ?_)
    have hs46 : w43.cell? ⟨gb176, 0, none⟩ = some (.int .i64 0) := (jF BK176.out 0).trans rfl
    have hfs46 := blk_frozen BK176.out 0
    have hns46_0 := NB173_176.out
    have hns46_1 := NB174_176.out
    have hns46_2 := NB175_176.out
    have hns46_4 := NB183_176.out
    have hns46_5 := NB189_176.out
    have hms46_0 := NB176_173.out
    have hms46_1 := NB176_174.out
    have hms46_2 := NB176_175.out
    have hms46_4 := NB176_183.out
    have hms46_5 := NB176_189.out
    have hs47 : w43.cell? ⟨gb176, 1, none⟩ = some (.slice none 0 0) := (jF BK176.out 1).trans rfl
    have hfs47 := blk_frozen BK176.out 1
    have hns47_0 := NB173_176.out
    have hns47_1 := NB174_176.out
    have hns47_2 := NB175_176.out
    have hns47_4 := NB183_176.out
    have hns47_5 := NB189_176.out
    have hms47_0 := NB176_173.out
    have hms47_1 := NB176_174.out
    have hms47_2 := NB176_175.out
    have hms47_4 := NB176_183.out
    have hms47_5 := NB176_189.out
    refine skip_ (w1 := ?_) (by rfl) rfl ?_ ?_
    rotate_left
    ·go_simp
     rfl
    refine hK.out _ _ ⟨((jL (p := ⟨gb176, _, none⟩) NB183_176.out _).trans (((jL (p := ⟨gb176, _, none⟩) NB183_176.out _).trans (hHeld.1)))), ((jL (p := ⟨gb176, _, none⟩) NB183_176.out _).trans (((jL (p := ⟨gb176, _, none⟩) NB183_176.out _).trans (hHeld.2.1)))), ((jL (p := ⟨gb176, _, none⟩) NB189_176.out _).trans (((jL (p := ⟨gb176, _, none⟩) NB189_176.out _).trans (hHeld.2.2.1)))), ((jL (p := ⟨gb176, _, none⟩) NB189_176.out _).trans (((jL (p := ⟨gb176, _, none⟩) NB189_176.out _).trans (hHeld.2.2.2))))⟩ (fun hHeld => ?_)
    clear hK K
    refine pure_ (i := 4) (N := some 12) (v := ?_) (a' := ?_) #[true, true, true, true, true] rfl rfl zr (fun _ _ _ h => h) (Or.inl ⟨by rfl, ?_⟩) ?_ ?_
    rotate_left
    ·intro w'
     go_simp
     with_reducible rfl
    rotate_left
    ·simp only [Act.put, jC, jH, jI, i64_w, i32_w]
     rfl
    refine done_ zr ?_
    try go_wp2
    refine jX (results_list (rs := [.cell 10 28, .cell 11 28, .tmp 12]) rfl (by simp) (.cell gb175 28 #[.int .i64 t178, .slice Ao31 t179.length co31] (0, 0) _ rfl (zP1 BK175 NB175_176) Try.underlying28 rfl zr (.cell gb176 28 #[.int .i64 t184, .slice Ao41 t185.length co41] (0, 0) _ rfl (zP1 BK176 NB176_175) Try.underlying28 rfl zr (.tmp .nil)))) rfl ?_
    exact ⟨_, _, by first | rfl | (simp [errW_none, errW_some] <;> rfl) | (simp [*, errW_none, errW_some] <;> rfl), by (with_reducible repeat (first | apply jR | apply jQ | apply jP)); exact Kd.R_mono (Kd.R_far (p := ⟨gb176, 1, none⟩) (Kd.R_far (p := ⟨gb176, 0, none⟩) (Kd.R_far (p := ⟨gb175, 1, none⟩) (Kd.R_far (p := ⟨gb175, 0, none⟩) (Kd.R_types (Kd.R_types HO181.out BK175.out (by decide)) BK176.out (by decide)) (fun _ hk => hk.1.2) (.int .i64 t178)) (fun _ hk => hk.1.2) (.slice Ao31 t179.length co31)) (fun _ hk => hk.2) (.int .i64 t184)) (fun _ hk => hk.2) (.slice Ao41 t185.length co41)) (fun _ hk => hk.1.1), by (with_reducible repeat (first | apply jR | apply jQ | apply jP)); exact Kd.R_mono (Kd.R_far (p := ⟨gb176, 1, none⟩) (Kd.R_far (p := ⟨gb176, 0, none⟩) (Kd.R_far (p := ⟨gb175, 1, none⟩) (Kd.R_far (p := ⟨gb175, 0, none⟩) (Kd.R_types (Kd.R_types HO187.out BK175.out (by decide)) BK176.out (by decide)) (fun _ hk => hk.1.2) (.int .i64 t178)) (fun _ hk => hk.1.2) (.slice Ao31 t179.length co31)) (fun _ hk => hk.2) (.int .i64 t184)) (fun _ hk => hk.2) (.slice Ao41 t185.length co41)) (fun _ hk => hk.1.1), zb6 HB GE173 GE174 GE175 GE176 GE183 GE189⟩
   ·rw [if_neg c11] at H
    have c11b0 : (t188 == 0) = false := beq_eq_false_iff_ne.mpr c11
    have c11b1 : (t188 != 0) = true := bne_iff_ne.mpr c11
    simp only [jM, jS] at H
    obtain ⟨rfl, rfl, rfl, rfl, rfl⟩ := H
    go_enter Try.func15, Try.ntmps15
    go_wp2_with (first | ((with_reducible refine jJ (N := 6) rfl ?_); refine zE 6 #[.int .i64 a1_0, .slice A1_1 l1_1.length c1_1] 28 ?_; intro gb173 hg w48 hbox hb; have BK173 := jA (hbox); have GW173 := zg0 hg HB; have GE173 := zg0 hg HB; replace HB := zS0 HB hb; clear hb hbox hg) | ((with_reducible refine jJ (N := 7) rfl ?_); refine zE 7 #[.int .i64 a2_0, .slice A2_1 l2_1.length c2_1] 28 ?_; intro gb174 hg w49 hbox hb; have BK174 := jA (hbox); have GW174 := zg1 hg HB GE173; have GE174 := zg1 hg HB GE173; replace HB := zS1 HB GE173 hb; have NB173_174 := zn hg BK173; replace BK173 := zB BK173 hb; have NB174_173 := jA NB173_174.out.symm; clear hb hbox hg) | ((with_reducible refine jJ (N := 10) rfl ?_); refine zE 10 #[.int .i64 0, .slice none 0 0] 28 ?_; intro gb175 hg w50 hbox hb; have BK175 := jA (hbox); have GW175 := zg2 hg HB GE173 GE174; have GE175 := zg2 hg HB GE173 GE174; replace HB := zS2 HB GE173 GE174 hb; have NB173_175 := zn hg BK173; replace BK173 := zB BK173 hb; have NB175_173 := jA NB173_175.out.symm; have NB174_175 := zn hg BK174; replace BK174 := zB BK174 hb; have NB175_174 := jA NB174_175.out.symm; clear hb hbox hg) | ((with_reducible refine jJ (N := 11) rfl ?_); refine zE 11 #[.int .i64 0, .slice none 0 0] 28 ?_; intro gb176 hg w51 hbox hb; have BK176 := jA (hbox); have GW176 := zg3 hg HB GE173 GE174 GE175; have GE176 := zg3 hg HB GE173 GE174 GE175; replace HB := zS3 HB GE173 GE174 GE175 hb; have NB173_176 := zn hg BK173; replace BK173 := zB BK173 hb; have NB176_173 := jA NB173_176.out.symm; have NB174_176 := zn hg BK174; replace BK174 := zB BK174 hb; have NB176_174 := jA NB174_176.out.symm; have NB175_176 := zn hg BK175; replace BK175 := zB BK175 hb; have NB176_175 := jA NB175_176.out.symm; clear hb hbox hg; have hnb52 := NB174_173.out; have hnc52 := NB173_174.out; have hnb53 := NB174_175.out; have hnc53 := NB175_174.out; have hnb54 := NB174_176.out; have hnc54 := NB176_174.out; have hcz55 := zc2 BK174) | ((with_reducible refine jG (f := 25) rfl ?_); refine zL (some 19) Try.func25 #[.slice A0 l0.length c0, .agg #[.int .i64 a2_0, .slice A2_1 l2_1.length c2_1]] ?_; (with_reducible refine (spec_IsMagazine.calls k _ _ l0 a2_0 _ _ l2_1 true _ ?side1 ?side2 ?side3 ?side4 A6.out).mono ?_); (case side1 => exact zs HR0 HB); (case side2 => exact HC0.out); (case side3 => exact zs HR2_1 HB); (case side4 => exact HC2_1.out); rintro e w56 ⟨rfl, hb⟩; refine ⟨_, rfl, ?_⟩; replace BK173 := zB BK173 hb; replace BK174 := zB BK174 hb; replace BK175 := zB BK175 hb; replace BK176 := zB BK176 hb; replace HB := zS4 HB GE173 GE174 GE175 GE176 hb; clear hb; have hnb57 := NB173_175.out; have hnc57 := NB175_173.out; have hnb58 := NB173_176.out; have hnc58 := NB176_173.out; have hcz59 := zc2 BK173) | ((with_reducible refine jG (f := 35) rfl ?_); refine zL (some 28) Try.func35 #[.slice A0 l0.length c0, .agg #[.int .i64 a1_0, .slice A1_1 l1_1.length c1_1], .string a3, .int .i64 a4] ?_; (with_reducible refine (spec_TakePieces.calls k _ _ l0 a1_0 _ _ l1_1 a3 a4 t178 t179 t182 _ ?side1 ?side2 ?side3 ?side4 A8.out).mono ?_); (case side1 => exact zs HR0 HB); (case side2 => exact HC0.out); (case side3 => exact zs HR1_1 HB); (case side4 => exact HC1_1.out); rintro e w60 ⟨v180, rfl, ho0, hb⟩; refine ⟨_, rfl, ?_⟩; have HO181 := jA (jU ho0 (jW (zb4 HB GE173 GE174 GE175 GE176))); replace BK173 := zB BK173 hb; replace BK174 := zB BK174 hb; replace BK175 := zB BK175 hb; replace BK176 := zB BK176 hb; replace HB := zS4 HB GE173 GE174 GE175 GE176 hb; (try clear hb); (try clear hb2); (try clear hk); (try clear hi); (try clear ho0)) | ((with_reducible refine jJ (N := 13) rfl ?_); refine zE 13 #[.int .i64 0, .slice none 0 0] 28 ?_; intro gb183 hg w61 hbox hb; replace HO181 := jA (jE (zo HO181) hb); have BK183 := jA (hbox); have GW183 := zg4 hg HB GE173 GE174 GE175 GE176; have GE183 := zg4 hg HB GE173 GE174 GE175 GE176; replace HB := zS4 HB GE173 GE174 GE175 GE176 hb; have NB173_183 := zn hg BK173; replace BK173 := zB BK173 hb; have NB183_173 := jA NB173_183.out.symm; have NB174_183 := zn hg BK174; replace BK174 := zB BK174 hb; have NB183_174 := jA NB174_183.out.symm; have NB175_183 := zn hg BK175; replace BK175 := zB BK175 hb; have NB183_175 := jA NB175_183.out.symm; have NB176_183 := zn hg BK176; replace BK176 := zB BK176 hb; have NB183_176 := jA NB176_183.out.symm; clear hb hbox hg; have hnb62 := NB183_173.out; have hnc62 := NB173_183.out; have hnb63 := NB183_174.out; have hnc63 := NB174_183.out; have hnb64 := NB183_175.out; have hnc64 := NB175_183.out; have hnb65 := NB183_176.out; have hnc65 := NB176_183.out; have hcz66 := zc2 BK183; obtain ⟨Ao67, co67, eo67⟩ := Kd.R_slice HO181.out; subst eo67; have hcz68 := zc2 BK174) | ((with_reducible refine jG (f := 40) rfl ?_); refine zL (some 41) Try.func40 #[.slice A0 l0.length c0, .agg #[.int .i64 a2_0, .slice A2_1 l2_1.length c2_1], .string a3, .int .i64 a4] ?_; (with_reducible refine (spec_StorePieces.calls k _ _ l0 a2_0 _ _ l2_1 a3 a4 t184 t185 t188 _ ?side1 ?side2 ?side3 ?side4 A10.out).mono ?_); (case side1 => exact Kd.C_below HR0.out (zb5 HB GE173 GE174 GE175 GE176 GE183)); (case side2 => exact HC0.out); (case side3 => exact Kd.C_below HR2_1.out (zb5 HB GE173 GE174 GE175 GE176 GE183)); (case side4 => exact HC2_1.out); rintro e w69 ⟨v186, rfl, ho0, hb⟩; refine ⟨_, rfl, ?_⟩; have HO187 := jA (jU (Kd.R_new' ho0 (Kd.R_lt (zU HO181 BK183))) (jW (zb5 HB GE173 GE174 GE175 GE176 GE183))); replace HO181 := jA (Kd.R_elder' (zU HO181 BK183) (Kd.R_base ho0) hb); replace BK173 := jA (jT (g := gb173) (o := .cells #[.int .i64 a1_0, .slice A1_1 l1_1.length c1_1] 28 (0, 0)) (zQ1 BK173 NB173_183) hb); replace BK174 := jA (jT (g := gb174) (o := .cells #[.int .i64 a2_0, .slice A2_1 l2_1.length c2_1] 28 (0, 0)) (zQ1 BK174 NB174_183) hb); replace BK175 := jA (jT (g := gb175) (o := .cells #[.int .i64 0, .slice none 0 0] 28 (0, 0)) (zQ1 BK175 NB175_183) hb); replace BK176 := jA (jT (g := gb176) (o := .cells #[.int .i64 0, .slice none 0 0] 28 (0, 0)) (zQ1 BK176 NB176_183) hb); replace BK183 := jA (jT (g := gb183) (o := .cells #[.int .i64 t178, .slice Ao67 t179.length co67] 28 (0, 0)) (zP0 BK183) hb); replace HB := zS5 HB GE173 GE174 GE175 GE176 GE183 hb; (try clear hb); (try clear hb2); (try clear hk); (try clear hi); (try clear ho0)) | ((with_reducible refine jJ (N := 15) rfl ?_); refine zE 15 #[.int .i64 0, .slice none 0 0] 28 ?_; intro gb189 hg w70 hbox hb; replace HO181 := jA (jE (zo HO181) hb); replace HO187 := jA (jE (zo HO187) hb); have BK189 := jA (hbox); have GW189 := zg5 hg HB GE173 GE174 GE175 GE176 GE183; have GE189 := zg5 hg HB GE173 GE174 GE175 GE176 GE183; replace HB := zS5 HB GE173 GE174 GE175 GE176 GE183 hb; have NB173_189 := zn hg BK173; replace BK173 := zB BK173 hb; have NB189_173 := jA NB173_189.out.symm; have NB174_189 := zn hg BK174; replace BK174 := zB BK174 hb; have NB189_174 := jA NB174_189.out.symm; have NB175_189 := zn hg BK175; replace BK175 := zB BK175 hb; have NB189_175 := jA NB175_189.out.symm; have NB176_189 := zn hg BK176; replace BK176 := zB BK176 hb; have NB189_176 := jA NB176_189.out.symm; have NB183_189 := zn hg BK183; replace BK183 := zB BK183 hb; have NB189_183 := jA NB183_189.out.symm; clear hb hbox hg; have hnb71 := NB189_173.out; have hnc71 := NB173_189.out; have hnb72 := NB189_174.out; have hnc72 := NB174_189.out; have hnb73 := NB189_175.out; have hnc73 := NB175_189.out; have hnb74 := NB189_176.out; have hnc74 := NB176_189.out; have hnb75 := NB189_183.out; have hnc75 := NB183_189.out; have hcz76 := zc2 BK189; obtain ⟨Ao77, co77, eo77⟩ := Kd.R_slice HO187.out; subst eo77; have hnb78 := NB175_176.out; have hnc78 := NB176_175.out; have hcz79 := zc2 BK175; have hcz80 := zc2 BK176))
    refine jX (results_list (rs := [.cell 10 28, .cell 11 28, .tmp 12]) rfl (by simp) (.cell gb175 28 #[.int .i64 0, .slice none 0 0] (0, 0) _ rfl (zP2 BK175 NB175_176 NB175_189) Try.underlying28 rfl zr (.cell gb176 28 #[.int .i64 0, .slice none 0 0] (0, 0) _ rfl (zP2 BK176 NB176_175 NB176_189) Try.underlying28 rfl zr (.tmp .nil)))) rfl ?_
    exact ⟨_, _, by first | rfl | (simp [errW_none, errW_some] <;> rfl) | (simp [*, errW_none, errW_some] <;> rfl), by first | exact Kd.R_nil _ _ _ _ _ | exact Kd.N_nil _ _ _ _ _ | exact Kd.V_nil _ _ _ _ _ | exact Kd.Q_nil _ _ _ _ _ | exact Kd.S_nil _ _ _ _ _, by first | exact Kd.R_nil _ _ _ _ _ | exact Kd.N_nil _ _ _ _ _ | exact Kd.V_nil _ _ _ _ _ | exact Kd.Q_nil _ _ _ _ _ | exact Kd.S_nil _ _ _ _ _, zb6 HB GE173 GE174 GE175 GE176 GE183 GE189⟩
  ·rw [if_neg c9] at H
   have c9b0 : (t182 == 0) = false := beq_eq_false_iff_ne.mpr c9
   have c9b1 : (t182 != 0) = true := bne_iff_ne.mpr c9
   simp only [jM, jS] at H
   obtain ⟨rfl, rfl, rfl, rfl, rfl⟩ := H
   go_enter Try.func15, Try.ntmps15
   go_wp2_with (first | ((with_reducible refine jJ (N := 6) rfl ?_); refine zE 6 #[.int .i64 a1_0, .slice A1_1 l1_1.length c1_1] 28 ?_; intro gb173 hg w81 hbox hb; have BK173 := jA (hbox); have GW173 := zg0 hg HB; have GE173 := zg0 hg HB; replace HB := zS0 HB hb; clear hb hbox hg) | ((with_reducible refine jJ (N := 7) rfl ?_); refine zE 7 #[.int .i64 a2_0, .slice A2_1 l2_1.length c2_1] 28 ?_; intro gb174 hg w82 hbox hb; have BK174 := jA (hbox); have GW174 := zg1 hg HB GE173; have GE174 := zg1 hg HB GE173; replace HB := zS1 HB GE173 hb; have NB173_174 := zn hg BK173; replace BK173 := zB BK173 hb; have NB174_173 := jA NB173_174.out.symm; clear hb hbox hg) | ((with_reducible refine jJ (N := 10) rfl ?_); refine zE 10 #[.int .i64 0, .slice none 0 0] 28 ?_; intro gb175 hg w83 hbox hb; have BK175 := jA (hbox); have GW175 := zg2 hg HB GE173 GE174; have GE175 := zg2 hg HB GE173 GE174; replace HB := zS2 HB GE173 GE174 hb; have NB173_175 := zn hg BK173; replace BK173 := zB BK173 hb; have NB175_173 := jA NB173_175.out.symm; have NB174_175 := zn hg BK174; replace BK174 := zB BK174 hb; have NB175_174 := jA NB174_175.out.symm; clear hb hbox hg) | ((with_reducible refine jJ (N := 11) rfl ?_); refine zE 11 #[.int .i64 0, .slice none 0 0] 28 ?_; intro gb176 hg w84 hbox hb; have BK176 := jA (hbox); have GW176 := zg3 hg HB GE173 GE174 GE175; have GE176 := zg3 hg HB GE173 GE174 GE175; replace HB := zS3 HB GE173 GE174 GE175 hb; have NB173_176 := zn hg BK173; replace BK173 := zB BK173 hb; have NB176_173 := jA NB173_176.out.symm; have NB174_176 := zn hg BK174; replace BK174 := zB BK174 hb; have NB176_174 := jA NB174_176.out.symm; have NB175_176 := zn hg BK175; replace BK175 := zB BK175 hb; have NB176_175 := jA NB175_176.out.symm; clear hb hbox hg; have hnb85 := NB174_173.out; have hnc85 := NB173_174.out; have hnb86 := NB174_175.out; have hnc86 := NB175_174.out; have hnb87 := NB174_176.out; have hnc87 := NB176_174.out; have hcz88 := zc2 BK174) | ((with_reducible refine jG (f := 25) rfl ?_); refine zL (some 19) Try.func25 #[.slice A0 l0.length c0, .agg #[.int .i64 a2_0, .slice A2_1 l2_1.length c2_1]] ?_; (with_reducible refine (spec_IsMagazine.calls k _ _ l0 a2_0 _ _ l2_1 true _ ?side1 ?side2 ?side3 ?side4 A6.out).mono ?_); (case side1 => exact zs HR0 HB); (case side2 => exact HC0.out); (case side3 => exact zs HR2_1 HB); (case side4 => exact HC2_1.out); rintro e w89 ⟨rfl, hb⟩; refine ⟨_, rfl, ?_⟩; replace BK173 := zB BK173 hb; replace BK174 := zB BK174 hb; replace BK175 := zB BK175 hb; replace BK176 := zB BK176 hb; replace HB := zS4 HB GE173 GE174 GE175 GE176 hb; clear hb; have hnb90 := NB173_175.out; have hnc90 := NB175_173.out; have hnb91 := NB173_176.out; have hnc91 := NB176_173.out; have hcz92 := zc2 BK173) | ((with_reducible refine jG (f := 35) rfl ?_); refine zL (some 28) Try.func35 #[.slice A0 l0.length c0, .agg #[.int .i64 a1_0, .slice A1_1 l1_1.length c1_1], .string a3, .int .i64 a4] ?_; (with_reducible refine (spec_TakePieces.calls k _ _ l0 a1_0 _ _ l1_1 a3 a4 t178 t179 t182 _ ?side1 ?side2 ?side3 ?side4 A8.out).mono ?_); (case side1 => exact zs HR0 HB); (case side2 => exact HC0.out); (case side3 => exact zs HR1_1 HB); (case side4 => exact HC1_1.out); rintro e w93 ⟨v180, rfl, ho0, hb⟩; refine ⟨_, rfl, ?_⟩; have HO181 := jA (jU ho0 (jW (zb4 HB GE173 GE174 GE175 GE176))); replace BK173 := zB BK173 hb; replace BK174 := zB BK174 hb; replace BK175 := zB BK175 hb; replace BK176 := zB BK176 hb; replace HB := zS4 HB GE173 GE174 GE175 GE176 hb; (try clear hb); (try clear hb2); (try clear hk); (try clear hi); (try clear ho0)) | ((with_reducible refine jJ (N := 13) rfl ?_); refine zE 13 #[.int .i64 0, .slice none 0 0] 28 ?_; intro gb183 hg w94 hbox hb; replace HO181 := jA (jE (zo HO181) hb); have BK183 := jA (hbox); have GW183 := zg4 hg HB GE173 GE174 GE175 GE176; have GE183 := zg4 hg HB GE173 GE174 GE175 GE176; replace HB := zS4 HB GE173 GE174 GE175 GE176 hb; have NB173_183 := zn hg BK173; replace BK173 := zB BK173 hb; have NB183_173 := jA NB173_183.out.symm; have NB174_183 := zn hg BK174; replace BK174 := zB BK174 hb; have NB183_174 := jA NB174_183.out.symm; have NB175_183 := zn hg BK175; replace BK175 := zB BK175 hb; have NB183_175 := jA NB175_183.out.symm; have NB176_183 := zn hg BK176; replace BK176 := zB BK176 hb; have NB183_176 := jA NB176_183.out.symm; clear hb hbox hg; have hnb95 := NB183_173.out; have hnc95 := NB173_183.out; have hnb96 := NB183_174.out; have hnc96 := NB174_183.out; have hnb97 := NB183_175.out; have hnc97 := NB175_183.out; have hnb98 := NB183_176.out; have hnc98 := NB176_183.out; have hcz99 := zc2 BK183; obtain ⟨Ao100, co100, eo100⟩ := Kd.R_slice HO181.out; subst eo100; have hnb101 := NB175_176.out; have hnc101 := NB176_175.out; have hcz102 := zc2 BK175; have hcz103 := zc2 BK176))
   refine jX (results_list (rs := [.cell 10 28, .cell 11 28, .tmp 12]) rfl (by simp) (.cell gb175 28 #[.int .i64 0, .slice none 0 0] (0, 0) _ rfl (zP2 BK175 NB175_176 NB175_183) Try.underlying28 rfl zr (.cell gb176 28 #[.int .i64 0, .slice none 0 0] (0, 0) _ rfl (zP2 BK176 NB176_175 NB176_183) Try.underlying28 rfl zr (.tmp .nil)))) rfl ?_
   exact ⟨_, _, by first | rfl | (simp [errW_none, errW_some] <;> rfl) | (simp [*, errW_none, errW_some] <;> rfl), by first | exact Kd.R_nil _ _ _ _ _ | exact Kd.N_nil _ _ _ _ _ | exact Kd.V_nil _ _ _ _ _ | exact Kd.Q_nil _ _ _ _ _ | exact Kd.S_nil _ _ _ _ _, by first | exact Kd.R_nil _ _ _ _ _ | exact Kd.N_nil _ _ _ _ _ | exact Kd.V_nil _ _ _ _ _ | exact Kd.Q_nil _ _ _ _ _ | exact Kd.S_nil _ _ _ _ _, zb5 HB GE173 GE174 GE175 GE176 GE183⟩
 ·replace c7 := Bool.eq_false_iff.mpr c7
  subst c7
  rw [if_neg zfalse] at H
  simp only [jM, jS] at H
  obtain ⟨rfl, rfl, rfl, rfl, rfl⟩ := H
  go_enter Try.func15, Try.ntmps15
  go_wp2_with (first | ((with_reducible refine jJ (N := 6) rfl ?_); refine zE 6 #[.int .i64 a1_0, .slice A1_1 l1_1.length c1_1] 28 ?_; intro gb173 hg w104 hbox hb; have BK173 := jA (hbox); have GW173 := zg0 hg HB; have GE173 := zg0 hg HB; replace HB := zS0 HB hb; clear hb hbox hg) | ((with_reducible refine jJ (N := 7) rfl ?_); refine zE 7 #[.int .i64 a2_0, .slice A2_1 l2_1.length c2_1] 28 ?_; intro gb174 hg w105 hbox hb; have BK174 := jA (hbox); have GW174 := zg1 hg HB GE173; have GE174 := zg1 hg HB GE173; replace HB := zS1 HB GE173 hb; have NB173_174 := zn hg BK173; replace BK173 := zB BK173 hb; have NB174_173 := jA NB173_174.out.symm; clear hb hbox hg) | ((with_reducible refine jJ (N := 10) rfl ?_); refine zE 10 #[.int .i64 0, .slice none 0 0] 28 ?_; intro gb175 hg w106 hbox hb; have BK175 := jA (hbox); have GW175 := zg2 hg HB GE173 GE174; have GE175 := zg2 hg HB GE173 GE174; replace HB := zS2 HB GE173 GE174 hb; have NB173_175 := zn hg BK173; replace BK173 := zB BK173 hb; have NB175_173 := jA NB173_175.out.symm; have NB174_175 := zn hg BK174; replace BK174 := zB BK174 hb; have NB175_174 := jA NB174_175.out.symm; clear hb hbox hg) | ((with_reducible refine jJ (N := 11) rfl ?_); refine zE 11 #[.int .i64 0, .slice none 0 0] 28 ?_; intro gb176 hg w107 hbox hb; have BK176 := jA (hbox); have GW176 := zg3 hg HB GE173 GE174 GE175; have GE176 := zg3 hg HB GE173 GE174 GE175; replace HB := zS3 HB GE173 GE174 GE175 hb; have NB173_176 := zn hg BK173; replace BK173 := zB BK173 hb; have NB176_173 := jA NB173_176.out.symm; have NB174_176 := zn hg BK174; replace BK174 := zB BK174 hb; have NB176_174 := jA NB174_176.out.symm; have NB175_176 := zn hg BK175; replace BK175 := zB BK175 hb; have NB176_175 := jA NB175_176.out.symm; clear hb hbox hg; have hnb108 := NB174_173.out; have hnc108 := NB173_174.out; have hnb109 := NB174_175.out; have hnc109 := NB175_174.out; have hnb110 := NB174_176.out; have hnc110 := NB176_174.out; have hcz111 := zc2 BK174) | ((with_reducible refine jG (f := 25) rfl ?_); refine zL (some 19) Try.func25 #[.slice A0 l0.length c0, .agg #[.int .i64 a2_0, .slice A2_1 l2_1.length c2_1]] ?_; (with_reducible refine (spec_IsMagazine.calls k _ _ l0 a2_0 _ _ l2_1 false _ ?side1 ?side2 ?side3 ?side4 A6.out).mono ?_); (case side1 => exact zs HR0 HB); (case side2 => exact HC0.out); (case side3 => exact zs HR2_1 HB); (case side4 => exact HC2_1.out); rintro e w112 ⟨rfl, hb⟩; refine ⟨_, rfl, ?_⟩; replace BK173 := zB BK173 hb; replace BK174 := zB BK174 hb; replace BK175 := zB BK175 hb; replace BK176 := zB BK176 hb; replace HB := zS4 HB GE173 GE174 GE175 GE176 hb; clear hb; have hnb113 := NB175_173.out; have hnc113 := NB173_175.out; have hnb114 := NB175_176.out; have hnc114 := NB176_175.out; have hcz115 := zc2 BK175; have hnb116 := NB176_173.out; have hnc116 := NB173_176.out; have hcz117 := zc2 BK176))
  refine jX (results_list (rs := [.cell 10 28, .cell 11 28, .tmp 12]) rfl (by simp) (.cell gb175 28 #[.int .i64 0, .slice none 0 0] (0, 0) _ rfl (zP1 BK175 NB175_176) Try.underlying28 rfl zr (.cell gb176 28 #[.int .i64 0, .slice none 0 0] (0, 0) _ rfl (zP1 BK176 NB176_175) Try.underlying28 rfl zr (.tmp .nil)))) rfl ?_
  exact ⟨_, _, by first | rfl | (simp [errW_none, errW_some] <;> rfl) | (simp [*, errW_none, errW_some] <;> rfl), by first | exact Kd.R_nil _ _ _ _ _ | exact Kd.N_nil _ _ _ _ _ | exact Kd.V_nil _ _ _ _ _ | exact Kd.Q_nil _ _ _ _ _ | exact Kd.S_nil _ _ _ _ _, by first | exact Kd.R_nil _ _ _ _ _ | exact Kd.N_nil _ _ _ _ _ | exact Kd.V_nil _ _ _ _ _ | exact Kd.Q_nil _ _ _ _ _ | exact Kd.S_nil _ _ _ _ _, zb4 HB GE173 GE174 GE175 GE176⟩

end Go.Proofs.Ytdgglhfnlljmeaa.PFnMoved
