/- Functions and contracts that FnExactMovePieces reaches (8 of 24). -/
import Derived.Test.YtdgglhfnlljmeaaQFnExactMovePiecesx6
namespace Go.Proofs.Ytdgglhfnlljmeaa.PFnExactMovePieces
open Go.RowKit Go.Proofs.YtdgglhfnlljmeaaW.PrintWords Go.Proofs.YtdgglhfnlljmeaaW.PrintLast Go.Proofs.YtdgglhfnlljmeaaW.PrintMore
attribute [local go_sem] max2_int min2_int max_two min_two max_three min_three max_four min_four   -- for this text's walks alone
set_option linter.unusedVariables false
set_option linter.unusedSimpArgs false
open Go.Proofs.YtdgglhfnlljmeaaX

/-! ### spec_MovePieces: function 15 -/
def spec_MovePieces.f (k : Nat) (l0 : List (S65)) (a1_0 : Int) (l1_1 : List Int) (a2_0 : Int) (l2_1 : List Int) (a3 : ByteArray) (a4 : Int) : Option (Int × List Int × Int × List Int × Int) := (spec_IsMagazine.f k l0 a2_0 l2_1).bind fun t182 => (if t182 = true then ((spec_TakePieces.f k l0 a1_0 l1_1 a3 a4).bind fun bt183 => (if bt183.2.2 = 0 then ((spec_StorePieces.f k l0 a2_0 l2_1 a3 a4).bind fun bt189 => (if bt189.2.2 = 0 then (some (bt183.1, bt183.2.1, bt189.1, bt189.2.1, 0)) else (some (0, ([] : List Int), 0, ([] : List Int), bt189.2.2)))) else (some (0, ([] : List Int), 0, ([] : List Int), bt183.2.2)))) else (some (0, ([] : List Int), 0, ([] : List Int), 1)))
theorem spec_MovePieces.mono : ∀ a0 a1 a2 a3 a4 a5 a6 k, LeO (spec_MovePieces.f k a0 a1 a2 a3 a4 a5 a6) (spec_MovePieces.f (k + 1) a0 a1 a2 a3 a4 a5 a6) := by
 intro a0 a1 a2 a3 a4 a5 a6 k
 unfold spec_MovePieces.f
 repeat' first
   | (with_reducible exact spec_IsMagazine.mono _ _ _ _)
   | (with_reducible exact spec_StorePieces.mono _ _ _ _ _ _)
   | (with_reducible exact spec_TakePieces.mono _ _ _ _ _ _)
   | (with_reducible exact LeO.refl _)
   | (with_reducible exact LeO.none _)
   | (with_reducible refine LeO.ite ?_ ?_)
   | (with_reducible refine LeO.bind ?_ (fun _ => ?_))
   | exact spec_IsMagazine.mono _ _ _ _
   | exact spec_StorePieces.mono _ _ _ _ _ _
   | exact spec_TakePieces.mono _ _ _ _ _ _
   | exact LeO.none _
   | refine LeO.ite ?_ ?_
   | refine LeO.bind ?_ (fun _ => ?_)
set_option maxHeartbeats 8000000 in
set_option maxRecDepth 100000 in
theorem spec_MovePieces.calls (k : Nat) (A0 : Option Addr) (c0 : Nat) (l0 : List (S65)) (a1_0 : Int) (A1_1 : Option Addr) (c1_1 : Nat) (l1_1 : List Int) (a2_0 : Int) (A2_1 : Option Addr) (c2_1 : Nat) (l2_1 : List Int) (a3 : ByteArray) (a4 : Int) (r1 : Int) (r2 : List Int) (r3 : Int) (r4 : List Int) (r5 : Int) (w : World) (hr0 : Kd.C k65 w A0 l0.length l0) (hc0 : l0.length ≤ c0) (hr1_1 : Kd.C (Kd.int .i64) w A1_1 l1_1.length l1_1) (hc1_1 : l1_1.length ≤ c1_1) (hr2_1 : Kd.C (Kd.int .i64) w A2_1 l2_1.length l2_1) (hc2_1 : l2_1.length ≤ c2_1) (h : spec_MovePieces.f k l0 a1_0 l1_1 a2_0 l2_1 a3 a4 = some (r1, r2, r3, r4, r5)) :
  Calls Try.prog 15 #[.slice A0 l0.length c0, .agg #[.int .i64 a1_0, .slice A1_1 l1_1.length c1_1], .agg #[.int .i64 a2_0, .slice A2_1 l2_1.length c2_1], .string a3, .int .i64 a4] w fun e w' => ∃ v1_ v3_ : Value, e = .returned (.tuple #[.agg #[.int .i64 r1, v1_], .agg #[.int .i64 r3, v3_], .int .i64 r5]) ∧ Kd.R (Kd.int .i64) 2 w' w.heap.size (fun k_ => some k_ ≠ (v3_ : Value).ownBlock) v1_ r2 ∧ Kd.R (Kd.int .i64) 2 w' w.heap.size (fun k_ => some k_ ≠ (v1_ : Value).ownBlock) v3_ r4 ∧ Below w.heap.size w w' := by
 have hu28 := Try.underlying28
 have HR0 := jA hr0
 have HC0 := jA hc0
 clear hr0 hc0
 have HR1_1 := jA hr1_1
 have HC1_1 := jA hc1_1
 clear hr1_1 hc1_1
 have HR2_1 := jA hr2_1
 have HC2_1 := jA hc2_1
 clear hr2_1 hc2_1
 have HB := jA (Below.refl w.heap.size w)
 have H := h
 unfold spec_MovePieces.f at H
 clear h
 replace H := jG.mp H
 obtain ⟨t182, A60, H⟩ := H
 try dsimp only at H
 have A6 := jA A60
 clear A60
 by_cases c7 : t182 = true
 ·subst c7
  rw [if_pos rfl] at H
  replace H := jG.mp H
  obtain ⟨⟨t183, t184, t187⟩, A80, H⟩ := H
  try dsimp only at H
  have A8 := jA A80
  clear A80
  by_cases c9 : t187 = 0
  ·rw [if_pos c9] at H
   have c9b0 : (t187 == 0) = true := beq_iff_eq.mpr c9
   have c9b1 : (t187 != 0) = false := bne_eq_false_iff_eq.mpr c9
   clear c9
   replace H := jG.mp H
   obtain ⟨⟨t189, t190, t193⟩, A100, H⟩ := H
   try dsimp only at H
   have A10 := jA A100
   clear A100
   by_cases c11 : t193 = 0
   ·rw [if_pos c11] at H
    have c11b0 : (t193 == 0) = true := beq_iff_eq.mpr c11
    have c11b1 : (t193 != 0) = false := bne_eq_false_iff_eq.mpr c11
    clear c11
    simp only [jN, jQ] at H
    obtain ⟨rfl, rfl, rfl, rfl, rfl⟩ := H
    go_enter Try.func15, Try.ntmps15
    try go_wp2_with (first | ((with_reducible refine jJ (N := 6) rfl ?_); refine zE 6 #[.int .i64 a1_0, .slice A1_1 l1_1.length c1_1] 28 ?_; intro gb178 hg w12 hbox hb; have BK178 := jA (hbox); have GW178 := zg0 hg HB; have GE178 := zg0 hg HB; replace HB := zS0 HB hb; clear hb hbox hg) | ((with_reducible refine jJ (N := 7) rfl ?_); refine zE 7 #[.int .i64 a2_0, .slice A2_1 l2_1.length c2_1] 28 ?_; intro gb179 hg w13 hbox hb; have BK179 := jA (hbox); have GW179 := zg1 hg HB GE178; have GE179 := zg1 hg HB GE178; replace HB := zS1 HB GE178 hb; have NB178_179 := zn hg BK178; replace BK178 := zB BK178 hb; have NB179_178 := jA NB178_179.out.symm; clear hb hbox hg) | ((with_reducible refine jJ (N := 10) rfl ?_); refine zE 10 #[.int .i64 0, .slice none 0 0] 28 ?_; intro gb180 hg w14 hbox hb; have BK180 := jA (hbox); have GW180 := zg2 hg HB GE178 GE179; have GE180 := zg2 hg HB GE178 GE179; replace HB := zS2 HB GE178 GE179 hb; have NB178_180 := zn hg BK178; replace BK178 := zB BK178 hb; have NB180_178 := jA NB178_180.out.symm; have NB179_180 := zn hg BK179; replace BK179 := zB BK179 hb; have NB180_179 := jA NB179_180.out.symm; clear hb hbox hg) | ((with_reducible refine jJ (N := 11) rfl ?_); refine zE 11 #[.int .i64 0, .slice none 0 0] 28 ?_; intro gb181 hg w15 hbox hb; have BK181 := jA (hbox); have GW181 := zg3 hg HB GE178 GE179 GE180; have GE181 := zg3 hg HB GE178 GE179 GE180; replace HB := zS3 HB GE178 GE179 GE180 hb; have NB178_181 := zn hg BK178; replace BK178 := zB BK178 hb; have NB181_178 := jA NB178_181.out.symm; have NB179_181 := zn hg BK179; replace BK179 := zB BK179 hb; have NB181_179 := jA NB179_181.out.symm; have NB180_181 := zn hg BK180; replace BK180 := zB BK180 hb; have NB181_180 := jA NB180_181.out.symm; clear hb hbox hg; have hnb16 := NB179_178.out; have hnc16 := NB178_179.out; have hnb17 := NB179_180.out; have hnc17 := NB180_179.out; have hnb18 := NB179_181.out; have hnc18 := NB181_179.out; have hcz19 := zc2 BK179) | ((with_reducible refine jK (f := 25) rfl ?_); refine zL (some 19) Try.func25 #[.slice A0 l0.length c0, .agg #[.int .i64 a2_0, .slice A2_1 l2_1.length c2_1]] ?_; (with_reducible refine (spec_IsMagazine.calls k _ _ l0 a2_0 _ _ l2_1 true _ ?side1 ?side2 ?side3 ?side4 A6.out).mono ?_); (case side1 => exact zs HR0 HB); (case side2 => exact HC0.out); (case side3 => exact zs HR2_1 HB); (case side4 => exact HC2_1.out); rintro e w20 ⟨rfl, hb⟩; refine ⟨_, rfl, ?_⟩; replace BK178 := zB BK178 hb; replace BK179 := zB BK179 hb; replace BK180 := zB BK180 hb; replace BK181 := zB BK181 hb; replace HB := zS4 HB GE178 GE179 GE180 GE181 hb; clear hb; have hnb21 := NB178_180.out; have hnc21 := NB180_178.out; have hnb22 := NB178_181.out; have hnc22 := NB181_178.out; have hcz23 := zc2 BK178) | ((with_reducible refine jK (f := 35) rfl ?_); refine zL (some 28) Try.func35 #[.slice A0 l0.length c0, .agg #[.int .i64 a1_0, .slice A1_1 l1_1.length c1_1], .string a3, .int .i64 a4] ?_; (with_reducible refine (spec_TakePieces.calls k _ _ l0 a1_0 _ _ l1_1 a3 a4 t183 t184 t187 _ ?side1 ?side2 ?side3 ?side4 A8.out).mono ?_); (case side1 => exact zs HR0 HB); (case side2 => exact HC0.out); (case side3 => exact zs HR1_1 HB); (case side4 => exact HC1_1.out); rintro e w24 ⟨v185, rfl, ho0, hb⟩; refine ⟨_, rfl, ?_⟩; have HO186 := jA (Kd.R_lower ho0 (below_size (zb4 HB GE178 GE179 GE180 GE181))); replace BK178 := zB BK178 hb; replace BK179 := zB BK179 hb; replace BK180 := zB BK180 hb; replace BK181 := zB BK181 hb; replace HB := zS4 HB GE178 GE179 GE180 GE181 hb; (try clear hb); (try clear hb2); (try clear hk); (try clear hi); (try clear ho0)) | ((with_reducible refine jJ (N := 13) rfl ?_); refine zE 13 #[.int .i64 0, .slice none 0 0] 28 ?_; intro gb188 hg w25 hbox hb; replace HO186 := jA (Kd.R_below (zo HO186) hb); have BK188 := jA (hbox); have GW188 := zg4 hg HB GE178 GE179 GE180 GE181; have GE188 := zg4 hg HB GE178 GE179 GE180 GE181; replace HB := zS4 HB GE178 GE179 GE180 GE181 hb; have NB178_188 := zn hg BK178; replace BK178 := zB BK178 hb; have NB188_178 := jA NB178_188.out.symm; have NB179_188 := zn hg BK179; replace BK179 := zB BK179 hb; have NB188_179 := jA NB179_188.out.symm; have NB180_188 := zn hg BK180; replace BK180 := zB BK180 hb; have NB188_180 := jA NB180_188.out.symm; have NB181_188 := zn hg BK181; replace BK181 := zB BK181 hb; have NB188_181 := jA NB181_188.out.symm; clear hb hbox hg; have hnb26 := NB188_178.out; have hnc26 := NB178_188.out; have hnb27 := NB188_179.out; have hnc27 := NB179_188.out; have hnb28 := NB188_180.out; have hnc28 := NB180_188.out; have hnb29 := NB188_181.out; have hnc29 := NB181_188.out; have hcz30 := zc2 BK188; obtain ⟨Ao31, co31, eo31⟩ := Kd.R_slice HO186.out; subst eo31; have hcz32 := zc2 BK179) | ((with_reducible refine jK (f := 40) rfl ?_); refine zL (some 41) Try.func40 #[.slice A0 l0.length c0, .agg #[.int .i64 a2_0, .slice A2_1 l2_1.length c2_1], .string a3, .int .i64 a4] ?_; (with_reducible refine (spec_StorePieces.calls k _ _ l0 a2_0 _ _ l2_1 a3 a4 t189 t190 t193 _ ?side1 ?side2 ?side3 ?side4 A10.out).mono ?_); (case side1 => exact Kd.C_below HR0.out (zb5 HB GE178 GE179 GE180 GE181 GE188)); (case side2 => exact HC0.out); (case side3 => exact Kd.C_below HR2_1.out (zb5 HB GE178 GE179 GE180 GE181 GE188)); (case side4 => exact HC2_1.out); rintro e w33 ⟨v191, rfl, ho0, hb⟩; refine ⟨_, rfl, ?_⟩; have HO192 := jA (Kd.R_lower (Kd.R_new' ho0 (Kd.R_lt (zU HO186 BK188))) (below_size (zb5 HB GE178 GE179 GE180 GE181 GE188))); replace HO186 := jA (Kd.R_elder' (zU HO186 BK188) (Kd.R_base ho0) hb); replace BK178 := jA (jO (g := gb178) (o := .cells #[.int .i64 a1_0, .slice A1_1 l1_1.length c1_1] 28 (0, 0)) (zQ1 BK178 NB178_188) hb); replace BK179 := jA (jO (g := gb179) (o := .cells #[.int .i64 a2_0, .slice A2_1 l2_1.length c2_1] 28 (0, 0)) (zQ1 BK179 NB179_188) hb); replace BK180 := jA (jO (g := gb180) (o := .cells #[.int .i64 0, .slice none 0 0] 28 (0, 0)) (zQ1 BK180 NB180_188) hb); replace BK181 := jA (jO (g := gb181) (o := .cells #[.int .i64 0, .slice none 0 0] 28 (0, 0)) (zQ1 BK181 NB181_188) hb); replace BK188 := jA (jO (g := gb188) (o := .cells #[.int .i64 t183, .slice Ao31 t184.length co31] 28 (0, 0)) (zP0 BK188) hb); replace HB := zS5 HB GE178 GE179 GE180 GE181 GE188 hb; (try clear hb); (try clear hb2); (try clear hk); (try clear hi); (try clear ho0)) | ((with_reducible refine jJ (N := 15) rfl ?_); refine zE 15 #[.int .i64 0, .slice none 0 0] 28 ?_; intro gb194 hg w34 hbox hb; replace HO186 := jA (Kd.R_below (zo HO186) hb); replace HO192 := jA (Kd.R_below (zo HO192) hb); have BK194 := jA (hbox); have GW194 := zg5 hg HB GE178 GE179 GE180 GE181 GE188; have GE194 := zg5 hg HB GE178 GE179 GE180 GE181 GE188; replace HB := zS5 HB GE178 GE179 GE180 GE181 GE188 hb; have NB178_194 := zn hg BK178; replace BK178 := zB BK178 hb; have NB194_178 := jA NB178_194.out.symm; have NB179_194 := zn hg BK179; replace BK179 := zB BK179 hb; have NB194_179 := jA NB179_194.out.symm; have NB180_194 := zn hg BK180; replace BK180 := zB BK180 hb; have NB194_180 := jA NB180_194.out.symm; have NB181_194 := zn hg BK181; replace BK181 := zB BK181 hb; have NB194_181 := jA NB181_194.out.symm; have NB188_194 := zn hg BK188; replace BK188 := zB BK188 hb; have NB194_188 := jA NB188_194.out.symm; clear hb hbox hg; have hnb35 := NB194_178.out; have hnc35 := NB178_194.out; have hnb36 := NB194_179.out; have hnc36 := NB179_194.out; have hnb37 := NB194_180.out; have hnc37 := NB180_194.out; have hnb38 := NB194_181.out; have hnc38 := NB181_194.out; have hnb39 := NB194_188.out; have hnc39 := NB188_194.out; have hcz40 := zc2 BK194; obtain ⟨Ao41, co41, eo41⟩ := Kd.R_slice HO192.out; subst eo41))
    have n0_ : Aside0 (Kd.R (Kd.int .i64) 2 ((w34.setCell ⟨gb194, 0, none⟩ (.int .i64 t189)).setCell ⟨gb194, 1, none⟩ (.slice Ao41 t190.length co41)) w.heap.size (fun k_ => some k_ ≠ (.slice Ao41 t190.length co41 : Value).ownBlock) (.slice Ao31 t184.length co31) t184) := ⟨by (with_reducible repeat (first | apply Kd.R_alloc | apply Kd.R_drewN | apply Kd.R_drew)); exact Kd.R_mono (Kd.R_far (p := ⟨gb194, 1, none⟩) (Kd.R_far (p := ⟨gb194, 0, none⟩) (Kd.R_types HO186.out BK194.out (by decide)) (fun _ hk => hk.2) (.int .i64 t189)) (fun _ hk => hk.2) (.slice Ao41 t190.length co41)) (fun _ hk => hk.1.2)⟩
    have n1_ : Aside0 (Kd.R (Kd.int .i64) 2 ((w34.setCell ⟨gb194, 0, none⟩ (.int .i64 t189)).setCell ⟨gb194, 1, none⟩ (.slice Ao41 t190.length co41)) w.heap.size (fun k_ => some k_ ≠ (.slice Ao31 t184.length co31 : Value).ownBlock) (.slice Ao41 t190.length co41) t190) := ⟨by (with_reducible repeat (first | apply Kd.R_alloc | apply Kd.R_drewN | apply Kd.R_drew)); exact Kd.R_mono (Kd.R_far (p := ⟨gb194, 1, none⟩) (Kd.R_far (p := ⟨gb194, 0, none⟩) (Kd.R_types HO192.out BK194.out (by decide)) (fun _ hk => hk.2) (.int .i64 t189)) (fun _ hk => hk.2) (.slice Ao41 t190.length co41)) (fun _ hk => hk.1.2)⟩
    have n2_ : Aside0 (((w34.setCell ⟨gb194, 0, none⟩ (.int .i64 t189)).setCell ⟨gb194, 1, none⟩ (.slice Ao41 t190.length co41)).heap[gb178]? = some (.cells #[.int .i64 a1_0, .slice A1_1 l1_1.length c1_1] 28 (0, 0))) := ⟨zQ1 BK178 NB178_194⟩
    have n3_ : Aside0 (((w34.setCell ⟨gb194, 0, none⟩ (.int .i64 t189)).setCell ⟨gb194, 1, none⟩ (.slice Ao41 t190.length co41)).heap[gb179]? = some (.cells #[.int .i64 a2_0, .slice A2_1 l2_1.length c2_1] 28 (0, 0))) := ⟨zQ1 BK179 NB179_194⟩
    have n4_ : Aside0 (((w34.setCell ⟨gb194, 0, none⟩ (.int .i64 t189)).setCell ⟨gb194, 1, none⟩ (.slice Ao41 t190.length co41)).heap[gb180]? = some (.cells #[.int .i64 0, .slice none 0 0] 28 (0, 0))) := ⟨zQ1 BK180 NB180_194⟩
    have n5_ : Aside0 (((w34.setCell ⟨gb194, 0, none⟩ (.int .i64 t189)).setCell ⟨gb194, 1, none⟩ (.slice Ao41 t190.length co41)).heap[gb181]? = some (.cells #[.int .i64 0, .slice none 0 0] 28 (0, 0))) := ⟨zQ1 BK181 NB181_194⟩
    have n6_ : Aside0 (((w34.setCell ⟨gb194, 0, none⟩ (.int .i64 t189)).setCell ⟨gb194, 1, none⟩ (.slice Ao41 t190.length co41)).heap[gb188]? = some (.cells #[.int .i64 t183, .slice Ao31 t184.length co31] 28 (0, 0))) := ⟨zQ1 BK188 NB188_194⟩
    have n7_ : Aside0 (((w34.setCell ⟨gb194, 0, none⟩ (.int .i64 t189)).setCell ⟨gb194, 1, none⟩ (.slice Ao41 t190.length co41)).heap[gb194]? = some (.cells #[.int .i64 t189, .slice Ao41 t190.length co41] 28 (0, 0))) := ⟨zP0 BK194⟩
    have n8_ : Aside0 (Below w.heap.size w ((w34.setCell ⟨gb194, 0, none⟩ (.int .i64 t189)).setCell ⟨gb194, 1, none⟩ (.slice Ao41 t190.length co41))) := ⟨zb6 HB GE178 GE179 GE180 GE181 GE188 GE194⟩
    (try clear HO186)
    (try clear HO192)
    (try clear BK178)
    (try clear BK179)
    (try clear BK180)
    (try clear BK181)
    (try clear BK188)
    (try clear BK194)
    (try clear HB)
    generalize ((w34.setCell ⟨gb194, 0, none⟩ (.int .i64 t189)).setCell ⟨gb194, 1, none⟩ (.slice Ao41 t190.length co41)) = w42 at n0_ n1_ n2_ n3_ n4_ n5_ n6_ n7_ n8_ ⊢
    have HO186 := n0_
    have HO192 := n1_
    have BK178 := n2_
    have BK179 := n3_
    have BK180 := n4_
    have BK181 := n5_
    have BK188 := n6_
    have BK194 := n7_
    have HB := n8_
    clear n0_ n1_ n2_ n3_ n4_ n5_ n6_ n7_ n8_
    replace HO186 := jA (Kd.R_drew HO186.out)
    replace HO192 := jA (Kd.R_drew HO192.out)
    replace BK178 := jA (blk_drew BK178.out)
    replace BK179 := jA (blk_drew BK179.out)
    replace BK180 := jA (blk_drew BK180.out)
    replace BK181 := jA (blk_drew BK181.out)
    replace BK188 := jA (blk_drew BK188.out)
    replace BK194 := jA (blk_drew BK194.out)
    replace HB := jA (jR HB.out)
    refine start_ (n := 5) (S := fun w' => w'.cell? ⟨gb188, 0, none⟩ = some (.int .i64 t183) ∧ w'.cell? ⟨gb188, 1, none⟩ = some (.slice Ao31 t184.length co31) ∧ w'.cell? ⟨gb194, 0, none⟩ = some (.int .i64 t189) ∧ w'.cell? ⟨gb194, 1, none⟩ = some (.slice Ao41 t190.length co41)) (ds := []) #[false, false, false, false, false] zr rfl rfl ⟨(jD BK188.out 0).trans rfl, (jD BK188.out 1).trans rfl, (jD BK194.out 0).trans rfl, (jD BK194.out 1).trans rfl⟩ (fun hHeld => ?_)
    generalize w42.drew = w43 at HO186 HO192 BK178 BK179 BK180 BK181 BK188 BK194 HB hHeld ⊢
    refine take_ (i := 0) (N := some 49) (v := ?_) (a' := ?_) #[true, false, false, false, false] rfl rfl zr (fun _ _ _ h => h) (Or.inl ⟨by rfl, ?_⟩) hHeld ?_ ?_
    rotate_left
    ·rintro w' ⟨s0, s1, s2, s3⟩
     go_simp
     with_reducible rfl
    rotate_left
    ·simp only [Act.put, jC, jE, jF, i64_w, i32_w]
     rfl
    refine take_ (i := 1) (N := some 50) (v := ?_) (a' := ?_) #[true, true, false, false, false] rfl rfl zr (fun _ _ _ h => h) (Or.inl ⟨by rfl, ?_⟩) hHeld ?_ ?_
    rotate_left
    ·rintro w' ⟨s0, s1, s2, s3⟩
     go_simp
     with_reducible rfl
    rotate_left
    ·simp only [Act.put, jC, jE, jF, i64_w, i32_w]
     rfl
    refine one_ (i := 2) (N := none) #[true, true, true, false, false] rfl rfl zr (by decide) (fun K hK => ?_)
    have hs44 : w43.cell? ⟨gb180, 0, none⟩ = some (.int .i64 0) := (jD BK180.out 0).trans rfl
    have hfs44 := blk_frozen BK180.out 0
    have hns44_0 := NB178_180.out
    have hns44_1 := NB179_180.out
    have hns44_3 := NB181_180.out
    have hns44_4 := NB188_180.out
    have hns44_5 := NB194_180.out
    have hms44_0 := NB180_178.out
    have hms44_1 := NB180_179.out
    have hms44_3 := NB180_181.out
    have hms44_4 := NB180_188.out
    have hms44_5 := NB180_194.out
    have hs45 : w43.cell? ⟨gb180, 1, none⟩ = some (.slice none 0 0) := (jD BK180.out 1).trans rfl
    have hfs45 := blk_frozen BK180.out 1
    have hns45_0 := NB178_180.out
    have hns45_1 := NB179_180.out
    have hns45_3 := NB181_180.out
    have hns45_4 := NB188_180.out
    have hns45_5 := NB194_180.out
    have hms45_0 := NB180_178.out
    have hms45_1 := NB180_179.out
    have hms45_3 := NB180_181.out
    have hms45_4 := NB180_188.out
    have hms45_5 := NB180_194.out
    refine skip_ (w1 := ?_) (by rfl) rfl ?_ ?_
    rotate_left
    ·go_simp
     rfl
    refine hK.out _ _ ⟨((jL (p := ⟨gb180, _, none⟩) NB188_180.out _).trans (((jL (p := ⟨gb180, _, none⟩) NB188_180.out _).trans (hHeld.1)))), ((jL (p := ⟨gb180, _, none⟩) NB188_180.out _).trans (((jL (p := ⟨gb180, _, none⟩) NB188_180.out _).trans (hHeld.2.1)))), ((jL (p := ⟨gb180, _, none⟩) NB194_180.out _).trans (((jL (p := ⟨gb180, _, none⟩) NB194_180.out _).trans (hHeld.2.2.1)))), ((jL (p := ⟨gb180, _, none⟩) NB194_180.out _).trans (((jL (p := ⟨gb180, _, none⟩) NB194_180.out _).trans (hHeld.2.2.2))))⟩ (fun hHeld => ?_)
    clear hK K
    refine one_ (i := 3) (N := none) #[true, true, true, true, false] rfl rfl zr (by decide) (fun K hK => ?_)
    have hs46 : w43.cell? ⟨gb181, 0, none⟩ = some (.int .i64 0) := (jD BK181.out 0).trans rfl
    have hfs46 := blk_frozen BK181.out 0
    have hns46_0 := NB178_181.out
    have hns46_1 := NB179_181.out
    have hns46_2 := NB180_181.out
    have hns46_4 := NB188_181.out
    have hns46_5 := NB194_181.out
    have hms46_0 := NB181_178.out
    have hms46_1 := NB181_179.out
    have hms46_2 := NB181_180.out
    have hms46_4 := NB181_188.out
    have hms46_5 := NB181_194.out
    have hs47 : w43.cell? ⟨gb181, 1, none⟩ = some (.slice none 0 0) := (jD BK181.out 1).trans rfl
    have hfs47 := blk_frozen BK181.out 1
    have hns47_0 := NB178_181.out
    have hns47_1 := NB179_181.out
    have hns47_2 := NB180_181.out
    have hns47_4 := NB188_181.out
    have hns47_5 := NB194_181.out
    have hms47_0 := NB181_178.out
    have hms47_1 := NB181_179.out
    have hms47_2 := NB181_180.out
    have hms47_4 := NB181_188.out
    have hms47_5 := NB181_194.out
    refine skip_ (w1 := ?_) (by rfl) rfl ?_ ?_
    rotate_left
    ·go_simp
     rfl
    refine hK.out _ _ ⟨((jL (p := ⟨gb181, _, none⟩) NB188_181.out _).trans (((jL (p := ⟨gb181, _, none⟩) NB188_181.out _).trans (hHeld.1)))), ((jL (p := ⟨gb181, _, none⟩) NB188_181.out _).trans (((jL (p := ⟨gb181, _, none⟩) NB188_181.out _).trans (hHeld.2.1)))), ((jL (p := ⟨gb181, _, none⟩) NB194_181.out _).trans (((jL (p := ⟨gb181, _, none⟩) NB194_181.out _).trans (hHeld.2.2.1)))), ((jL (p := ⟨gb181, _, none⟩) NB194_181.out _).trans (((jL (p := ⟨gb181, _, none⟩) NB194_181.out _).trans (hHeld.2.2.2))))⟩ (fun hHeld => ?_)
    clear hK K
    refine pure_ (i := 4) (N := some 12) (v := ?_) (a' := ?_) #[true, true, true, true, true] rfl rfl zr (fun _ _ _ h => h) (Or.inl ⟨by rfl, ?_⟩) ?_ ?_
    rotate_left
    ·intro w'
     go_simp
     with_reducible rfl
    rotate_left
    ·simp only [Act.put, jC, jE, jF, i64_w, i32_w]
     rfl
    refine done_ zr ?_
    try go_wp2
    refine bodyPost_ret (results_list (rs := [.cell 10 28, .cell 11 28, .tmp 12]) rfl (by simp) (.cell gb180 28 #[.int .i64 t183, .slice Ao31 t184.length co31] (0, 0) _ rfl (zP1 BK180 NB180_181) Try.underlying28 rfl zr (.cell gb181 28 #[.int .i64 t189, .slice Ao41 t190.length co41] (0, 0) _ rfl (zP1 BK181 NB181_180) Try.underlying28 rfl zr (.tmp .nil)))) rfl ?_
    exact ⟨_, _, by first | rfl | (simp [errW_none, errW_some] <;> rfl) | (simp [*, errW_none, errW_some] <;> rfl), by (with_reducible repeat (first | apply Kd.R_alloc | apply Kd.R_drewN | apply Kd.R_drew)); exact Kd.R_mono (Kd.R_far (p := ⟨gb181, 1, none⟩) (Kd.R_far (p := ⟨gb181, 0, none⟩) (Kd.R_far (p := ⟨gb180, 1, none⟩) (Kd.R_far (p := ⟨gb180, 0, none⟩) (Kd.R_types (Kd.R_types HO186.out BK180.out (by decide)) BK181.out (by decide)) (fun _ hk => hk.1.2) (.int .i64 t183)) (fun _ hk => hk.1.2) (.slice Ao31 t184.length co31)) (fun _ hk => hk.2) (.int .i64 t189)) (fun _ hk => hk.2) (.slice Ao41 t190.length co41)) (fun _ hk => hk.1.1), by (with_reducible repeat (first | apply Kd.R_alloc | apply Kd.R_drewN | apply Kd.R_drew)); exact Kd.R_mono (Kd.R_far (p := ⟨gb181, 1, none⟩) (Kd.R_far (p := ⟨gb181, 0, none⟩) (Kd.R_far (p := ⟨gb180, 1, none⟩) (Kd.R_far (p := ⟨gb180, 0, none⟩) (Kd.R_types (Kd.R_types HO192.out BK180.out (by decide)) BK181.out (by decide)) (fun _ hk => hk.1.2) (.int .i64 t183)) (fun _ hk => hk.1.2) (.slice Ao31 t184.length co31)) (fun _ hk => hk.2) (.int .i64 t189)) (fun _ hk => hk.2) (.slice Ao41 t190.length co41)) (fun _ hk => hk.1.1), zb6 HB GE178 GE179 GE180 GE181 GE188 GE194⟩
   ·rw [if_neg c11] at H
    have c11b0 : (t193 == 0) = false := beq_eq_false_iff_ne.mpr c11
    have c11b1 : (t193 != 0) = true := bne_iff_ne.mpr c11
    simp only [jN, jQ] at H
    obtain ⟨rfl, rfl, rfl, rfl, rfl⟩ := H
    go_enter Try.func15, Try.ntmps15
    go_wp2_with (first | ((with_reducible refine jJ (N := 6) rfl ?_); refine zE 6 #[.int .i64 a1_0, .slice A1_1 l1_1.length c1_1] 28 ?_; intro gb178 hg w48 hbox hb; have BK178 := jA (hbox); have GW178 := zg0 hg HB; have GE178 := zg0 hg HB; replace HB := zS0 HB hb; clear hb hbox hg) | ((with_reducible refine jJ (N := 7) rfl ?_); refine zE 7 #[.int .i64 a2_0, .slice A2_1 l2_1.length c2_1] 28 ?_; intro gb179 hg w49 hbox hb; have BK179 := jA (hbox); have GW179 := zg1 hg HB GE178; have GE179 := zg1 hg HB GE178; replace HB := zS1 HB GE178 hb; have NB178_179 := zn hg BK178; replace BK178 := zB BK178 hb; have NB179_178 := jA NB178_179.out.symm; clear hb hbox hg) | ((with_reducible refine jJ (N := 10) rfl ?_); refine zE 10 #[.int .i64 0, .slice none 0 0] 28 ?_; intro gb180 hg w50 hbox hb; have BK180 := jA (hbox); have GW180 := zg2 hg HB GE178 GE179; have GE180 := zg2 hg HB GE178 GE179; replace HB := zS2 HB GE178 GE179 hb; have NB178_180 := zn hg BK178; replace BK178 := zB BK178 hb; have NB180_178 := jA NB178_180.out.symm; have NB179_180 := zn hg BK179; replace BK179 := zB BK179 hb; have NB180_179 := jA NB179_180.out.symm; clear hb hbox hg) | ((with_reducible refine jJ (N := 11) rfl ?_); refine zE 11 #[.int .i64 0, .slice none 0 0] 28 ?_; intro gb181 hg w51 hbox hb; have BK181 := jA (hbox); have GW181 := zg3 hg HB GE178 GE179 GE180; have GE181 := zg3 hg HB GE178 GE179 GE180; replace HB := zS3 HB GE178 GE179 GE180 hb; have NB178_181 := zn hg BK178; replace BK178 := zB BK178 hb; have NB181_178 := jA NB178_181.out.symm; have NB179_181 := zn hg BK179; replace BK179 := zB BK179 hb; have NB181_179 := jA NB179_181.out.symm; have NB180_181 := zn hg BK180; replace BK180 := zB BK180 hb; have NB181_180 := jA NB180_181.out.symm; clear hb hbox hg; have hnb52 := NB179_178.out; have hnc52 := NB178_179.out; have hnb53 := NB179_180.out; have hnc53 := NB180_179.out; have hnb54 := NB179_181.out; have hnc54 := NB181_179.out; have hcz55 := zc2 BK179) | ((with_reducible refine jK (f := 25) rfl ?_); refine zL (some 19) Try.func25 #[.slice A0 l0.length c0, .agg #[.int .i64 a2_0, .slice A2_1 l2_1.length c2_1]] ?_; (with_reducible refine (spec_IsMagazine.calls k _ _ l0 a2_0 _ _ l2_1 true _ ?side1 ?side2 ?side3 ?side4 A6.out).mono ?_); (case side1 => exact zs HR0 HB); (case side2 => exact HC0.out); (case side3 => exact zs HR2_1 HB); (case side4 => exact HC2_1.out); rintro e w56 ⟨rfl, hb⟩; refine ⟨_, rfl, ?_⟩; replace BK178 := zB BK178 hb; replace BK179 := zB BK179 hb; replace BK180 := zB BK180 hb; replace BK181 := zB BK181 hb; replace HB := zS4 HB GE178 GE179 GE180 GE181 hb; clear hb; have hnb57 := NB178_180.out; have hnc57 := NB180_178.out; have hnb58 := NB178_181.out; have hnc58 := NB181_178.out; have hcz59 := zc2 BK178) | ((with_reducible refine jK (f := 35) rfl ?_); refine zL (some 28) Try.func35 #[.slice A0 l0.length c0, .agg #[.int .i64 a1_0, .slice A1_1 l1_1.length c1_1], .string a3, .int .i64 a4] ?_; (with_reducible refine (spec_TakePieces.calls k _ _ l0 a1_0 _ _ l1_1 a3 a4 t183 t184 t187 _ ?side1 ?side2 ?side3 ?side4 A8.out).mono ?_); (case side1 => exact zs HR0 HB); (case side2 => exact HC0.out); (case side3 => exact zs HR1_1 HB); (case side4 => exact HC1_1.out); rintro e w60 ⟨v185, rfl, ho0, hb⟩; refine ⟨_, rfl, ?_⟩; have HO186 := jA (Kd.R_lower ho0 (below_size (zb4 HB GE178 GE179 GE180 GE181))); replace BK178 := zB BK178 hb; replace BK179 := zB BK179 hb; replace BK180 := zB BK180 hb; replace BK181 := zB BK181 hb; replace HB := zS4 HB GE178 GE179 GE180 GE181 hb; (try clear hb); (try clear hb2); (try clear hk); (try clear hi); (try clear ho0)) | ((with_reducible refine jJ (N := 13) rfl ?_); refine zE 13 #[.int .i64 0, .slice none 0 0] 28 ?_; intro gb188 hg w61 hbox hb; replace HO186 := jA (Kd.R_below (zo HO186) hb); have BK188 := jA (hbox); have GW188 := zg4 hg HB GE178 GE179 GE180 GE181; have GE188 := zg4 hg HB GE178 GE179 GE180 GE181; replace HB := zS4 HB GE178 GE179 GE180 GE181 hb; have NB178_188 := zn hg BK178; replace BK178 := zB BK178 hb; have NB188_178 := jA NB178_188.out.symm; have NB179_188 := zn hg BK179; replace BK179 := zB BK179 hb; have NB188_179 := jA NB179_188.out.symm; have NB180_188 := zn hg BK180; replace BK180 := zB BK180 hb; have NB188_180 := jA NB180_188.out.symm; have NB181_188 := zn hg BK181; replace BK181 := zB BK181 hb; have NB188_181 := jA NB181_188.out.symm; clear hb hbox hg; have hnb62 := NB188_178.out; have hnc62 := NB178_188.out; have hnb63 := NB188_179.out; have hnc63 := NB179_188.out; have hnb64 := NB188_180.out; have hnc64 := NB180_188.out; have hnb65 := NB188_181.out; have hnc65 := NB181_188.out; have hcz66 := zc2 BK188; obtain ⟨Ao67, co67, eo67⟩ := Kd.R_slice HO186.out; subst eo67; have hcz68 := zc2 BK179) | ((with_reducible refine jK (f := 40) rfl ?_); refine zL (some 41) Try.func40 #[.slice A0 l0.length c0, .agg #[.int .i64 a2_0, .slice A2_1 l2_1.length c2_1], .string a3, .int .i64 a4] ?_; (with_reducible refine (spec_StorePieces.calls k _ _ l0 a2_0 _ _ l2_1 a3 a4 t189 t190 t193 _ ?side1 ?side2 ?side3 ?side4 A10.out).mono ?_); (case side1 => exact Kd.C_below HR0.out (zb5 HB GE178 GE179 GE180 GE181 GE188)); (case side2 => exact HC0.out); (case side3 => exact Kd.C_below HR2_1.out (zb5 HB GE178 GE179 GE180 GE181 GE188)); (case side4 => exact HC2_1.out); rintro e w69 ⟨v191, rfl, ho0, hb⟩; refine ⟨_, rfl, ?_⟩; have HO192 := jA (Kd.R_lower (Kd.R_new' ho0 (Kd.R_lt (zU HO186 BK188))) (below_size (zb5 HB GE178 GE179 GE180 GE181 GE188))); replace HO186 := jA (Kd.R_elder' (zU HO186 BK188) (Kd.R_base ho0) hb); replace BK178 := jA (jO (g := gb178) (o := .cells #[.int .i64 a1_0, .slice A1_1 l1_1.length c1_1] 28 (0, 0)) (zQ1 BK178 NB178_188) hb); replace BK179 := jA (jO (g := gb179) (o := .cells #[.int .i64 a2_0, .slice A2_1 l2_1.length c2_1] 28 (0, 0)) (zQ1 BK179 NB179_188) hb); replace BK180 := jA (jO (g := gb180) (o := .cells #[.int .i64 0, .slice none 0 0] 28 (0, 0)) (zQ1 BK180 NB180_188) hb); replace BK181 := jA (jO (g := gb181) (o := .cells #[.int .i64 0, .slice none 0 0] 28 (0, 0)) (zQ1 BK181 NB181_188) hb); replace BK188 := jA (jO (g := gb188) (o := .cells #[.int .i64 t183, .slice Ao67 t184.length co67] 28 (0, 0)) (zP0 BK188) hb); replace HB := zS5 HB GE178 GE179 GE180 GE181 GE188 hb; (try clear hb); (try clear hb2); (try clear hk); (try clear hi); (try clear ho0)) | ((with_reducible refine jJ (N := 15) rfl ?_); refine zE 15 #[.int .i64 0, .slice none 0 0] 28 ?_; intro gb194 hg w70 hbox hb; replace HO186 := jA (Kd.R_below (zo HO186) hb); replace HO192 := jA (Kd.R_below (zo HO192) hb); have BK194 := jA (hbox); have GW194 := zg5 hg HB GE178 GE179 GE180 GE181 GE188; have GE194 := zg5 hg HB GE178 GE179 GE180 GE181 GE188; replace HB := zS5 HB GE178 GE179 GE180 GE181 GE188 hb; have NB178_194 := zn hg BK178; replace BK178 := zB BK178 hb; have NB194_178 := jA NB178_194.out.symm; have NB179_194 := zn hg BK179; replace BK179 := zB BK179 hb; have NB194_179 := jA NB179_194.out.symm; have NB180_194 := zn hg BK180; replace BK180 := zB BK180 hb; have NB194_180 := jA NB180_194.out.symm; have NB181_194 := zn hg BK181; replace BK181 := zB BK181 hb; have NB194_181 := jA NB181_194.out.symm; have NB188_194 := zn hg BK188; replace BK188 := zB BK188 hb; have NB194_188 := jA NB188_194.out.symm; clear hb hbox hg; have hnb71 := NB194_178.out; have hnc71 := NB178_194.out; have hnb72 := NB194_179.out; have hnc72 := NB179_194.out; have hnb73 := NB194_180.out; have hnc73 := NB180_194.out; have hnb74 := NB194_181.out; have hnc74 := NB181_194.out; have hnb75 := NB194_188.out; have hnc75 := NB188_194.out; have hcz76 := zc2 BK194; obtain ⟨Ao77, co77, eo77⟩ := Kd.R_slice HO192.out; subst eo77; have hnb78 := NB180_181.out; have hnc78 := NB181_180.out; have hcz79 := zc2 BK180; have hcz80 := zc2 BK181))
    refine bodyPost_ret (results_list (rs := [.cell 10 28, .cell 11 28, .tmp 12]) rfl (by simp) (.cell gb180 28 #[.int .i64 0, .slice none 0 0] (0, 0) _ rfl (zP2 BK180 NB180_181 NB180_194) Try.underlying28 rfl zr (.cell gb181 28 #[.int .i64 0, .slice none 0 0] (0, 0) _ rfl (zP2 BK181 NB181_180 NB181_194) Try.underlying28 rfl zr (.tmp .nil)))) rfl ?_
    exact ⟨_, _, by first | rfl | (simp [errW_none, errW_some] <;> rfl) | (simp [*, errW_none, errW_some] <;> rfl), by first | exact Kd.R_nil _ _ _ _ _ | exact Kd.N_nil _ _ _ _ _ | exact Kd.V_nil _ _ _ _ _ | exact Kd.Q_nil _ _ _ _ _ | exact Kd.S_nil _ _ _ _ _, by first | exact Kd.R_nil _ _ _ _ _ | exact Kd.N_nil _ _ _ _ _ | exact Kd.V_nil _ _ _ _ _ | exact Kd.Q_nil _ _ _ _ _ | exact Kd.S_nil _ _ _ _ _, zb6 HB GE178 GE179 GE180 GE181 GE188 GE194⟩
  ·rw [if_neg c9] at H
   have c9b0 : (t187 == 0) = false := beq_eq_false_iff_ne.mpr c9
   have c9b1 : (t187 != 0) = true := bne_iff_ne.mpr c9
   simp only [jN, jQ] at H
   obtain ⟨rfl, rfl, rfl, rfl, rfl⟩ := H
   go_enter Try.func15, Try.ntmps15
   go_wp2_with (first | ((with_reducible refine jJ (N := 6) rfl ?_); refine zE 6 #[.int .i64 a1_0, .slice A1_1 l1_1.length c1_1] 28 ?_; intro gb178 hg w81 hbox hb; have BK178 := jA (hbox); have GW178 := zg0 hg HB; have GE178 := zg0 hg HB; replace HB := zS0 HB hb; clear hb hbox hg) | ((with_reducible refine jJ (N := 7) rfl ?_); refine zE 7 #[.int .i64 a2_0, .slice A2_1 l2_1.length c2_1] 28 ?_; intro gb179 hg w82 hbox hb; have BK179 := jA (hbox); have GW179 := zg1 hg HB GE178; have GE179 := zg1 hg HB GE178; replace HB := zS1 HB GE178 hb; have NB178_179 := zn hg BK178; replace BK178 := zB BK178 hb; have NB179_178 := jA NB178_179.out.symm; clear hb hbox hg) | ((with_reducible refine jJ (N := 10) rfl ?_); refine zE 10 #[.int .i64 0, .slice none 0 0] 28 ?_; intro gb180 hg w83 hbox hb; have BK180 := jA (hbox); have GW180 := zg2 hg HB GE178 GE179; have GE180 := zg2 hg HB GE178 GE179; replace HB := zS2 HB GE178 GE179 hb; have NB178_180 := zn hg BK178; replace BK178 := zB BK178 hb; have NB180_178 := jA NB178_180.out.symm; have NB179_180 := zn hg BK179; replace BK179 := zB BK179 hb; have NB180_179 := jA NB179_180.out.symm; clear hb hbox hg) | ((with_reducible refine jJ (N := 11) rfl ?_); refine zE 11 #[.int .i64 0, .slice none 0 0] 28 ?_; intro gb181 hg w84 hbox hb; have BK181 := jA (hbox); have GW181 := zg3 hg HB GE178 GE179 GE180; have GE181 := zg3 hg HB GE178 GE179 GE180; replace HB := zS3 HB GE178 GE179 GE180 hb; have NB178_181 := zn hg BK178; replace BK178 := zB BK178 hb; have NB181_178 := jA NB178_181.out.symm; have NB179_181 := zn hg BK179; replace BK179 := zB BK179 hb; have NB181_179 := jA NB179_181.out.symm; have NB180_181 := zn hg BK180; replace BK180 := zB BK180 hb; have NB181_180 := jA NB180_181.out.symm; clear hb hbox hg; have hnb85 := NB179_178.out; have hnc85 := NB178_179.out; have hnb86 := NB179_180.out; have hnc86 := NB180_179.out; have hnb87 := NB179_181.out; have hnc87 := NB181_179.out; have hcz88 := zc2 BK179) | ((with_reducible refine jK (f := 25) rfl ?_); refine zL (some 19) Try.func25 #[.slice A0 l0.length c0, .agg #[.int .i64 a2_0, .slice A2_1 l2_1.length c2_1]] ?_; (with_reducible refine (spec_IsMagazine.calls k _ _ l0 a2_0 _ _ l2_1 true _ ?side1 ?side2 ?side3 ?side4 A6.out).mono ?_); (case side1 => exact zs HR0 HB); (case side2 => exact HC0.out); (case side3 => exact zs HR2_1 HB); (case side4 => exact HC2_1.out); rintro e w89 ⟨rfl, hb⟩; refine ⟨_, rfl, ?_⟩; replace BK178 := zB BK178 hb; replace BK179 := zB BK179 hb; replace BK180 := zB BK180 hb; replace BK181 := zB BK181 hb; replace HB := zS4 HB GE178 GE179 GE180 GE181 hb; clear hb; have hnb90 := NB178_180.out; have hnc90 := NB180_178.out; have hnb91 := NB178_181.out; have hnc91 := NB181_178.out; have hcz92 := zc2 BK178) | ((with_reducible refine jK (f := 35) rfl ?_); refine zL (some 28) Try.func35 #[.slice A0 l0.length c0, .agg #[.int .i64 a1_0, .slice A1_1 l1_1.length c1_1], .string a3, .int .i64 a4] ?_; (with_reducible refine (spec_TakePieces.calls k _ _ l0 a1_0 _ _ l1_1 a3 a4 t183 t184 t187 _ ?side1 ?side2 ?side3 ?side4 A8.out).mono ?_); (case side1 => exact zs HR0 HB); (case side2 => exact HC0.out); (case side3 => exact zs HR1_1 HB); (case side4 => exact HC1_1.out); rintro e w93 ⟨v185, rfl, ho0, hb⟩; refine ⟨_, rfl, ?_⟩; have HO186 := jA (Kd.R_lower ho0 (below_size (zb4 HB GE178 GE179 GE180 GE181))); replace BK178 := zB BK178 hb; replace BK179 := zB BK179 hb; replace BK180 := zB BK180 hb; replace BK181 := zB BK181 hb; replace HB := zS4 HB GE178 GE179 GE180 GE181 hb; (try clear hb); (try clear hb2); (try clear hk); (try clear hi); (try clear ho0)) | ((with_reducible refine jJ (N := 13) rfl ?_); refine zE 13 #[.int .i64 0, .slice none 0 0] 28 ?_; intro gb188 hg w94 hbox hb; replace HO186 := jA (Kd.R_below (zo HO186) hb); have BK188 := jA (hbox); have GW188 := zg4 hg HB GE178 GE179 GE180 GE181; have GE188 := zg4 hg HB GE178 GE179 GE180 GE181; replace HB := zS4 HB GE178 GE179 GE180 GE181 hb; have NB178_188 := zn hg BK178; replace BK178 := zB BK178 hb; have NB188_178 := jA NB178_188.out.symm; have NB179_188 := zn hg BK179; replace BK179 := zB BK179 hb; have NB188_179 := jA NB179_188.out.symm; have NB180_188 := zn hg BK180; replace BK180 := zB BK180 hb; have NB188_180 := jA NB180_188.out.symm; have NB181_188 := zn hg BK181; replace BK181 := zB BK181 hb; have NB188_181 := jA NB181_188.out.symm; clear hb hbox hg; have hnb95 := NB188_178.out; have hnc95 := NB178_188.out; have hnb96 := NB188_179.out; have hnc96 := NB179_188.out; have hnb97 := NB188_180.out; have hnc97 := NB180_188.out; have hnb98 := NB188_181.out; have hnc98 := NB181_188.out; have hcz99 := zc2 BK188; obtain ⟨Ao100, co100, eo100⟩ := Kd.R_slice HO186.out; subst eo100; have hnb101 := NB180_181.out; have hnc101 := NB181_180.out; have hcz102 := zc2 BK180; have hcz103 := zc2 BK181))
   refine bodyPost_ret (results_list (rs := [.cell 10 28, .cell 11 28, .tmp 12]) rfl (by simp) (.cell gb180 28 #[.int .i64 0, .slice none 0 0] (0, 0) _ rfl (zP2 BK180 NB180_181 NB180_188) Try.underlying28 rfl zr (.cell gb181 28 #[.int .i64 0, .slice none 0 0] (0, 0) _ rfl (zP2 BK181 NB181_180 NB181_188) Try.underlying28 rfl zr (.tmp .nil)))) rfl ?_
   exact ⟨_, _, by first | rfl | (simp [errW_none, errW_some] <;> rfl) | (simp [*, errW_none, errW_some] <;> rfl), by first | exact Kd.R_nil _ _ _ _ _ | exact Kd.N_nil _ _ _ _ _ | exact Kd.V_nil _ _ _ _ _ | exact Kd.Q_nil _ _ _ _ _ | exact Kd.S_nil _ _ _ _ _, by first | exact Kd.R_nil _ _ _ _ _ | exact Kd.N_nil _ _ _ _ _ | exact Kd.V_nil _ _ _ _ _ | exact Kd.Q_nil _ _ _ _ _ | exact Kd.S_nil _ _ _ _ _, zb5 HB GE178 GE179 GE180 GE181 GE188⟩
 ·replace c7 := Bool.eq_false_iff.mpr c7
  subst c7
  rw [if_neg zfalse] at H
  simp only [jN, jQ] at H
  obtain ⟨rfl, rfl, rfl, rfl, rfl⟩ := H
  go_enter Try.func15, Try.ntmps15
  go_wp2_with (first | ((with_reducible refine jJ (N := 6) rfl ?_); refine zE 6 #[.int .i64 a1_0, .slice A1_1 l1_1.length c1_1] 28 ?_; intro gb178 hg w104 hbox hb; have BK178 := jA (hbox); have GW178 := zg0 hg HB; have GE178 := zg0 hg HB; replace HB := zS0 HB hb; clear hb hbox hg) | ((with_reducible refine jJ (N := 7) rfl ?_); refine zE 7 #[.int .i64 a2_0, .slice A2_1 l2_1.length c2_1] 28 ?_; intro gb179 hg w105 hbox hb; have BK179 := jA (hbox); have GW179 := zg1 hg HB GE178; have GE179 := zg1 hg HB GE178; replace HB := zS1 HB GE178 hb; have NB178_179 := zn hg BK178; replace BK178 := zB BK178 hb; have NB179_178 := jA NB178_179.out.symm; clear hb hbox hg) | ((with_reducible refine jJ (N := 10) rfl ?_); refine zE 10 #[.int .i64 0, .slice none 0 0] 28 ?_; intro gb180 hg w106 hbox hb; have BK180 := jA (hbox); have GW180 := zg2 hg HB GE178 GE179; have GE180 := zg2 hg HB GE178 GE179; replace HB := zS2 HB GE178 GE179 hb; have NB178_180 := zn hg BK178; replace BK178 := zB BK178 hb; have NB180_178 := jA NB178_180.out.symm; have NB179_180 := zn hg BK179; replace BK179 := zB BK179 hb; have NB180_179 := jA NB179_180.out.symm; clear hb hbox hg) | ((with_reducible refine jJ (N := 11) rfl ?_); refine zE 11 #[.int .i64 0, .slice none 0 0] 28 ?_; intro gb181 hg w107 hbox hb; have BK181 := jA (hbox); have GW181 := zg3 hg HB GE178 GE179 GE180; have GE181 := zg3 hg HB GE178 GE179 GE180; replace HB := zS3 HB GE178 GE179 GE180 hb; have NB178_181 := zn hg BK178; replace BK178 := zB BK178 hb; have NB181_178 := jA NB178_181.out.symm; have NB179_181 := zn hg BK179; replace BK179 := zB BK179 hb; have NB181_179 := jA NB179_181.out.symm; have NB180_181 := zn hg BK180; replace BK180 := zB BK180 hb; have NB181_180 := jA NB180_181.out.symm; clear hb hbox hg; have hnb108 := NB179_178.out; have hnc108 := NB178_179.out; have hnb109 := NB179_180.out; have hnc109 := NB180_179.out; have hnb110 := NB179_181.out; have hnc110 := NB181_179.out; have hcz111 := zc2 BK179) | ((with_reducible refine jK (f := 25) rfl ?_); refine zL (some 19) Try.func25 #[.slice A0 l0.length c0, .agg #[.int .i64 a2_0, .slice A2_1 l2_1.length c2_1]] ?_; (with_reducible refine (spec_IsMagazine.calls k _ _ l0 a2_0 _ _ l2_1 false _ ?side1 ?side2 ?side3 ?side4 A6.out).mono ?_); (case side1 => exact zs HR0 HB); (case side2 => exact HC0.out); (case side3 => exact zs HR2_1 HB); (case side4 => exact HC2_1.out); rintro e w112 ⟨rfl, hb⟩; refine ⟨_, rfl, ?_⟩; replace BK178 := zB BK178 hb; replace BK179 := zB BK179 hb; replace BK180 := zB BK180 hb; replace BK181 := zB BK181 hb; replace HB := zS4 HB GE178 GE179 GE180 GE181 hb; clear hb; have hnb113 := NB180_178.out; have hnc113 := NB178_180.out; have hnb114 := NB180_181.out; have hnc114 := NB181_180.out; have hcz115 := zc2 BK180; have hnb116 := NB181_178.out; have hnc116 := NB178_181.out; have hcz117 := zc2 BK181))
  refine bodyPost_ret (results_list (rs := [.cell 10 28, .cell 11 28, .tmp 12]) rfl (by simp) (.cell gb180 28 #[.int .i64 0, .slice none 0 0] (0, 0) _ rfl (zP1 BK180 NB180_181) Try.underlying28 rfl zr (.cell gb181 28 #[.int .i64 0, .slice none 0 0] (0, 0) _ rfl (zP1 BK181 NB181_180) Try.underlying28 rfl zr (.tmp .nil)))) rfl ?_
  exact ⟨_, _, by first | rfl | (simp [errW_none, errW_some] <;> rfl) | (simp [*, errW_none, errW_some] <;> rfl), by first | exact Kd.R_nil _ _ _ _ _ | exact Kd.N_nil _ _ _ _ _ | exact Kd.V_nil _ _ _ _ _ | exact Kd.Q_nil _ _ _ _ _ | exact Kd.S_nil _ _ _ _ _, by first | exact Kd.R_nil _ _ _ _ _ | exact Kd.N_nil _ _ _ _ _ | exact Kd.V_nil _ _ _ _ _ | exact Kd.Q_nil _ _ _ _ _ | exact Kd.S_nil _ _ _ _ _, zb4 HB GE178 GE179 GE180 GE181⟩

end Go.Proofs.Ytdgglhfnlljmeaa.PFnExactMovePieces
