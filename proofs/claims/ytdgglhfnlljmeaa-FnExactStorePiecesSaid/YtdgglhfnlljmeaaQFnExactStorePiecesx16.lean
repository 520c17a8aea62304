/- Functions and contracts that FnExactStorePieces reaches (17 of 17). -/
import Derived.Test.YtdgglhfnlljmeaaQFnExactStorePiecesx15
namespace Go.Proofs.Ytdgglhfnlljmeaa.PFnExactStorePieces
open Go.RowKit Go.Proofs.YtdgglhfnlljmeaaW.PrintWords Go.Proofs.YtdgglhfnlljmeaaW.PrintLast Go.Proofs.YtdgglhfnlljmeaaW.PrintMore
attribute [local go_sem] max2_int min2_int max_two min_two max_three min_three max_four min_four   -- for this text's walks alone
set_option linter.unusedVariables false
set_option linter.unusedSimpArgs false
open Go.Proofs.YtdgglhfnlljmeaaX

/-! ### spec_StorePieces: function 40 -/
def spec_StorePieces.f (k : Nat) (l0 : List (S65)) (a1_0 : Int) (l1_1 : List Int) (a2 : ByteArray) (a3 : Int) : Option (Int × List Int × Int) := (spec_l26Code.f k l0 a1_0 l1_1 a2 a3).bind fun t320 => (if t320 = 0 then ((spec_l03Find.f k l0 a2).bind fun t321 => ((spec_l26With.f a1_0 l1_1 t321 a3).bind fun bt322 => ((spec_IsMagazine.f k l0 bt322.1 bt322.2).bind fun t327 => (if t327 = true then ((spec_l26Lawful.f k l0 bt322.1 bt322.2).bind fun t328 => (if t328 = true then (some (bt322.1, bt322.2, 0)) else (some (0, ([] : List Int), 5)))) else (some (0, ([] : List Int), 5)))))) else (some (0, ([] : List Int), t320)))
theorem spec_StorePieces.mono : ∀ a0 a1 a2 a3 a4 k, LeO (spec_StorePieces.f k a0 a1 a2 a3 a4) (spec_StorePieces.f (k + 1) a0 a1 a2 a3 a4) := by
 intro a0 a1 a2 a3 a4 k
 unfold spec_StorePieces.f
 repeat' first
   | (with_reducible exact spec_IsMagazine.mono _ _ _ _)
   | (with_reducible exact spec_l03Find.mono _ _ _)
   | (with_reducible exact spec_l26Code.mono _ _ _ _ _ _)
   | (with_reducible exact spec_l26Lawful.mono _ _ _ _)
   | (with_reducible exact LeO.refl _)
   | (with_reducible exact LeO.none _)
   | (with_reducible refine LeO.ite ?_ ?_)
   | (with_reducible refine LeO.bind ?_ (fun _ => ?_))
   | exact spec_IsMagazine.mono _ _ _ _
   | exact spec_l03Find.mono _ _ _
   | exact spec_l26Code.mono _ _ _ _ _ _
   | exact spec_l26Lawful.mono _ _ _ _
   | exact LeO.none _
   | refine LeO.ite ?_ ?_
   | refine LeO.bind ?_ (fun _ => ?_)
def spec_StorePieces.T4 : Bool × List (List Nat × List Nat) := (true, [([], []), ([], []), ([], []), ([1, 2], [1, 2]), ([], []), ([0, 3, 4, 3], [0, 3, 4]), ([], []), ([6, 5, 5, 0, 1, 2, 3, 4, 5, 6], [5, 6])])
def spec_StorePieces.B4 : List Nat := [0, 0, 0, 6, 0, 31, 0, 127]
theorem spec_StorePieces.tab4 : rtab .any (opsOf Try.f40 4) = spec_StorePieces.T4 := by kernel_rfl
theorem spec_StorePieces.bits4 : waitsOk spec_StorePieces.T4.2 spec_StorePieces.B4 = true := by kernel_rfl
set_option maxHeartbeats 8000000 in
set_option maxRecDepth 100000 in
theorem spec_StorePieces.calls (k : Nat) (A0 : Option Addr) (c0 : Nat) (l0 : List (S65)) (a1_0 : Int) (A1_1 : Option Addr) (c1_1 : Nat) (l1_1 : List Int) (a2 : ByteArray) (a3 : Int) (r1 : Int) (r2 : List Int) (r3 : Int) (w : World) (hr0 : Kd.C k65 w A0 l0.length l0) (hc0 : l0.length ≤ c0) (hr1_1 : Kd.C (Kd.int .i64) w A1_1 l1_1.length l1_1) (hc1_1 : l1_1.length ≤ c1_1) (h : spec_StorePieces.f k l0 a1_0 l1_1 a2 a3 = some (r1, r2, r3)) :
  Calls Try.prog 40 #[.slice A0 l0.length c0, .agg #[.int .i64 a1_0, .slice A1_1 l1_1.length c1_1], .string a2, .int .i64 a3] w fun e w' => ∃ v1_ : Value, e = .returned (.tuple #[.agg #[.int .i64 r1, v1_], .int .i64 r3]) ∧ Kd.R (Kd.int .i64) 2 w' w.heap.size (fun _ => True) v1_ r2 ∧ Below w.heap.size w w' := by
 have hu28 := Try.underlying28
 have HR0 := jA hr0
 have HC0 := jA hc0
 clear hr0 hc0
 have HR1_1 := jA hr1_1
 have HC1_1 := jA hc1_1
 clear hr1_1 hc1_1
 have HB := jA (Below.refl w.heap.size w)
 have H : ((spec_l26Code.f k l0 a1_0 l1_1 a2 a3).bind fun t320 => (if t320 = 0 then ((spec_l03Find.f k l0 a2).bind fun t321 => ((spec_l26With.f a1_0 l1_1 t321 a3).bind fun bt322 => ((spec_IsMagazine.f k l0 bt322.1 bt322.2).bind fun t327 => (if t327 = true then ((spec_l26Lawful.f k l0 bt322.1 bt322.2).bind fun t328 => (if t328 = true then (some (bt322.1, bt322.2, 0)) else (some (0, ([] : List Int), 5)))) else (some (0, ([] : List Int), 5)))))) else (some (0, ([] : List Int), t320)))) = some (r1, r2, r3) := h
 clear h
 replace H := jP.mp H
 obtain ⟨t320, A50, H⟩ := H
 replace H : (if t320 = 0 then ((spec_l03Find.f k l0 a2).bind fun t321 => ((spec_l26With.f a1_0 l1_1 t321 a3).bind fun bt322 => ((spec_IsMagazine.f k l0 bt322.1 bt322.2).bind fun t327 => (if t327 = true then ((spec_l26Lawful.f k l0 bt322.1 bt322.2).bind fun t328 => (if t328 = true then (some (bt322.1, bt322.2, 0)) else (some (0, ([] : List Int), 5)))) else (some (0, ([] : List Int), 5)))))) else (some (0, ([] : List Int), t320))) = some (r1, r2, r3) := H
 have A5 := jA A50
 clear A50
 by_cases c6 : t320 = 0
 ·rw [if_pos c6] at H
  have c6b0 : (t320 == 0) = true := beq_iff_eq.mpr c6
  have c6b1 : (t320 != 0) = false := bne_eq_false_iff_eq.mpr c6
  clear c6
  replace H := jP.mp H
  obtain ⟨t321, A70, H⟩ := H
  replace H : ((spec_l26With.f a1_0 l1_1 t321 a3).bind fun bt322 => ((spec_IsMagazine.f k l0 bt322.1 bt322.2).bind fun t327 => (if t327 = true then ((spec_l26Lawful.f k l0 bt322.1 bt322.2).bind fun t328 => (if t328 = true then (some (bt322.1, bt322.2, 0)) else (some (0, ([] : List Int), 5)))) else (some (0, ([] : List Int), 5))))) = some (r1, r2, r3) := H
  have A7 := jA A70
  clear A70
  replace H := jP.mp H
  obtain ⟨⟨t322, t323⟩, A80, H⟩ := H
  replace H : ((spec_IsMagazine.f k l0 t322 t323).bind fun t327 => (if t327 = true then ((spec_l26Lawful.f k l0 t322 t323).bind fun t328 => (if t328 = true then (some (t322, t323, 0)) else (some (0, ([] : List Int), 5)))) else (some (0, ([] : List Int), 5)))) = some (r1, r2, r3) := H
  have A8 := jA A80
  clear A80
  replace H := jP.mp H
  obtain ⟨t327, A90, H⟩ := H
  replace H : (if t327 = true then ((spec_l26Lawful.f k l0 t322 t323).bind fun t328 => (if t328 = true then (some (t322, t323, 0)) else (some (0, ([] : List Int), 5)))) else (some (0, ([] : List Int), 5))) = some (r1, r2, r3) := H
  have A9 := jA A90
  clear A90
  by_cases c10 : t327 = true
  ·subst c10
   have H1 : ((spec_l26Lawful.f k l0 t322 t323).bind fun t328 => (if t328 = true then (some (t322, t323, 0)) else (some (0, ([] : List Int), 5)))) = some (r1, r2, r3) := by rw [if_pos rfl] at H; exact H
   clear H
   have H := H1
   clear H1
   replace H := jP.mp H
   obtain ⟨t328, A110, H⟩ := H
   replace H : (if t328 = true then (some (t322, t323, 0)) else (some (0, ([] : List Int), 5))) = some (r1, r2, r3) := H
   have A11 := jA A110
   clear A110
   by_cases c12 : t328 = true
   ·subst c12
    have H1 : (some (t322, t323, 0)) = some (r1, r2, r3) := by rw [if_pos rfl] at H; exact H
    clear H
    have H := H1
    clear H1
    simp only [Option.some.injEq, Prod.mk.injEq] at H
    obtain ⟨rfl, rfl, rfl⟩ := H
    go_enter Try.func40, Try.ntmps40
    try go_wp2_with (first | ((with_reducible refine jV (N := 5) rfl ?_); refine jU ?hg (N := 5) ?hd (cs := #[.int .i64 a1_0, .slice A1_1 l1_1.length c1_1]) (t := 28) ?hr ?_; (case hd => rfl); (case hg => rfl); (case hr => first | (go_simp; done) | (go_simp; rfl)); intro gb318 hg w13 hbox hb; have n0_ := jA (jJ (zb0 HB) hb); have n1_ := jA (hbox); have n2_ := jA ((by rw [hg]; exact (jF (zb0 HB)) : w.heap.size ≤ gb318)); have n3_ := jA ((by rw [hg]; exact (jF (zb0 HB)) : w.heap.size ≤ gb318)); clear HB; have HB := n0_; have BK318 := n1_; have GW318 := n2_; have GE318 := n3_; clear n0_ n1_ n2_ n3_; clear hb hbox hg) | ((with_reducible refine jV (N := 8) rfl ?_); refine jU ?hg (N := 8) ?hd (cs := #[.int .i64 0, .slice none 0 0]) (t := 28) ?hr ?_; (case hd => rfl); (case hg => rfl); (case hr => first | (go_simp; done) | (go_simp; rfl)); intro gb319 hg w14 hbox hb; have n0_ := jA (jO (g := gb318) (o := .cells #[.int .i64 a1_0, .slice A1_1 l1_1.length c1_1] 28 (0, 0)) (zk BK318) hb); have n1_ := jA (jJ (zb1 HB GE318) hb); have n2_ := jA (hbox); have n3_ := jA ((by rw [hg]; exact (jF (zb1 HB GE318)) : w.heap.size ≤ gb319)); have n4_ := jA ((by rw [hg]; exact (jF (zb1 HB GE318)) : w.heap.size ≤ gb319)); have n5_ := jA ((by rw [hg]; exact jN (blk_lt (g := gb318) (o := .cells #[.int .i64 a1_0, .slice A1_1 l1_1.length c1_1] 28 (0, 0)) (zk BK318)) : gb318 ≠ gb319)); have n6_ := jA n5_.out.symm; clear BK318; clear HB; have BK318 := n0_; have HB := n1_; have BK319 := n2_; have GW319 := n3_; have GE319 := n4_; have NB318_319 := n5_; have NB319_318 := n6_; clear n0_ n1_ n2_ n3_ n4_ n5_ n6_; clear hb hbox hg; have hnb15 := NB318_319.out; have hnc15 := NB319_318.out; have hcz16_0 : w14.cell? ⟨gb318, 0, none⟩ = some (.int .i64 a1_0) := (jD BK318.out 0).trans rfl; have hcz16_1 : w14.cell? ⟨gb318, 1, none⟩ = some (.slice A1_1 l1_1.length c1_1) := (jD BK318.out 1).trans rfl; have hfz16_0 := jC BK318.out 0; have hfz16_1 := jC BK318.out 1) | ((with_reducible refine jW (f := 69) rfl ?_); refine goesL_ (some 16) rfl rfl Try.func69 zr rfl #[.slice A0 l0.length c0, .agg #[.int .i64 a1_0, .slice A1_1 l1_1.length c1_1], .string a2, .int .i64 a3] rfl zm ?_; (with_reducible refine (spec_l26Code.calls k _ _ l0 a1_0 _ _ l1_1 a2 a3 t320 _ ?side1 ?side2 ?side3 ?side4 A5.out).mono ?_); (case side1 => exact zs HR0 HB); (case side2 => exact HC0.out); (case side3 => exact zs HR1_1 HB); (case side4 => exact HC1_1.out); rintro e w17 ⟨rfl, hb⟩; refine ⟨_, rfl, ?_⟩; have n0_ := jA (jO (g := gb318) (o := .cells #[.int .i64 a1_0, .slice A1_1 l1_1.length c1_1] 28 (0, 0)) (zk BK318) hb); have n1_ := jA (jO (g := gb319) (o := .cells #[.int .i64 0, .slice none 0 0] 28 (0, 0)) (zk BK319) hb); have n2_ := jA (jJ (zb2 HB GE318 GE319) hb); clear BK318; clear BK319; clear HB; have BK318 := n0_; have BK319 := n1_; have HB := n2_; clear n0_ n1_ n2_; (try clear hb); (try clear hb2); (try clear hk); (try clear hi)))
    have n0_ := jA (jI BK318.out)
    have n1_ := jA (jI BK319.out)
    have n2_ := jA (below_drew1 HB.out)
    clear BK318
    clear BK319
    clear HB
    have BK318 := n0_
    have BK319 := n1_
    have HB := n2_
    clear n0_ n1_ n2_
    refine start_ (n := 8) (S := fun w' => w'.cell? ⟨gb318, 0, none⟩ = some (.int .i64 a1_0) ∧ w'.cell? ⟨gb318, 1, none⟩ = some (.slice A1_1 l1_1.length c1_1)) (ds := []) m8_0 zr rfl rfl ⟨(jD BK318.out 0).trans rfl, (jD BK318.out 1).trans rfl⟩ (fun hHeld => ?_); refine with_tabW spec_StorePieces.tab4 spec_StorePieces.bits4 (fun HT_ HW_ => ?_)
    generalize w17.drew = w18 at BK318 BK319 HB hHeld ⊢
    refine zp HT_ 1 22 m8_40 ?_
    refine zp HT_ 2 23 m8_60 ?_
    refine zp HT_ 4 25 m8_68 ?_
    refine zt2 HT_ HW_ hHeld 0 21 m8_e8 ?_
    refine join_ (σ := Value × Nat) 1 m8_fe (fun s_ => [(24, .int .i64 t321), (26, .agg #[.int .i64 t322, s_.1]), (11, .pointer (some ⟨s_.2, 0, none⟩))]) (fun s_ w' => (w'.cell? ⟨gb318, 0, none⟩ = some (.int .i64 a1_0) ∧ w'.cell? ⟨gb318, 1, none⟩ = some (.slice A1_1 l1_1.length c1_1)) ∧ (Kd.R (Kd.int .i64) 2 w' w.heap.size (fun _ => True) s_.1 t323) ∧ (w'.heap[gb318]? = some (.cells #[.int .i64 a1_0, .slice A1_1 l1_1.length c1_1] 28 (0, 0))) ∧ (w'.heap[gb319]? = some (.cells #[.int .i64 0, .slice none 0 0] 28 (0, 0))) ∧ (w'.heap[s_.2]? = some (.cells #[.int .i64 0, .slice none 0 0] 28 (0, 0))) ∧ (w.heap.size ≤ s_.2) ∧ (w.heap.size ≤ s_.2) ∧ (gb318 ≠ s_.2) ∧ (s_.2 ≠ gb318) ∧ (gb319 ≠ s_.2) ∧ (s_.2 ≠ gb319) ∧ (Below w.heap.size w w')) ?_ ?_
    rotate_left
    ·intro hCont
     refine two_ (i := 3) (j := 6) (Ni := some 24) (Nj := some 11) m8_f8 m8_ea rfl rfl rfl rfl (two_of HT_.out zr) (by decide) (by decide) (fun K hK => ?_) (fun K hK => ?_)
     ·skip
      refine goes_ Try.func73 zr rfl #[.slice A0 l0.length c0, .string a2] (by rfl) rfl rfl zm ?_
      with_reducible refine (spec_l03Find.calls k _ _ l0 a2 t321 _ ?side1 ?side2 A7.out).mono ?_
      (case side1 => exact zs HR0 HB)
      (case side2 => exact HC0.out)
      rintro e w' ⟨rfl, ⟨nd, rfl⟩⟩
      refine ⟨_, rfl, ?_⟩
      refine hK.out _ _ ⟨(jD BK318.out 0).trans rfl, (jD BK318.out 1).trans rfl⟩ (fun hHeld => ?_)
      clear hK K
      refine norm_ (a' := ?_) ?_ ?_
      rotate_left
      ·show Act.put _ (some 24) _ = _
       simp only [Act.put, jL, jS, jT, i64_w, i32_w]
       rfl
      refine two_ (i := 5) (j := 6) (Ni := some 26) (Nj := some 11) m8_fc m8_fa rfl rfl rfl rfl (two_of HT_.out zr) (by decide) (by decide) (fun K hK => ?_) (fun K hK => ?_)
      ·skip
       refine goes_ Try.func72 zr rfl #[.agg #[.int .i64 a1_0, .slice A1_1 l1_1.length c1_1], .int .i64 t321, .int .i64 a3] (by rfl) rfl rfl zm ?_
       with_reducible refine (spec_l26With.calls a1_0 _ _ l1_1 t321 a3 t322 t323 _ ?side1 ?side2 A8.out).mono ?_
       (case side1 => repeat (first | exact HR1_1.out | exact (Kd.C_below HR1_1.out (zb2 HB GE318 GE319)) | (with_reducible refine Kd.C_alloc ?_ _) | (with_reducible refine Kd.C_drewN ?_ _) | (with_reducible refine Kd.C_drew ?_)))
       (case side2 => exact HC1_1.out)
       rintro e w19 ⟨v324, rfl, ho0, hb⟩
       refine ⟨_, rfl, ?_⟩
       have n0_ := jA (Kd.R_lower ho0 (jF (zb2 HB GE318 GE319)))
       have n1_ := jA (jO (g := gb318) (o := .cells #[.int .i64 a1_0, .slice A1_1 l1_1.length c1_1] 28 (0, 0)) (zk BK318) hb)
       have n2_ := jA (jO (g := gb319) (o := .cells #[.int .i64 0, .slice none 0 0] 28 (0, 0)) (zk BK319) hb)
       have n3_ := jA (jJ (zb2 HB GE318 GE319) hb)
       clear BK318
       clear BK319
       clear HB
       have HO325 := n0_
       have BK318 := n1_
       have BK319 := n2_
       have HB := n3_
       clear n0_ n1_ n2_ n3_
       (try clear hb)
       (try clear hb2)
       (try clear hk)
       (try clear hi)
       (try clear ho0)
       refine hK.out _ _ ⟨(jD BK318.out 0).trans rfl, (jD BK318.out 1).trans rfl⟩ (fun hHeld => ?_)
       clear hK K
       refine norm_ (a' := ?_) ?_ ?_
       rotate_left
       ·show Act.put _ (some 26) _ = _
        simp only [Act.put, jL, jS, jT, i64_w, i32_w]
        rfl
       refine one_ (i := 6) (N := some 11) m8_fe rfl rfl (one_of HT_.out zr) (by decide) (fun K hK => ?_)
       refine box_step ?hg (N := 11) ?hd (cs := #[.int .i64 0, .slice none 0 0]) (t := 28) ?hr ?_; (case hd => rfl); (case hg => rfl); (case hr => first | (go_simp; done) | (go_simp; rfl))
       intro gb326 hg w20 hbox hb
       have n0_ := jA (Kd.R_below (zo HO325) hb)
       have n1_ := jA (jO (g := gb318) (o := .cells #[.int .i64 a1_0, .slice A1_1 l1_1.length c1_1] 28 (0, 0)) (zk BK318) hb)
       have n2_ := jA (jO (g := gb319) (o := .cells #[.int .i64 0, .slice none 0 0] 28 (0, 0)) (zk BK319) hb)
       have n3_ := jA (jJ (zb2 HB GE318 GE319) hb)
       have n4_ := jA (hbox)
       have n5_ := jA ((by rw [hg]; exact (jF (zb2 HB GE318 GE319)) : w.heap.size ≤ gb326))
       have n6_ := jA ((by rw [hg]; exact (jF (zb2 HB GE318 GE319)) : w.heap.size ≤ gb326))
       have n7_ := jA ((by rw [hg]; exact jN (blk_lt (g := gb318) (o := .cells #[.int .i64 a1_0, .slice A1_1 l1_1.length c1_1] 28 (0, 0)) (zk BK318)) : gb318 ≠ gb326))
       have n8_ := jA ((by rw [hg]; exact Nat.ne_of_gt (blk_lt (g := gb318) (o := .cells #[.int .i64 a1_0, .slice A1_1 l1_1.length c1_1] 28 (0, 0)) (zk BK318)) : gb326 ≠ gb318))
       have n9_ := jA ((by rw [hg]; exact jN (blk_lt (g := gb319) (o := .cells #[.int .i64 0, .slice none 0 0] 28 (0, 0)) (zk BK319)) : gb319 ≠ gb326))
       have n10_ := jA ((by rw [hg]; exact Nat.ne_of_gt (blk_lt (g := gb319) (o := .cells #[.int .i64 0, .slice none 0 0] 28 (0, 0)) (zk BK319)) : gb326 ≠ gb319))
       clear HO325
       clear BK318
       clear BK319
       clear HB
       have HO325 := n0_
       have BK318 := n1_
       have BK319 := n2_
       have HB := n3_
       have BK326 := n4_
       have GW326 := n5_
       have GE326 := n6_
       have NB318_326 := n7_
       have NB326_318 := n8_
       have NB319_326 := n9_
       have NB326_319 := n10_
       clear n0_ n1_ n2_ n3_ n4_ n5_ n6_ n7_ n8_ n9_ n10_
       clear hb hbox hg
       refine hK.out _ _ ⟨(jD BK318.out 0).trans rfl, (jD BK318.out 1).trans rfl⟩ (fun hHeld => ?_)
       clear hK K
       refine norm_ (a' := ?_) ?_ ?_
       rotate_left
       ·show Act.put _ (some 11) _ = _
        simp only [Act.put, jL, jS, jT, i64_w, i32_w]
        rfl
       exact norm_ (by simp only [putAll, Act.put, jL, jS, jT]) (hCont (v324, gb326) _ ⟨hHeld, (zo HO325), (zk BK318), (zk BK319), (zk BK326), GW326.out, GE326.out, NB318_326.out, NB326_318.out, NB319_326.out, NB326_319.out, (zb3 HB GE318 GE319 GE326)⟩)
      ·skip
       refine box_step ?hg (N := 11) ?hd (cs := #[.int .i64 0, .slice none 0 0]) (t := 28) ?hr ?_; (case hd => rfl); (case hg => rfl); (case hr => first | (go_simp; done) | (go_simp; rfl))
       intro gb326 hg w19 hbox hb
       have n0_ := jA (jO (g := gb318) (o := .cells #[.int .i64 a1_0, .slice A1_1 l1_1.length c1_1] 28 (0, 0)) (zk BK318) hb)
       have n1_ := jA (jO (g := gb319) (o := .cells #[.int .i64 0, .slice none 0 0] 28 (0, 0)) (zk BK319) hb)
       have n2_ := jA (jJ (zb2 HB GE318 GE319) hb)
       have n3_ := jA (hbox)
       have n4_ := jA ((by rw [hg]; exact (jF (zb2 HB GE318 GE319)) : w.heap.size ≤ gb326))
       have n5_ := jA ((by rw [hg]; exact (jF (zb2 HB GE318 GE319)) : w.heap.size ≤ gb326))
       have n6_ := jA ((by rw [hg]; exact jN (blk_lt (g := gb318) (o := .cells #[.int .i64 a1_0, .slice A1_1 l1_1.length c1_1] 28 (0, 0)) (zk BK318)) : gb318 ≠ gb326))
       have n7_ := jA ((by rw [hg]; exact Nat.ne_of_gt (blk_lt (g := gb318) (o := .cells #[.int .i64 a1_0, .slice A1_1 l1_1.length c1_1] 28 (0, 0)) (zk BK318)) : gb326 ≠ gb318))
       have n8_ := jA ((by rw [hg]; exact jN (blk_lt (g := gb319) (o := .cells #[.int .i64 0, .slice none 0 0] 28 (0, 0)) (zk BK319)) : gb319 ≠ gb326))
       have n9_ := jA ((by rw [hg]; exact Nat.ne_of_gt (blk_lt (g := gb319) (o := .cells #[.int .i64 0, .slice none 0 0] 28 (0, 0)) (zk BK319)) : gb326 ≠ gb319))
       clear BK318
       clear BK319
       clear HB
       have BK318 := n0_
       have BK319 := n1_
       have HB := n2_
       have BK326 := n3_
       have GW326 := n4_
       have GE326 := n5_
       have NB318_326 := n6_
       have NB326_318 := n7_
       have NB319_326 := n8_
       have NB326_319 := n9_
       clear n0_ n1_ n2_ n3_ n4_ n5_ n6_ n7_ n8_ n9_
       clear hb hbox hg
       refine hK.out _ _ ⟨(jD BK318.out 0).trans rfl, (jD BK318.out 1).trans rfl⟩ (fun hHeld => ?_)
       clear hK K
       refine norm_ (a' := ?_) ?_ ?_
       rotate_left
       ·show Act.put _ (some 11) _ = _
        simp only [Act.put, jL, jS, jT, i64_w, i32_w]
        rfl
       refine one_ (i := 5) (N := some 26) m8_fe rfl rfl (one_of HT_.out zr) (by decide) (fun K hK => ?_)
       refine goes_ Try.func72 zr rfl #[.agg #[.int .i64 a1_0, .slice A1_1 l1_1.length c1_1], .int .i64 t321, .int .i64 a3] (by rfl) rfl rfl zm ?_
       with_reducible refine (spec_l26With.calls a1_0 _ _ l1_1 t321 a3 t322 t323 _ ?side1 ?side2 A8.out).mono ?_
       (case side1 => exact zs HR1_1 HB)
       (case side2 => exact HC1_1.out)
       rintro e w20 ⟨v324, rfl, ho0, hb⟩
       refine ⟨_, rfl, ?_⟩
       have n0_ := jA (Kd.R_lower ho0 (jF (zb3 HB GE318 GE319 GE326)))
       have n1_ := jA (jO (g := gb318) (o := .cells #[.int .i64 a1_0, .slice A1_1 l1_1.length c1_1] 28 (0, 0)) (zk BK318) hb)
       have n2_ := jA (jO (g := gb319) (o := .cells #[.int .i64 0, .slice none 0 0] 28 (0, 0)) (zk BK319) hb)
       have n3_ := jA (jO (g := gb326) (o := .cells #[.int .i64 0, .slice none 0 0] 28 (0, 0)) (zk BK326) hb)
       have n4_ := jA (jJ (zb3 HB GE318 GE319 GE326) hb)
       clear BK318
       clear BK319
       clear BK326
       clear HB
       have HO325 := n0_
       have BK318 := n1_
       have BK319 := n2_
       have BK326 := n3_
       have HB := n4_
       clear n0_ n1_ n2_ n3_ n4_
       (try clear hb)
       (try clear hb2)
       (try clear hk)
       (try clear hi)
       (try clear ho0)
       refine hK.out _ _ ⟨(jD BK318.out 0).trans rfl, (jD BK318.out 1).trans rfl⟩ (fun hHeld => ?_)
       clear hK K
       refine norm_ (a' := ?_) ?_ ?_
       rotate_left
       ·show Act.put _ (some 26) _ = _
        simp only [Act.put, jL, jS, jT, i64_w, i32_w]
        rfl
       exact norm_ (by simp only [putAll, Act.put, jL, jS, jT]) (hCont (v324, gb326) _ ⟨hHeld, (zo HO325), (zk BK318), (zk BK319), (zk BK326), GW326.out, GE326.out, NB318_326.out, NB326_318.out, NB319_326.out, NB326_319.out, (zb3 HB GE318 GE319 GE326)⟩)
     ·skip
      refine box_step ?hg (N := 11) ?hd (cs := #[.int .i64 0, .slice none 0 0]) (t := 28) ?hr ?_; (case hd => rfl); (case hg => rfl); (case hr => first | (go_simp; done) | (go_simp; rfl))
      intro gb326 hg w19 hbox hb
      have n0_ := jA (jO (g := gb318) (o := .cells #[.int .i64 a1_0, .slice A1_1 l1_1.length c1_1] 28 (0, 0)) (zk BK318) hb)
      have n1_ := jA (jO (g := gb319) (o := .cells #[.int .i64 0, .slice none 0 0] 28 (0, 0)) (zk BK319) hb)
      have n2_ := jA (jJ (zb2 HB GE318 GE319) hb)
      have n3_ := jA (hbox)
      have n4_ := jA ((by rw [hg]; exact (jF (zb2 HB GE318 GE319)) : w.heap.size ≤ gb326))
      have n5_ := jA ((by rw [hg]; exact (jF (zb2 HB GE318 GE319)) : w.heap.size ≤ gb326))
      have n6_ := jA ((by rw [hg]; exact jN (blk_lt (g := gb318) (o := .cells #[.int .i64 a1_0, .slice A1_1 l1_1.length c1_1] 28 (0, 0)) (zk BK318)) : gb318 ≠ gb326))
      have n7_ := jA ((by rw [hg]; exact Nat.ne_of_gt (blk_lt (g := gb318) (o := .cells #[.int .i64 a1_0, .slice A1_1 l1_1.length c1_1] 28 (0, 0)) (zk BK318)) : gb326 ≠ gb318))
      have n8_ := jA ((by rw [hg]; exact jN (blk_lt (g := gb319) (o := .cells #[.int .i64 0, .slice none 0 0] 28 (0, 0)) (zk BK319)) : gb319 ≠ gb326))
      have n9_ := jA ((by rw [hg]; exact Nat.ne_of_gt (blk_lt (g := gb319) (o := .cells #[.int .i64 0, .slice none 0 0] 28 (0, 0)) (zk BK319)) : gb326 ≠ gb319))
      clear BK318
      clear BK319
      clear HB
      have BK318 := n0_
      have BK319 := n1_
      have HB := n2_
      have BK326 := n3_
      have GW326 := n4_
      have GE326 := n5_
      have NB318_326 := n6_
      have NB326_318 := n7_
      have NB319_326 := n8_
      have NB326_319 := n9_
      clear n0_ n1_ n2_ n3_ n4_ n5_ n6_ n7_ n8_ n9_
      clear hb hbox hg
      refine hK.out _ _ ⟨(jD BK318.out 0).trans rfl, (jD BK318.out 1).trans rfl⟩ (fun hHeld => ?_)
      clear hK K
      refine norm_ (a' := ?_) ?_ ?_
      rotate_left
      ·show Act.put _ (some 11) _ = _
       simp only [Act.put, jL, jS, jT, i64_w, i32_w]
       rfl
      refine one_ (i := 3) (N := some 24) m8_fa rfl rfl (one_of HT_.out zr) (by decide) (fun K hK => ?_)
      refine goes_ Try.func73 zr rfl #[.slice A0 l0.length c0, .string a2] (by rfl) rfl rfl zm ?_
      with_reducible refine (spec_l03Find.calls k _ _ l0 a2 t321 _ ?side1 ?side2 A7.out).mono ?_
      (case side1 => exact zs HR0 HB)
      (case side2 => exact HC0.out)
      rintro e w' ⟨rfl, ⟨nd, rfl⟩⟩
      refine ⟨_, rfl, ?_⟩
      refine hK.out _ _ ⟨(jD BK318.out 0).trans rfl, (jD BK318.out 1).trans rfl⟩ (fun hHeld => ?_)
      clear hK K
      refine norm_ (a' := ?_) ?_ ?_
      rotate_left
      ·show Act.put _ (some 24) _ = _
       simp only [Act.put, jL, jS, jT, i64_w, i32_w]
       rfl
      refine one_ (i := 5) (N := some 26) m8_fe rfl rfl (one_of HT_.out zr) (by decide) (fun K hK => ?_)
      refine goes_ Try.func72 zr rfl #[.agg #[.int .i64 a1_0, .slice A1_1 l1_1.length c1_1], .int .i64 t321, .int .i64 a3] (by rfl) rfl rfl zm ?_
      with_reducible refine (spec_l26With.calls a1_0 _ _ l1_1 t321 a3 t322 t323 _ ?side1 ?side2 A8.out).mono ?_
      (case side1 => repeat (first | exact HR1_1.out | exact (Kd.C_below HR1_1.out (zb3 HB GE318 GE319 GE326)) | (with_reducible refine Kd.C_alloc ?_ _) | (with_reducible refine Kd.C_drewN ?_ _) | (with_reducible refine Kd.C_drew ?_)))
      (case side2 => exact HC1_1.out)
      rintro e w20 ⟨v324, rfl, ho0, hb⟩
      refine ⟨_, rfl, ?_⟩
      have n0_ := jA (Kd.R_lower ho0 (jF (zb3 HB GE318 GE319 GE326)))
      have n1_ := jA (jO (g := gb318) (o := .cells #[.int .i64 a1_0, .slice A1_1 l1_1.length c1_1] 28 (0, 0)) (zk BK318) hb)
      have n2_ := jA (jO (g := gb319) (o := .cells #[.int .i64 0, .slice none 0 0] 28 (0, 0)) (zk BK319) hb)
      have n3_ := jA (jO (g := gb326) (o := .cells #[.int .i64 0, .slice none 0 0] 28 (0, 0)) (zk BK326) hb)
      have n4_ := jA (jJ (zb3 HB GE318 GE319 GE326) hb)
      clear BK318
      clear BK319
      clear BK326
      clear HB
      have HO325 := n0_
      have BK318 := n1_
      have BK319 := n2_
      have BK326 := n3_
      have HB := n4_
      clear n0_ n1_ n2_ n3_ n4_
      (try clear hb)
      (try clear hb2)
      (try clear hk)
      (try clear hi)
      (try clear ho0)
      refine hK.out _ _ ⟨(jD BK318.out 0).trans rfl, (jD BK318.out 1).trans rfl⟩ (fun hHeld => ?_)
      clear hK K
      refine norm_ (a' := ?_) ?_ ?_
      rotate_left
      ·show Act.put _ (some 26) _ = _
       simp only [Act.put, jL, jS, jT, i64_w, i32_w]
       rfl
      exact norm_ (by simp only [putAll, Act.put, jL, jS, jT]) (hCont (v324, gb326) _ ⟨hHeld, (zo HO325), (zk BK318), (zk BK319), (zk BK326), GW326.out, GE326.out, NB318_326.out, NB326_318.out, NB319_326.out, NB326_319.out, (zb3 HB GE318 GE319 GE326)⟩)
    rintro ⟨v324, gb326⟩ w21 ⟨hS_, h0_, h1_, h2_, h3_, h4_, h5_, h6_, h7_, h8_, h9_, h10_⟩
    have n0_ : Aside0 (Kd.R (Kd.int .i64) 2 w21 w.heap.size (fun _ => True) v324 t323) := ⟨h0_⟩
    have n1_ : Aside0 (w21.heap[gb318]? = some (.cells #[.int .i64 a1_0, .slice A1_1 l1_1.length c1_1] 28 (0, 0))) := ⟨h1_⟩
    have n2_ : Aside0 (w21.heap[gb319]? = some (.cells #[.int .i64 0, .slice none 0 0] 28 (0, 0))) := ⟨h2_⟩
    have n3_ : Aside0 (w21.heap[gb326]? = some (.cells #[.int .i64 0, .slice none 0 0] 28 (0, 0))) := ⟨h3_⟩
    have n4_ : Aside0 (w.heap.size ≤ gb326) := ⟨h4_⟩
    have n5_ : Aside0 (w.heap.size ≤ gb326) := ⟨h5_⟩
    have n6_ : Aside0 (gb318 ≠ gb326) := ⟨h6_⟩
    have n7_ : Aside0 (gb326 ≠ gb318) := ⟨h7_⟩
    have n8_ : Aside0 (gb319 ≠ gb326) := ⟨h8_⟩
    have n9_ : Aside0 (gb326 ≠ gb319) := ⟨h9_⟩
    have n10_ : Aside0 (Below w.heap.size w w21) := ⟨h10_⟩
    clear BK318
    clear BK319
    clear HB
    clear h0_ h1_ h2_ h3_ h4_ h5_ h6_ h7_ h8_ h9_ h10_
    have HO325 := n0_
    have BK318 := n1_
    have BK319 := n2_
    have BK326 := n3_
    have GW326 := n4_
    have GE326 := n5_
    have NB318_326 := n6_
    have NB326_318 := n7_
    have NB319_326 := n8_
    have NB326_319 := n9_
    have HB := n10_
    clear n0_ n1_ n2_ n3_ n4_ n5_ n6_ n7_ n8_ n9_ n10_
    have hHeld : w21.cell? ⟨gb318, 0, none⟩ = some (.int .i64 a1_0) ∧ w21.cell? ⟨gb318, 1, none⟩ = some (.slice A1_1 l1_1.length c1_1) := hS_
    obtain ⟨Ao23, co23, eo23⟩ := Kd.R_slice HO325.out
    (first | subst eo23 | (injection eo23 with f1_ f2_ f3_; have f4_ := f1_.symm; have f5_ := f3_.symm; clear f1_ f2_ f3_; subst f4_; subst f5_))
    refine norm_ (a' := ?_) ?_ ?_
    rotate_left
    ·simp only [putAll, Act.put, jL, jS, jT]
     rfl
    refine one_ (i := 7) (N := none) m8_ff rfl rfl (one_of HT_.out zr) (by decide) (fun K hK => ?_)
    have hs22 : w21.cell? ⟨gb326, 0, none⟩ = some (.int .i64 0) := (jD BK326.out 0).trans rfl
    have hfs22 := jC BK326.out 0
    have hns22_0 := NB318_326.out
    have hns22_1 := NB319_326.out
    have hms22_0 := NB326_318.out
    have hms22_1 := NB326_319.out
    have hs24 : w21.cell? ⟨gb326, 1, none⟩ = some (.slice none 0 0) := (jD BK326.out 1).trans rfl
    have hfs24 := jC BK326.out 1
    have hns24_0 := NB318_326.out
    have hns24_1 := NB319_326.out
    have hms24_0 := NB326_318.out
    have hms24_1 := NB326_319.out
    refine skip_ (w1 := ?_) (by rfl) rfl ?_ ?_
    rotate_left
    ·go_simp
     rfl
    refine hK.out _ _ ⟨((jX (p := ⟨gb326, _, none⟩) NB318_326.out _).trans (((jX (p := ⟨gb326, _, none⟩) NB318_326.out _).trans (hHeld.1)))), ((jX (p := ⟨gb326, _, none⟩) NB318_326.out _).trans (((jX (p := ⟨gb326, _, none⟩) NB318_326.out _).trans (hHeld.2))))⟩ (fun hHeld => ?_)
    clear hK K
    refine done_ (done_of HT_.out zr) ?_
    have hnb25 := NB326_318.out
    have hnc25 := NB318_326.out
    have hnb26 := NB326_319.out
    have hnc26 := NB319_326.out
    have hcz27_0 : w21.cell? ⟨gb326, 0, none⟩ = some (.int .i64 0) := (jD BK326.out 0).trans rfl
    have hcz27_1 : w21.cell? ⟨gb326, 1, none⟩ = some (.slice none 0 0) := (jD BK326.out 1).trans rfl
    have hfz27_0 := jC BK326.out 0
    have hfz27_1 := jC BK326.out 1
    try go_wp2_with (first | ((with_reducible refine jW (f := 25) rfl ?_); refine goesL_ (some 29) rfl rfl Try.func25 zr rfl #[.slice A0 l0.length c0, .agg #[.int .i64 t322, .slice Ao23 t323.length co23]] rfl zm ?_; (with_reducible refine (spec_IsMagazine.calls k _ _ l0 t322 _ _ t323 true _ ?side1 ?side2 ?side3 ?side4 A9.out).mono ?_); (case side1 => exact Kd.C_below HR0.out (zb3 HB GE318 GE319 GE326)); (case side2 => exact HC0.out); (case side3 => refine (jb (e := 2) (base := w.heap.size) (ok := fun k_ => True) (n := t323.length) (c := co23) ?_).2.2; exact (by (with_reducible repeat (first | apply Kd.R_alloc | apply Kd.R_drewN | apply Kd.R_drew)); exact (Kd.R_mono (Kd.R_far (p := ⟨gb326, 1, none⟩) (Kd.R_far (p := ⟨gb326, 0, none⟩) (Kd.R_types HO325.out BK326.out (by decide)) (fun _ hk => hk.2) (.int .i64 t322)) (fun _ hk => hk.2) (.slice Ao23 t323.length co23)) (fun _ h_ => h_.1)))); (case side4 => exact (jb HO325.out).2.1); rintro e w28 ⟨rfl, hb⟩; refine ⟨_, rfl, ?_⟩; have n0_ := jA (Kd.R_below (by (with_reducible repeat (first | apply Kd.R_alloc | apply Kd.R_drewN | apply Kd.R_drew)); exact (Kd.R_mono (Kd.R_far (p := ⟨gb326, 1, none⟩) (Kd.R_far (p := ⟨gb326, 0, none⟩) (Kd.R_types HO325.out BK326.out (by decide)) (fun _ hk => hk.2) (.int .i64 t322)) (fun _ hk => hk.2) (.slice Ao23 t323.length co23)) (fun _ h_ => h_.1))) hb); have n1_ := jA (jO (g := gb318) (o := .cells #[.int .i64 a1_0, .slice A1_1 l1_1.length c1_1] 28 (0, 0)) (by (with_reducible repeat (first | refine jG ?_ _ | refine jI ?_ | refine jH ?_ _)); refine ja ?_ NB318_326.out _; (with_reducible repeat (first | refine jG ?_ _ | refine jI ?_ | refine jH ?_ _)); refine ja ?_ NB318_326.out _; (with_reducible repeat (first | refine jG ?_ _ | refine jI ?_ | refine jH ?_ _)); exact BK318.out) hb); have n2_ := jA (jO (g := gb319) (o := .cells #[.int .i64 0, .slice none 0 0] 28 (0, 0)) (by (with_reducible repeat (first | refine jG ?_ _ | refine jI ?_ | refine jH ?_ _)); refine ja ?_ NB319_326.out _; (with_reducible repeat (first | refine jG ?_ _ | refine jI ?_ | refine jH ?_ _)); refine ja ?_ NB319_326.out _; (with_reducible repeat (first | refine jG ?_ _ | refine jI ?_ | refine jH ?_ _)); exact BK319.out) hb); have n3_ := jA (jO (g := gb326) (o := .cells #[.int .i64 t322, .slice Ao23 t323.length co23] 28 (0, 0)) (by (with_reducible repeat (first | refine jG ?_ _ | refine jI ?_ | refine jH ?_ _)); refine jZ (cs := #[.int .i64 t322, .slice none 0 0]) ?_ 1 _ rfl; (with_reducible repeat (first | refine jG ?_ _ | refine jI ?_ | refine jH ?_ _)); refine jZ (cs := #[.int .i64 0, .slice none 0 0]) ?_ 0 _ rfl; (with_reducible repeat (first | refine jG ?_ _ | refine jI ?_ | refine jH ?_ _)); exact BK326.out) hb); have n4_ := jA (jJ (zb3 HB GE318 GE319 GE326) hb); clear HO325; clear BK318; clear BK319; clear BK326; clear HB; have HO325 := n0_; have BK318 := n1_; have BK319 := n2_; have BK326 := n3_; have HB := n4_; clear n0_ n1_ n2_ n3_ n4_; (try clear hb); (try clear hb2); (try clear hk); (try clear hi); have hcz29_0 : w28.cell? ⟨gb326, 0, none⟩ = some (.int .i64 t322) := (jD BK326.out 0).trans rfl; have hcz29_1 : w28.cell? ⟨gb326, 1, none⟩ = some (.slice Ao23 t323.length co23) := (jD BK326.out 1).trans rfl; have hfz29_0 := jC BK326.out 0; have hfz29_1 := jC BK326.out 1) | (go_at_call 65; (with_reducible refine (spec_l26Lawful.calls k _ _ l0 t322 _ _ t323 true _ ?side1 ?side2 ?side3 ?side4 A11.out).mono ?_); (case side1 => exact zs HR0 HB); (case side2 => exact HC0.out); (case side3 => repeat (first | exact (jb HO325.out).2.2 | (with_reducible refine Kd.C_alloc ?_ _) | (with_reducible refine Kd.C_drewN ?_ _) | (with_reducible refine Kd.C_drew ?_))); (case side4 => exact (jb HO325.out).2.1); rintro e w30 ⟨rfl, hb⟩; have n0_ := jA (Kd.R_below (zo HO325) hb); have n1_ := jA (jO (g := gb318) (o := .cells #[.int .i64 a1_0, .slice A1_1 l1_1.length c1_1] 28 (0, 0)) (zk BK318) hb); have n2_ := jA (jO (g := gb319) (o := .cells #[.int .i64 0, .slice none 0 0] 28 (0, 0)) (zk BK319) hb); have n3_ := jA (jO (g := gb326) (o := .cells #[.int .i64 t322, .slice Ao23 t323.length co23] 28 (0, 0)) (zk BK326) hb); have n4_ := jA (jJ (zb3 HB GE318 GE319 GE326) hb); clear HO325; clear BK318; clear BK319; clear BK326; clear HB; have HO325 := n0_; have BK318 := n1_; have BK319 := n2_; have BK326 := n3_; have HB := n4_; clear n0_ n1_ n2_ n3_ n4_; (try clear hb); (try clear hb2); (try clear hk); (try clear hi); have hcz31_0 : w30.cell? ⟨gb326, 0, none⟩ = some (.int .i64 t322) := (jD BK326.out 0).trans rfl; have hcz31_1 : w30.cell? ⟨gb326, 1, none⟩ = some (.slice Ao23 t323.length co23) := (jD BK326.out 1).trans rfl; have hfz31_0 := jC BK326.out 0; have hfz31_1 := jC BK326.out 1; have hcz32_0 : w30.cell? ⟨gb319, 0, none⟩ = some (.int .i64 0) := (jD BK319.out 0).trans rfl; have hcz32_1 : w30.cell? ⟨gb319, 1, none⟩ = some (.slice none 0 0) := (jD BK319.out 1).trans rfl; have hfz32_0 := jC BK319.out 0; have hfz32_1 := jC BK319.out 1))
    refine bodyPost_ret (results_ct rfl _ _ gb319 28 #[.int .i64 t322, .slice Ao23 t323.length co23] (0, 0) _ rfl (by (with_reducible repeat (first | refine jG ?_ _ | refine jI ?_ | refine jH ?_ _)); refine jZ (cs := #[.int .i64 t322, .slice none 0 0]) ?_ 1 _ rfl; (with_reducible repeat (first | refine jG ?_ _ | refine jI ?_ | refine jH ?_ _)); refine jZ (cs := #[.int .i64 0, .slice none 0 0]) ?_ 0 _ rfl; (with_reducible repeat (first | refine jG ?_ _ | refine jI ?_ | refine jH ?_ _)); exact BK319.out) Try.underlying28 rfl zr) rfl ?_
    exact ⟨_, by first | rfl | (simp [errW_none, errW_some] <;> rfl) | (simp [*, errW_none, errW_some] <;> rfl), by (with_reducible repeat (first | apply Kd.R_alloc | apply Kd.R_drewN | apply Kd.R_drew)); exact Kd.R_mono (Kd.R_far (p := ⟨gb319, 1, none⟩) (Kd.R_far (p := ⟨gb319, 0, none⟩) (Kd.R_types HO325.out BK319.out (by decide)) (fun _ hk => hk.2) (.int .i64 t322)) (fun _ hk => hk.2) (.slice Ao23 t323.length co23)) (fun _ hk => trivial), zb3 HB GE318 GE319 GE326⟩
   ·replace c12 := Bool.eq_false_iff.mpr c12
    subst c12
    have H1 : (some (0, ([] : List Int), 5)) = some (r1, r2, r3) := by rw [if_neg (show ¬ (false = true) by decide)] at H; exact H
    clear H
    have H := H1
    clear H1
    simp only [Option.some.injEq, Prod.mk.injEq] at H
    obtain ⟨rfl, rfl, rfl⟩ := H
    go_enter Try.func40, Try.ntmps40
    try go_wp2_with (first | ((with_reducible refine jV (N := 5) rfl ?_); refine jU ?hg (N := 5) ?hd (cs := #[.int .i64 a1_0, .slice A1_1 l1_1.length c1_1]) (t := 28) ?hr ?_; (case hd => rfl); (case hg => rfl); (case hr => first | (go_simp; done) | (go_simp; rfl)); intro gb318 hg w33 hbox hb; have n0_ := jA (jJ (zb0 HB) hb); have n1_ := jA (hbox); have n2_ := jA ((by rw [hg]; exact (jF (zb0 HB)) : w.heap.size ≤ gb318)); have n3_ := jA ((by rw [hg]; exact (jF (zb0 HB)) : w.heap.size ≤ gb318)); clear HB; have HB := n0_; have BK318 := n1_; have GW318 := n2_; have GE318 := n3_; clear n0_ n1_ n2_ n3_; clear hb hbox hg) | ((with_reducible refine jV (N := 8) rfl ?_); refine jU ?hg (N := 8) ?hd (cs := #[.int .i64 0, .slice none 0 0]) (t := 28) ?hr ?_; (case hd => rfl); (case hg => rfl); (case hr => first | (go_simp; done) | (go_simp; rfl)); intro gb319 hg w34 hbox hb; have n0_ := jA (jO (g := gb318) (o := .cells #[.int .i64 a1_0, .slice A1_1 l1_1.length c1_1] 28 (0, 0)) (zk BK318) hb); have n1_ := jA (jJ (zb1 HB GE318) hb); have n2_ := jA (hbox); have n3_ := jA ((by rw [hg]; exact (jF (zb1 HB GE318)) : w.heap.size ≤ gb319)); have n4_ := jA ((by rw [hg]; exact (jF (zb1 HB GE318)) : w.heap.size ≤ gb319)); have n5_ := jA ((by rw [hg]; exact jN (blk_lt (g := gb318) (o := .cells #[.int .i64 a1_0, .slice A1_1 l1_1.length c1_1] 28 (0, 0)) (zk BK318)) : gb318 ≠ gb319)); have n6_ := jA n5_.out.symm; clear BK318; clear HB; have BK318 := n0_; have HB := n1_; have BK319 := n2_; have GW319 := n3_; have GE319 := n4_; have NB318_319 := n5_; have NB319_318 := n6_; clear n0_ n1_ n2_ n3_ n4_ n5_ n6_; clear hb hbox hg; have hnb35 := NB318_319.out; have hnc35 := NB319_318.out; have hcz36_0 : w34.cell? ⟨gb318, 0, none⟩ = some (.int .i64 a1_0) := (jD BK318.out 0).trans rfl; have hcz36_1 : w34.cell? ⟨gb318, 1, none⟩ = some (.slice A1_1 l1_1.length c1_1) := (jD BK318.out 1).trans rfl; have hfz36_0 := jC BK318.out 0; have hfz36_1 := jC BK318.out 1) | ((with_reducible refine jW (f := 69) rfl ?_); refine goesL_ (some 16) rfl rfl Try.func69 zr rfl #[.slice A0 l0.length c0, .agg #[.int .i64 a1_0, .slice A1_1 l1_1.length c1_1], .string a2, .int .i64 a3] rfl zm ?_; (with_reducible refine (spec_l26Code.calls k _ _ l0 a1_0 _ _ l1_1 a2 a3 t320 _ ?side1 ?side2 ?side3 ?side4 A5.out).mono ?_); (case side1 => exact zs HR0 HB); (case side2 => exact HC0.out); (case side3 => exact zs HR1_1 HB); (case side4 => exact HC1_1.out); rintro e w37 ⟨rfl, hb⟩; refine ⟨_, rfl, ?_⟩; have n0_ := jA (jO (g := gb318) (o := .cells #[.int .i64 a1_0, .slice A1_1 l1_1.length c1_1] 28 (0, 0)) (zk BK318) hb); have n1_ := jA (jO (g := gb319) (o := .cells #[.int .i64 0, .slice none 0 0] 28 (0, 0)) (zk BK319) hb); have n2_ := jA (jJ (zb2 HB GE318 GE319) hb); clear BK318; clear BK319; clear HB; have BK318 := n0_; have BK319 := n1_; have HB := n2_; clear n0_ n1_ n2_; (try clear hb); (try clear hb2); (try clear hk); (try clear hi)))
    have n0_ := jA (jI BK318.out)
    have n1_ := jA (jI BK319.out)
    have n2_ := jA (below_drew1 HB.out)
    clear BK318
    clear BK319
    clear HB
    have BK318 := n0_
    have BK319 := n1_
    have HB := n2_
    clear n0_ n1_ n2_
    refine start_ (n := 8) (S := fun w' => w'.cell? ⟨gb318, 0, none⟩ = some (.int .i64 a1_0) ∧ w'.cell? ⟨gb318, 1, none⟩ = some (.slice A1_1 l1_1.length c1_1)) (ds := []) m8_0 zr rfl rfl ⟨(jD BK318.out 0).trans rfl, (jD BK318.out 1).trans rfl⟩ (fun hHeld => ?_); refine with_tabW spec_StorePieces.tab4 spec_StorePieces.bits4 (fun HT_ HW_ => ?_)
    generalize w37.drew = w38 at BK318 BK319 HB hHeld ⊢
    refine zp HT_ 1 22 m8_40 ?_
    refine zp HT_ 2 23 m8_60 ?_
    refine zp HT_ 4 25 m8_68 ?_
    refine zt2 HT_ HW_ hHeld 0 21 m8_e8 ?_
    refine join_ (σ := Value × Nat) 1 m8_fe (fun s_ => [(24, .int .i64 t321), (26, .agg #[.int .i64 t322, s_.1]), (11, .pointer (some ⟨s_.2, 0, none⟩))]) (fun s_ w' => (w'.cell? ⟨gb318, 0, none⟩ = some (.int .i64 a1_0) ∧ w'.cell? ⟨gb318, 1, none⟩ = some (.slice A1_1 l1_1.length c1_1)) ∧ (Kd.R (Kd.int .i64) 2 w' w.heap.size (fun _ => True) s_.1 t323) ∧ (w'.heap[gb318]? = some (.cells #[.int .i64 a1_0, .slice A1_1 l1_1.length c1_1] 28 (0, 0))) ∧ (w'.heap[gb319]? = some (.cells #[.int .i64 0, .slice none 0 0] 28 (0, 0))) ∧ (w'.heap[s_.2]? = some (.cells #[.int .i64 0, .slice none 0 0] 28 (0, 0))) ∧ (w.heap.size ≤ s_.2) ∧ (w.heap.size ≤ s_.2) ∧ (gb318 ≠ s_.2) ∧ (s_.2 ≠ gb318) ∧ (gb319 ≠ s_.2) ∧ (s_.2 ≠ gb319) ∧ (Below w.heap.size w w')) ?_ ?_
    rotate_left
    ·intro hCont
     refine two_ (i := 3) (j := 6) (Ni := some 24) (Nj := some 11) m8_f8 m8_ea rfl rfl rfl rfl (two_of HT_.out zr) (by decide) (by decide) (fun K hK => ?_) (fun K hK => ?_)
     ·skip
      refine goes_ Try.func73 zr rfl #[.slice A0 l0.length c0, .string a2] (by rfl) rfl rfl zm ?_
      with_reducible refine (spec_l03Find.calls k _ _ l0 a2 t321 _ ?side1 ?side2 A7.out).mono ?_
      (case side1 => exact zs HR0 HB)
      (case side2 => exact HC0.out)
      rintro e w' ⟨rfl, ⟨nd, rfl⟩⟩
      refine ⟨_, rfl, ?_⟩
      refine hK.out _ _ ⟨(jD BK318.out 0).trans rfl, (jD BK318.out 1).trans rfl⟩ (fun hHeld => ?_)
      clear hK K
      refine norm_ (a' := ?_) ?_ ?_
      rotate_left
      ·show Act.put _ (some 24) _ = _
       simp only [Act.put, jL, jS, jT, i64_w, i32_w]
       rfl
      refine two_ (i := 5) (j := 6) (Ni := some 26) (Nj := some 11) m8_fc m8_fa rfl rfl rfl rfl (two_of HT_.out zr) (by decide) (by decide) (fun K hK => ?_) (fun K hK => ?_)
      ·skip
       refine goes_ Try.func72 zr rfl #[.agg #[.int .i64 a1_0, .slice A1_1 l1_1.length c1_1], .int .i64 t321, .int .i64 a3] (by rfl) rfl rfl zm ?_
       with_reducible refine (spec_l26With.calls a1_0 _ _ l1_1 t321 a3 t322 t323 _ ?side1 ?side2 A8.out).mono ?_
       (case side1 => repeat (first | exact HR1_1.out | exact (Kd.C_below HR1_1.out (zb2 HB GE318 GE319)) | (with_reducible refine Kd.C_alloc ?_ _) | (with_reducible refine Kd.C_drewN ?_ _) | (with_reducible refine Kd.C_drew ?_)))
       (case side2 => exact HC1_1.out)
       rintro e w39 ⟨v324, rfl, ho0, hb⟩
       refine ⟨_, rfl, ?_⟩
       have n0_ := jA (Kd.R_lower ho0 (jF (zb2 HB GE318 GE319)))
       have n1_ := jA (jO (g := gb318) (o := .cells #[.int .i64 a1_0, .slice A1_1 l1_1.length c1_1] 28 (0, 0)) (zk BK318) hb)
       have n2_ := jA (jO (g := gb319) (o := .cells #[.int .i64 0, .slice none 0 0] 28 (0, 0)) (zk BK319) hb)
       have n3_ := jA (jJ (zb2 HB GE318 GE319) hb)
       clear BK318
       clear BK319
       clear HB
       have HO325 := n0_
       have BK318 := n1_
       have BK319 := n2_
       have HB := n3_
       clear n0_ n1_ n2_ n3_
       (try clear hb)
       (try clear hb2)
       (try clear hk)
       (try clear hi)
       (try clear ho0)
       refine hK.out _ _ ⟨(jD BK318.out 0).trans rfl, (jD BK318.out 1).trans rfl⟩ (fun hHeld => ?_)
       clear hK K
       refine norm_ (a' := ?_) ?_ ?_
       rotate_left
       ·show Act.put _ (some 26) _ = _
        simp only [Act.put, jL, jS, jT, i64_w, i32_w]
        rfl
       refine one_ (i := 6) (N := some 11) m8_fe rfl rfl (one_of HT_.out zr) (by decide) (fun K hK => ?_)
       refine box_step ?hg (N := 11) ?hd (cs := #[.int .i64 0, .slice none 0 0]) (t := 28) ?hr ?_; (case hd => rfl); (case hg => rfl); (case hr => first | (go_simp; done) | (go_simp; rfl))
       intro gb326 hg w40 hbox hb
       have n0_ := jA (Kd.R_below (zo HO325) hb)
       have n1_ := jA (jO (g := gb318) (o := .cells #[.int .i64 a1_0, .slice A1_1 l1_1.length c1_1] 28 (0, 0)) (zk BK318) hb)
       have n2_ := jA (jO (g := gb319) (o := .cells #[.int .i64 0, .slice none 0 0] 28 (0, 0)) (zk BK319) hb)
       have n3_ := jA (jJ (zb2 HB GE318 GE319) hb)
       have n4_ := jA (hbox)
       have n5_ := jA ((by rw [hg]; exact (jF (zb2 HB GE318 GE319)) : w.heap.size ≤ gb326))
       have n6_ := jA ((by rw [hg]; exact (jF (zb2 HB GE318 GE319)) : w.heap.size ≤ gb326))
       have n7_ := jA ((by rw [hg]; exact jN (blk_lt (g := gb318) (o := .cells #[.int .i64 a1_0, .slice A1_1 l1_1.length c1_1] 28 (0, 0)) (zk BK318)) : gb318 ≠ gb326))
       have n8_ := jA ((by rw [hg]; exact Nat.ne_of_gt (blk_lt (g := gb318) (o := .cells #[.int .i64 a1_0, .slice A1_1 l1_1.length c1_1] 28 (0, 0)) (zk BK318)) : gb326 ≠ gb318))
       have n9_ := jA ((by rw [hg]; exact jN (blk_lt (g := gb319) (o := .cells #[.int .i64 0, .slice none 0 0] 28 (0, 0)) (zk BK319)) : gb319 ≠ gb326))
       have n10_ := jA ((by rw [hg]; exact Nat.ne_of_gt (blk_lt (g := gb319) (o := .cells #[.int .i64 0, .slice none 0 0] 28 (0, 0)) (zk BK319)) : gb326 ≠ gb319))
       clear HO325
       clear BK318
       clear BK319
       clear HB
       have HO325 := n0_
       have BK318 := n1_
       have BK319 := n2_
       have HB := n3_
       have BK326 := n4_
       have GW326 := n5_
       have GE326 := n6_
       have NB318_326 := n7_
       have NB326_318 := n8_
       have NB319_326 := n9_
       have NB326_319 := n10_
       clear n0_ n1_ n2_ n3_ n4_ n5_ n6_ n7_ n8_ n9_ n10_
       clear hb hbox hg
       refine hK.out _ _ ⟨(jD BK318.out 0).trans rfl, (jD BK318.out 1).trans rfl⟩ (fun hHeld => ?_)
       clear hK K
       refine norm_ (a' := ?_) ?_ ?_
       rotate_left
       ·show Act.put _ (some 11) _ = _
        simp only [Act.put, jL, jS, jT, i64_w, i32_w]
        rfl
       exact norm_ (by simp only [putAll, Act.put, jL, jS, jT]) (hCont (v324, gb326) _ ⟨hHeld, (zo HO325), (zk BK318), (zk BK319), (zk BK326), GW326.out, GE326.out, NB318_326.out, NB326_318.out, NB319_326.out, NB326_319.out, (zb3 HB GE318 GE319 GE326)⟩)
      ·skip
       refine box_step ?hg (N := 11) ?hd (cs := #[.int .i64 0, .slice none 0 0]) (t := 28) ?hr ?_; (case hd => rfl); (case hg => rfl); (case hr => first | (go_simp; done) | (go_simp; rfl))
       intro gb326 hg w39 hbox hb
       have n0_ := jA (jO (g := gb318) (o := .cells #[.int .i64 a1_0, .slice A1_1 l1_1.length c1_1] 28 (0, 0)) (zk BK318) hb)
       have n1_ := jA (jO (g := gb319) (o := .cells #[.int .i64 0, .slice none 0 0] 28 (0, 0)) (zk BK319) hb)
       have n2_ := jA (jJ (zb2 HB GE318 GE319) hb)
       have n3_ := jA (hbox)
       have n4_ := jA ((by rw [hg]; exact (jF (zb2 HB GE318 GE319)) : w.heap.size ≤ gb326))
       have n5_ := jA ((by rw [hg]; exact (jF (zb2 HB GE318 GE319)) : w.heap.size ≤ gb326))
       have n6_ := jA ((by rw [hg]; exact jN (blk_lt (g := gb318) (o := .cells #[.int .i64 a1_0, .slice A1_1 l1_1.length c1_1] 28 (0, 0)) (zk BK318)) : gb318 ≠ gb326))
       have n7_ := jA ((by rw [hg]; exact Nat.ne_of_gt (blk_lt (g := gb318) (o := .cells #[.int .i64 a1_0, .slice A1_1 l1_1.length c1_1] 28 (0, 0)) (zk BK318)) : gb326 ≠ gb318))
       have n8_ := jA ((by rw [hg]; exact jN (blk_lt (g := gb319) (o := .cells #[.int .i64 0, .slice none 0 0] 28 (0, 0)) (zk BK319)) : gb319 ≠ gb326))
       have n9_ := jA ((by rw [hg]; exact Nat.ne_of_gt (blk_lt (g := gb319) (o := .cells #[.int .i64 0, .slice none 0 0] 28 (0, 0)) (zk BK319)) : gb326 ≠ gb319))
       clear BK318
       clear BK319
       clear HB
       have BK318 := n0_
       have BK319 := n1_
       have HB := n2_
       have BK326 := n3_
       have GW326 := n4_
       have GE326 := n5_
       have NB318_326 := n6_
       have NB326_318 := n7_
       have NB319_326 := n8_
       have NB326_319 := n9_
       clear n0_ n1_ n2_ n3_ n4_ n5_ n6_ n7_ n8_ n9_
       clear hb hbox hg
       refine hK.out _ _ ⟨(jD BK318.out 0).trans rfl, (jD BK318.out 1).trans rfl⟩ (fun hHeld => ?_)
       clear hK K
       refine norm_ (a' := ?_) ?_ ?_
       rotate_left
       ·show Act.put _ (some 11) _ = _
        simp only [Act.put, jL, jS, jT, i64_w, i32_w]
        rfl
       refine one_ (i := 5) (N := some 26) m8_fe rfl rfl (one_of HT_.out zr) (by decide) (fun K hK => ?_)
       refine goes_ Try.func72 zr rfl #[.agg #[.int .i64 a1_0, .slice A1_1 l1_1.length c1_1], .int .i64 t321, .int .i64 a3] (by rfl) rfl rfl zm ?_
       with_reducible refine (spec_l26With.calls a1_0 _ _ l1_1 t321 a3 t322 t323 _ ?side1 ?side2 A8.out).mono ?_
       (case side1 => exact zs HR1_1 HB)
       (case side2 => exact HC1_1.out)
       rintro e w40 ⟨v324, rfl, ho0, hb⟩
       refine ⟨_, rfl, ?_⟩
       have n0_ := jA (Kd.R_lower ho0 (jF (zb3 HB GE318 GE319 GE326)))
       have n1_ := jA (jO (g := gb318) (o := .cells #[.int .i64 a1_0, .slice A1_1 l1_1.length c1_1] 28 (0, 0)) (zk BK318) hb)
       have n2_ := jA (jO (g := gb319) (o := .cells #[.int .i64 0, .slice none 0 0] 28 (0, 0)) (zk BK319) hb)
       have n3_ := jA (jO (g := gb326) (o := .cells #[.int .i64 0, .slice none 0 0] 28 (0, 0)) (zk BK326) hb)
       have n4_ := jA (jJ (zb3 HB GE318 GE319 GE326) hb)
       clear BK318
       clear BK319
       clear BK326
       clear HB
       have HO325 := n0_
       have BK318 := n1_
       have BK319 := n2_
       have BK326 := n3_
       have HB := n4_
       clear n0_ n1_ n2_ n3_ n4_
       (try clear hb)
       (try clear hb2)
       (try clear hk)
       (try clear hi)
       (try clear ho0)
       refine hK.out _ _ ⟨(jD BK318.out 0).trans rfl, (jD BK318.out 1).trans rfl⟩ (fun hHeld => ?_)
       clear hK K
       refine norm_ (a' := ?_) ?_ ?_
       rotate_left
       ·show Act.put _ (some 26) _ = _
        simp only [Act.put, jL, jS, jT, i64_w, i32_w]
        rfl
       exact norm_ (by simp only [putAll, Act.put, jL, jS, jT]) (hCont (v324, gb326) _ ⟨hHeld, (zo HO325), (zk BK318), (zk BK319), (zk BK326), GW326.out, GE326.out, NB318_326.out, NB326_318.out, NB319_326.out, NB326_319.out, (zb3 HB GE318 GE319 GE326)⟩)
     ·skip
      refine box_step ?hg (N := 11) ?hd (cs := #[.int .i64 0, .slice none 0 0]) (t := 28) ?hr ?_; (case hd => rfl); (case hg => rfl); (case hr => first | (go_simp; done) | (go_simp; rfl))
      intro gb326 hg w39 hbox hb
      have n0_ := jA (jO (g := gb318) (o := .cells #[.int .i64 a1_0, .slice A1_1 l1_1.length c1_1] 28 (0, 0)) (zk BK318) hb)
      have n1_ := jA (jO (g := gb319) (o := .cells #[.int .i64 0, .slice none 0 0] 28 (0, 0)) (zk BK319) hb)
      have n2_ := jA (jJ (zb2 HB GE318 GE319) hb)
      have n3_ := jA (hbox)
      have n4_ := jA ((by rw [hg]; exact (jF (zb2 HB GE318 GE319)) : w.heap.size ≤ gb326))
      have n5_ := jA ((by rw [hg]; exact (jF (zb2 HB GE318 GE319)) : w.heap.size ≤ gb326))
      have n6_ := jA ((by rw [hg]; exact jN (blk_lt (g := gb318) (o := .cells #[.int .i64 a1_0, .slice A1_1 l1_1.length c1_1] 28 (0, 0)) (zk BK318)) : gb318 ≠ gb326))
      have n7_ := jA ((by rw [hg]; exact Nat.ne_of_gt (blk_lt (g := gb318) (o := .cells #[.int .i64 a1_0, .slice A1_1 l1_1.length c1_1] 28 (0, 0)) (zk BK318)) : gb326 ≠ gb318))
      have n8_ := jA ((by rw [hg]; exact jN (blk_lt (g := gb319) (o := .cells #[.int .i64 0, .slice none 0 0] 28 (0, 0)) (zk BK319)) : gb319 ≠ gb326))
      have n9_ := jA ((by rw [hg]; exact Nat.ne_of_gt (blk_lt (g := gb319) (o := .cells #[.int .i64 0, .slice none 0 0] 28 (0, 0)) (zk BK319)) : gb326 ≠ gb319))
      clear BK318
      clear BK319
      clear HB
      have BK318 := n0_
      have BK319 := n1_
      have HB := n2_
      have BK326 := n3_
      have GW326 := n4_
      have GE326 := n5_
      have NB318_326 := n6_
      have NB326_318 := n7_
      have NB319_326 := n8_
      have NB326_319 := n9_
      clear n0_ n1_ n2_ n3_ n4_ n5_ n6_ n7_ n8_ n9_
      clear hb hbox hg
      refine hK.out _ _ ⟨(jD BK318.out 0).trans rfl, (jD BK318.out 1).trans rfl⟩ (fun hHeld => ?_)
      clear hK K
      refine norm_ (a' := ?_) ?_ ?_
      rotate_left
      ·show Act.put _ (some 11) _ = _
       simp only [Act.put, jL, jS, jT, i64_w, i32_w]
       rfl
      refine one_ (i := 3) (N := some 24) m8_fa rfl rfl (one_of HT_.out zr) (by decide) (fun K hK => ?_)
      refine goes_ Try.func73 zr rfl #[.slice A0 l0.length c0, .string a2] (by rfl) rfl rfl zm ?_
      with_reducible refine (spec_l03Find.calls k _ _ l0 a2 t321 _ ?side1 ?side2 A7.out).mono ?_
      (case side1 => exact zs HR0 HB)
      (case side2 => exact HC0.out)
      rintro e w' ⟨rfl, ⟨nd, rfl⟩⟩
      refine ⟨_, rfl, ?_⟩
      refine hK.out _ _ ⟨(jD BK318.out 0).trans rfl, (jD BK318.out 1).trans rfl⟩ (fun hHeld => ?_)
      clear hK K
      refine norm_ (a' := ?_) ?_ ?_
      rotate_left
      ·show Act.put _ (some 24) _ = _
       simp only [Act.put, jL, jS, jT, i64_w, i32_w]
       rfl
      refine one_ (i := 5) (N := some 26) m8_fe rfl rfl (one_of HT_.out zr) (by decide) (fun K hK => ?_)
      refine goes_ Try.func72 zr rfl #[.agg #[.int .i64 a1_0, .slice A1_1 l1_1.length c1_1], .int .i64 t321, .int .i64 a3] (by rfl) rfl rfl zm ?_
      with_reducible refine (spec_l26With.calls a1_0 _ _ l1_1 t321 a3 t322 t323 _ ?side1 ?side2 A8.out).mono ?_
      (case side1 => repeat (first | exact HR1_1.out | exact (Kd.C_below HR1_1.out (zb3 HB GE318 GE319 GE326)) | (with_reducible refine Kd.C_alloc ?_ _) | (with_reducible refine Kd.C_drewN ?_ _) | (with_reducible refine Kd.C_drew ?_)))
      (case side2 => exact HC1_1.out)
      rintro e w40 ⟨v324, rfl, ho0, hb⟩
      refine ⟨_, rfl, ?_⟩
      have n0_ := jA (Kd.R_lower ho0 (jF (zb3 HB GE318 GE319 GE326)))
      have n1_ := jA (jO (g := gb318) (o := .cells #[.int .i64 a1_0, .slice A1_1 l1_1.length c1_1] 28 (0, 0)) (zk BK318) hb)
      have n2_ := jA (jO (g := gb319) (o := .cells #[.int .i64 0, .slice none 0 0] 28 (0, 0)) (zk BK319) hb)
      have n3_ := jA (jO (g := gb326) (o := .cells #[.int .i64 0, .slice none 0 0] 28 (0, 0)) (zk BK326) hb)
      have n4_ := jA (jJ (zb3 HB GE318 GE319 GE326) hb)
      clear BK318
      clear BK319
      clear BK326
      clear HB
      have HO325 := n0_
      have BK318 := n1_
      have BK319 := n2_
      have BK326 := n3_
      have HB := n4_
      clear n0_ n1_ n2_ n3_ n4_
      (try clear hb)
      (try clear hb2)
      (try clear hk)
      (try clear hi)
      (try clear ho0)
      refine hK.out _ _ ⟨(jD BK318.out 0).trans rfl, (jD BK318.out 1).trans rfl⟩ (fun hHeld => ?_)
      clear hK K
      refine norm_ (a' := ?_) ?_ ?_
      rotate_left
      ·show Act.put _ (some 26) _ = _
       simp only [Act.put, jL, jS, jT, i64_w, i32_w]
       rfl
      exact norm_ (by simp only [putAll, Act.put, jL, jS, jT]) (hCont (v324, gb326) _ ⟨hHeld, (zo HO325), (zk BK318), (zk BK319), (zk BK326), GW326.out, GE326.out, NB318_326.out, NB326_318.out, NB319_326.out, NB326_319.out, (zb3 HB GE318 GE319 GE326)⟩)
    rintro ⟨v324, gb326⟩ w41 ⟨hS_, h0_, h1_, h2_, h3_, h4_, h5_, h6_, h7_, h8_, h9_, h10_⟩
    have n0_ : Aside0 (Kd.R (Kd.int .i64) 2 w41 w.heap.size (fun _ => True) v324 t323) := ⟨h0_⟩
    have n1_ : Aside0 (w41.heap[gb318]? = some (.cells #[.int .i64 a1_0, .slice A1_1 l1_1.length c1_1] 28 (0, 0))) := ⟨h1_⟩
    have n2_ : Aside0 (w41.heap[gb319]? = some (.cells #[.int .i64 0, .slice none 0 0] 28 (0, 0))) := ⟨h2_⟩
    have n3_ : Aside0 (w41.heap[gb326]? = some (.cells #[.int .i64 0, .slice none 0 0] 28 (0, 0))) := ⟨h3_⟩
    have n4_ : Aside0 (w.heap.size ≤ gb326) := ⟨h4_⟩
    have n5_ : Aside0 (w.heap.size ≤ gb326) := ⟨h5_⟩
    have n6_ : Aside0 (gb318 ≠ gb326) := ⟨h6_⟩
    have n7_ : Aside0 (gb326 ≠ gb318) := ⟨h7_⟩
    have n8_ : Aside0 (gb319 ≠ gb326) := ⟨h8_⟩
    have n9_ : Aside0 (gb326 ≠ gb319) := ⟨h9_⟩
    have n10_ : Aside0 (Below w.heap.size w w41) := ⟨h10_⟩
    clear BK318
    clear BK319
    clear HB
    clear h0_ h1_ h2_ h3_ h4_ h5_ h6_ h7_ h8_ h9_ h10_
    have HO325 := n0_
    have BK318 := n1_
    have BK319 := n2_
    have BK326 := n3_
    have GW326 := n4_
    have GE326 := n5_
    have NB318_326 := n6_
    have NB326_318 := n7_
    have NB319_326 := n8_
    have NB326_319 := n9_
    have HB := n10_
    clear n0_ n1_ n2_ n3_ n4_ n5_ n6_ n7_ n8_ n9_ n10_
    have hHeld : w41.cell? ⟨gb318, 0, none⟩ = some (.int .i64 a1_0) ∧ w41.cell? ⟨gb318, 1, none⟩ = some (.slice A1_1 l1_1.length c1_1) := hS_
    obtain ⟨Ao43, co43, eo43⟩ := Kd.R_slice HO325.out
    (first | subst eo43 | (injection eo43 with f1_ f2_ f3_; have f4_ := f1_.symm; have f5_ := f3_.symm; clear f1_ f2_ f3_; subst f4_; subst f5_))
    refine norm_ (a' := ?_) ?_ ?_
    rotate_left
    ·simp only [putAll, Act.put, jL, jS, jT]
     rfl
    refine one_ (i := 7) (N := none) m8_ff rfl rfl (one_of HT_.out zr) (by decide) (fun K hK => ?_)
    have hs42 : w41.cell? ⟨gb326, 0, none⟩ = some (.int .i64 0) := (jD BK326.out 0).trans rfl
    have hfs42 := jC BK326.out 0
    have hns42_0 := NB318_326.out
    have hns42_1 := NB319_326.out
    have hms42_0 := NB326_318.out
    have hms42_1 := NB326_319.out
    have hs44 : w41.cell? ⟨gb326, 1, none⟩ = some (.slice none 0 0) := (jD BK326.out 1).trans rfl
    have hfs44 := jC BK326.out 1
    have hns44_0 := NB318_326.out
    have hns44_1 := NB319_326.out
    have hms44_0 := NB326_318.out
    have hms44_1 := NB326_319.out
    refine skip_ (w1 := ?_) (by rfl) rfl ?_ ?_
    rotate_left
    ·go_simp
     rfl
    refine hK.out _ _ ⟨((jX (p := ⟨gb326, _, none⟩) NB318_326.out _).trans (((jX (p := ⟨gb326, _, none⟩) NB318_326.out _).trans (hHeld.1)))), ((jX (p := ⟨gb326, _, none⟩) NB318_326.out _).trans (((jX (p := ⟨gb326, _, none⟩) NB318_326.out _).trans (hHeld.2))))⟩ (fun hHeld => ?_)
    clear hK K
    refine done_ (done_of HT_.out zr) ?_
    have hnb45 := NB326_318.out
    have hnc45 := NB318_326.out
    have hnb46 := NB326_319.out
    have hnc46 := NB319_326.out
    have hcz47_0 : w41.cell? ⟨gb326, 0, none⟩ = some (.int .i64 0) := (jD BK326.out 0).trans rfl
    have hcz47_1 : w41.cell? ⟨gb326, 1, none⟩ = some (.slice none 0 0) := (jD BK326.out 1).trans rfl
    have hfz47_0 := jC BK326.out 0
    have hfz47_1 := jC BK326.out 1
    try go_wp2_with (first | ((with_reducible refine jW (f := 25) rfl ?_); refine goesL_ (some 29) rfl rfl Try.func25 zr rfl #[.slice A0 l0.length c0, .agg #[.int .i64 t322, .slice Ao43 t323.length co43]] rfl zm ?_; (with_reducible refine (spec_IsMagazine.calls k _ _ l0 t322 _ _ t323 true _ ?side1 ?side2 ?side3 ?side4 A9.out).mono ?_); (case side1 => exact Kd.C_below HR0.out (zb3 HB GE318 GE319 GE326)); (case side2 => exact HC0.out); (case side3 => refine (jb (e := 2) (base := w.heap.size) (ok := fun k_ => True) (n := t323.length) (c := co43) ?_).2.2; exact (by (with_reducible repeat (first | apply Kd.R_alloc | apply Kd.R_drewN | apply Kd.R_drew)); exact (Kd.R_mono (Kd.R_far (p := ⟨gb326, 1, none⟩) (Kd.R_far (p := ⟨gb326, 0, none⟩) (Kd.R_types HO325.out BK326.out (by decide)) (fun _ hk => hk.2) (.int .i64 t322)) (fun _ hk => hk.2) (.slice Ao43 t323.length co43)) (fun _ h_ => h_.1)))); (case side4 => exact (jb HO325.out).2.1); rintro e w48 ⟨rfl, hb⟩; refine ⟨_, rfl, ?_⟩; have n0_ := jA (Kd.R_below (by (with_reducible repeat (first | apply Kd.R_alloc | apply Kd.R_drewN | apply Kd.R_drew)); exact (Kd.R_mono (Kd.R_far (p := ⟨gb326, 1, none⟩) (Kd.R_far (p := ⟨gb326, 0, none⟩) (Kd.R_types HO325.out BK326.out (by decide)) (fun _ hk => hk.2) (.int .i64 t322)) (fun _ hk => hk.2) (.slice Ao43 t323.length co43)) (fun _ h_ => h_.1))) hb); have n1_ := jA (jO (g := gb318) (o := .cells #[.int .i64 a1_0, .slice A1_1 l1_1.length c1_1] 28 (0, 0)) (by (with_reducible repeat (first | refine jG ?_ _ | refine jI ?_ | refine jH ?_ _)); refine ja ?_ NB318_326.out _; (with_reducible repeat (first | refine jG ?_ _ | refine jI ?_ | refine jH ?_ _)); refine ja ?_ NB318_326.out _; (with_reducible repeat (first | refine jG ?_ _ | refine jI ?_ | refine jH ?_ _)); exact BK318.out) hb); have n2_ := jA (jO (g := gb319) (o := .cells #[.int .i64 0, .slice none 0 0] 28 (0, 0)) (by (with_reducible repeat (first | refine jG ?_ _ | refine jI ?_ | refine jH ?_ _)); refine ja ?_ NB319_326.out _; (with_reducible repeat (first | refine jG ?_ _ | refine jI ?_ | refine jH ?_ _)); refine ja ?_ NB319_326.out _; (with_reducible repeat (first | refine jG ?_ _ | refine jI ?_ | refine jH ?_ _)); exact BK319.out) hb); have n3_ := jA (jO (g := gb326) (o := .cells #[.int .i64 t322, .slice Ao43 t323.length co43] 28 (0, 0)) (by (with_reducible repeat (first | refine jG ?_ _ | refine jI ?_ | refine jH ?_ _)); refine jZ (cs := #[.int .i64 t322, .slice none 0 0]) ?_ 1 _ rfl; (with_reducible repeat (first | refine jG ?_ _ | refine jI ?_ | refine jH ?_ _)); refine jZ (cs := #[.int .i64 0, .slice none 0 0]) ?_ 0 _ rfl; (with_reducible repeat (first | refine jG ?_ _ | refine jI ?_ | refine jH ?_ _)); exact BK326.out) hb); have n4_ := jA (jJ (zb3 HB GE318 GE319 GE326) hb); clear HO325; clear BK318; clear BK319; clear BK326; clear HB; have HO325 := n0_; have BK318 := n1_; have BK319 := n2_; have BK326 := n3_; have HB := n4_; clear n0_ n1_ n2_ n3_ n4_; (try clear hb); (try clear hb2); (try clear hk); (try clear hi); have hcz49_0 : w48.cell? ⟨gb326, 0, none⟩ = some (.int .i64 t322) := (jD BK326.out 0).trans rfl; have hcz49_1 : w48.cell? ⟨gb326, 1, none⟩ = some (.slice Ao43 t323.length co43) := (jD BK326.out 1).trans rfl; have hfz49_0 := jC BK326.out 0; have hfz49_1 := jC BK326.out 1) | (go_at_call 65; (with_reducible refine (spec_l26Lawful.calls k _ _ l0 t322 _ _ t323 false _ ?side1 ?side2 ?side3 ?side4 A11.out).mono ?_); (case side1 => exact zs HR0 HB); (case side2 => exact HC0.out); (case side3 => repeat (first | exact (jb HO325.out).2.2 | (with_reducible refine Kd.C_alloc ?_ _) | (with_reducible refine Kd.C_drewN ?_ _) | (with_reducible refine Kd.C_drew ?_))); (case side4 => exact (jb HO325.out).2.1); rintro e w50 ⟨rfl, hb⟩; have n0_ := jA (Kd.R_below (zo HO325) hb); have n1_ := jA (jO (g := gb318) (o := .cells #[.int .i64 a1_0, .slice A1_1 l1_1.length c1_1] 28 (0, 0)) (zk BK318) hb); have n2_ := jA (jO (g := gb319) (o := .cells #[.int .i64 0, .slice none 0 0] 28 (0, 0)) (zk BK319) hb); have n3_ := jA (jO (g := gb326) (o := .cells #[.int .i64 t322, .slice Ao43 t323.length co43] 28 (0, 0)) (zk BK326) hb); have n4_ := jA (jJ (zb3 HB GE318 GE319 GE326) hb); clear HO325; clear BK318; clear BK319; clear BK326; clear HB; have HO325 := n0_; have BK318 := n1_; have BK319 := n2_; have BK326 := n3_; have HB := n4_; clear n0_ n1_ n2_ n3_ n4_; (try clear hb); (try clear hb2); (try clear hk); (try clear hi); have hcz51_0 : w50.cell? ⟨gb319, 0, none⟩ = some (.int .i64 0) := (jD BK319.out 0).trans rfl; have hcz51_1 : w50.cell? ⟨gb319, 1, none⟩ = some (.slice none 0 0) := (jD BK319.out 1).trans rfl; have hfz51_0 := jC BK319.out 0; have hfz51_1 := jC BK319.out 1))
    refine bodyPost_ret (results_ct rfl _ _ gb319 28 #[.int .i64 0, .slice none 0 0] (0, 0) _ rfl (by (with_reducible repeat (first | refine jG ?_ _ | refine jI ?_ | refine jH ?_ _)); refine jZ (cs := #[.int .i64 0, .slice none 0 0]) ?_ 1 _ rfl; (with_reducible repeat (first | refine jG ?_ _ | refine jI ?_ | refine jH ?_ _)); refine jZ (cs := #[.int .i64 0, .slice none 0 0]) ?_ 0 _ rfl; (with_reducible repeat (first | refine jG ?_ _ | refine jI ?_ | refine jH ?_ _)); exact BK319.out) Try.underlying28 rfl zr) rfl ?_
    exact ⟨_, by first | rfl | (simp [errW_none, errW_some] <;> rfl) | (simp [*, errW_none, errW_some] <;> rfl), by first | exact Kd.R_nil _ _ _ _ _ | exact Kd.N_nil _ _ _ _ _ | exact Kd.V_nil _ _ _ _ _ | exact Kd.Q_nil _ _ _ _ _ | exact Kd.S_nil _ _ _ _ _, zb3 HB GE318 GE319 GE326⟩
  ·replace c10 := Bool.eq_false_iff.mpr c10
   subst c10
   have H1 : (some (0, ([] : List Int), 5)) = some (r1, r2, r3) := by rw [if_neg (show ¬ (false = true) by decide)] at H; exact H
   clear H
   have H := H1
   clear H1
   simp only [Option.some.injEq, Prod.mk.injEq] at H
   obtain ⟨rfl, rfl, rfl⟩ := H
   go_enter Try.func40, Try.ntmps40
   try go_wp2_with (first | ((with_reducible refine jV (N := 5) rfl ?_); refine jU ?hg (N := 5) ?hd (cs := #[.int .i64 a1_0, .slice A1_1 l1_1.length c1_1]) (t := 28) ?hr ?_; (case hd => rfl); (case hg => rfl); (case hr => first | (go_simp; done) | (go_simp; rfl)); intro gb318 hg w52 hbox hb; have n0_ := jA (jJ (zb0 HB) hb); have n1_ := jA (hbox); have n2_ := jA ((by rw [hg]; exact (jF (zb0 HB)) : w.heap.size ≤ gb318)); have n3_ := jA ((by rw [hg]; exact (jF (zb0 HB)) : w.heap.size ≤ gb318)); clear HB; have HB := n0_; have BK318 := n1_; have GW318 := n2_; have GE318 := n3_; clear n0_ n1_ n2_ n3_; clear hb hbox hg) | ((with_reducible refine jV (N := 8) rfl ?_); refine jU ?hg (N := 8) ?hd (cs := #[.int .i64 0, .slice none 0 0]) (t := 28) ?hr ?_; (case hd => rfl); (case hg => rfl); (case hr => first | (go_simp; done) | (go_simp; rfl)); intro gb319 hg w53 hbox hb; have n0_ := jA (jO (g := gb318) (o := .cells #[.int .i64 a1_0, .slice A1_1 l1_1.length c1_1] 28 (0, 0)) (zk BK318) hb); have n1_ := jA (jJ (zb1 HB GE318) hb); have n2_ := jA (hbox); have n3_ := jA ((by rw [hg]; exact (jF (zb1 HB GE318)) : w.heap.size ≤ gb319)); have n4_ := jA ((by rw [hg]; exact (jF (zb1 HB GE318)) : w.heap.size ≤ gb319)); have n5_ := jA ((by rw [hg]; exact jN (blk_lt (g := gb318) (o := .cells #[.int .i64 a1_0, .slice A1_1 l1_1.length c1_1] 28 (0, 0)) (zk BK318)) : gb318 ≠ gb319)); have n6_ := jA n5_.out.symm; clear BK318; clear HB; have BK318 := n0_; have HB := n1_; have BK319 := n2_; have GW319 := n3_; have GE319 := n4_; have NB318_319 := n5_; have NB319_318 := n6_; clear n0_ n1_ n2_ n3_ n4_ n5_ n6_; clear hb hbox hg; have hnb54 := NB318_319.out; have hnc54 := NB319_318.out; have hcz55_0 : w53.cell? ⟨gb318, 0, none⟩ = some (.int .i64 a1_0) := (jD BK318.out 0).trans rfl; have hcz55_1 : w53.cell? ⟨gb318, 1, none⟩ = some (.slice A1_1 l1_1.length c1_1) := (jD BK318.out 1).trans rfl; have hfz55_0 := jC BK318.out 0; have hfz55_1 := jC BK318.out 1) | ((with_reducible refine jW (f := 69) rfl ?_); refine goesL_ (some 16) rfl rfl Try.func69 zr rfl #[.slice A0 l0.length c0, .agg #[.int .i64 a1_0, .slice A1_1 l1_1.length c1_1], .string a2, .int .i64 a3] rfl zm ?_; (with_reducible refine (spec_l26Code.calls k _ _ l0 a1_0 _ _ l1_1 a2 a3 t320 _ ?side1 ?side2 ?side3 ?side4 A5.out).mono ?_); (case side1 => exact zs HR0 HB); (case side2 => exact HC0.out); (case side3 => exact zs HR1_1 HB); (case side4 => exact HC1_1.out); rintro e w56 ⟨rfl, hb⟩; refine ⟨_, rfl, ?_⟩; have n0_ := jA (jO (g := gb318) (o := .cells #[.int .i64 a1_0, .slice A1_1 l1_1.length c1_1] 28 (0, 0)) (zk BK318) hb); have n1_ := jA (jO (g := gb319) (o := .cells #[.int .i64 0, .slice none 0 0] 28 (0, 0)) (zk BK319) hb); have n2_ := jA (jJ (zb2 HB GE318 GE319) hb); clear BK318; clear BK319; clear HB; have BK318 := n0_; have BK319 := n1_; have HB := n2_; clear n0_ n1_ n2_; (try clear hb); (try clear hb2); (try clear hk); (try clear hi)))
   have n0_ := jA (jI BK318.out)
   have n1_ := jA (jI BK319.out)
   have n2_ := jA (below_drew1 HB.out)
   clear BK318
   clear BK319
   clear HB
   have BK318 := n0_
   have BK319 := n1_
   have HB := n2_
   clear n0_ n1_ n2_
   refine start_ (n := 8) (S := fun w' => w'.cell? ⟨gb318, 0, none⟩ = some (.int .i64 a1_0) ∧ w'.cell? ⟨gb318, 1, none⟩ = some (.slice A1_1 l1_1.length c1_1)) (ds := []) m8_0 zr rfl rfl ⟨(jD BK318.out 0).trans rfl, (jD BK318.out 1).trans rfl⟩ (fun hHeld => ?_); refine with_tabW spec_StorePieces.tab4 spec_StorePieces.bits4 (fun HT_ HW_ => ?_)
   generalize w56.drew = w57 at BK318 BK319 HB hHeld ⊢
   refine zp HT_ 1 22 m8_40 ?_
   refine zp HT_ 2 23 m8_60 ?_
   refine zp HT_ 4 25 m8_68 ?_
   refine zt2 HT_ HW_ hHeld 0 21 m8_e8 ?_
   refine join_ (σ := Value × Nat) 1 m8_fe (fun s_ => [(24, .int .i64 t321), (26, .agg #[.int .i64 t322, s_.1]), (11, .pointer (some ⟨s_.2, 0, none⟩))]) (fun s_ w' => (w'.cell? ⟨gb318, 0, none⟩ = some (.int .i64 a1_0) ∧ w'.cell? ⟨gb318, 1, none⟩ = some (.slice A1_1 l1_1.length c1_1)) ∧ (Kd.R (Kd.int .i64) 2 w' w.heap.size (fun _ => True) s_.1 t323) ∧ (w'.heap[gb318]? = some (.cells #[.int .i64 a1_0, .slice A1_1 l1_1.length c1_1] 28 (0, 0))) ∧ (w'.heap[gb319]? = some (.cells #[.int .i64 0, .slice none 0 0] 28 (0, 0))) ∧ (w'.heap[s_.2]? = some (.cells #[.int .i64 0, .slice none 0 0] 28 (0, 0))) ∧ (w.heap.size ≤ s_.2) ∧ (w.heap.size ≤ s_.2) ∧ (gb318 ≠ s_.2) ∧ (s_.2 ≠ gb318) ∧ (gb319 ≠ s_.2) ∧ (s_.2 ≠ gb319) ∧ (Below w.heap.size w w')) ?_ ?_
   rotate_left
   ·intro hCont
    refine two_ (i := 3) (j := 6) (Ni := some 24) (Nj := some 11) m8_f8 m8_ea rfl rfl rfl rfl (two_of HT_.out zr) (by decide) (by decide) (fun K hK => ?_) (fun K hK => ?_)
    ·skip
     refine goes_ Try.func73 zr rfl #[.slice A0 l0.length c0, .string a2] (by rfl) rfl rfl zm ?_
     with_reducible refine (spec_l03Find.calls k _ _ l0 a2 t321 _ ?side1 ?side2 A7.out).mono ?_
     (case side1 => exact zs HR0 HB)
     (case side2 => exact HC0.out)
     rintro e w' ⟨rfl, ⟨nd, rfl⟩⟩
     refine ⟨_, rfl, ?_⟩
     refine hK.out _ _ ⟨(jD BK318.out 0).trans rfl, (jD BK318.out 1).trans rfl⟩ (fun hHeld => ?_)
     clear hK K
     refine norm_ (a' := ?_) ?_ ?_
     rotate_left
     ·show Act.put _ (some 24) _ = _
      simp only [Act.put, jL, jS, jT, i64_w, i32_w]
      rfl
     refine two_ (i := 5) (j := 6) (Ni := some 26) (Nj := some 11) m8_fc m8_fa rfl rfl rfl rfl (two_of HT_.out zr) (by decide) (by decide) (fun K hK => ?_) (fun K hK => ?_)
     ·skip
      refine goes_ Try.func72 zr rfl #[.agg #[.int .i64 a1_0, .slice A1_1 l1_1.length c1_1], .int .i64 t321, .int .i64 a3] (by rfl) rfl rfl zm ?_
      with_reducible refine (spec_l26With.calls a1_0 _ _ l1_1 t321 a3 t322 t323 _ ?side1 ?side2 A8.out).mono ?_
      (case side1 => repeat (first | exact HR1_1.out | exact (Kd.C_below HR1_1.out (zb2 HB GE318 GE319)) | (with_reducible refine Kd.C_alloc ?_ _) | (with_reducible refine Kd.C_drewN ?_ _) | (with_reducible refine Kd.C_drew ?_)))
      (case side2 => exact HC1_1.out)
      rintro e w58 ⟨v324, rfl, ho0, hb⟩
      refine ⟨_, rfl, ?_⟩
      have n0_ := jA (Kd.R_lower ho0 (jF (zb2 HB GE318 GE319)))
      have n1_ := jA (jO (g := gb318) (o := .cells #[.int .i64 a1_0, .slice A1_1 l1_1.length c1_1] 28 (0, 0)) (zk BK318) hb)
      have n2_ := jA (jO (g := gb319) (o := .cells #[.int .i64 0, .slice none 0 0] 28 (0, 0)) (zk BK319) hb)
      have n3_ := jA (jJ (zb2 HB GE318 GE319) hb)
      clear BK318
      clear BK319
      clear HB
      have HO325 := n0_
      have BK318 := n1_
      have BK319 := n2_
      have HB := n3_
      clear n0_ n1_ n2_ n3_
      (try clear hb)
      (try clear hb2)
      (try clear hk)
      (try clear hi)
      (try clear ho0)
      refine hK.out _ _ ⟨(jD BK318.out 0).trans rfl, (jD BK318.out 1).trans rfl⟩ (fun hHeld => ?_)
      clear hK K
      refine norm_ (a' := ?_) ?_ ?_
      rotate_left
      ·show Act.put _ (some 26) _ = _
       simp only [Act.put, jL, jS, jT, i64_w, i32_w]
       rfl
      refine one_ (i := 6) (N := some 11) m8_fe rfl rfl (one_of HT_.out zr) (by decide) (fun K hK => ?_)
      refine box_step ?hg (N := 11) ?hd (cs := #[.int .i64 0, .slice none 0 0]) (t := 28) ?hr ?_; (case hd => rfl); (case hg => rfl); (case hr => first | (go_simp; done) | (go_simp; rfl))
      intro gb326 hg w59 hbox hb
      have n0_ := jA (Kd.R_below (zo HO325) hb)
      have n1_ := jA (jO (g := gb318) (o := .cells #[.int .i64 a1_0, .slice A1_1 l1_1.length c1_1] 28 (0, 0)) (zk BK318) hb)
      have n2_ := jA (jO (g := gb319) (o := .cells #[.int .i64 0, .slice none 0 0] 28 (0, 0)) (zk BK319) hb)
      have n3_ := jA (jJ (zb2 HB GE318 GE319) hb)
      have n4_ := jA (hbox)
      have n5_ := jA ((by rw [hg]; exact (jF (zb2 HB GE318 GE319)) : w.heap.size ≤ gb326))
      have n6_ := jA ((by rw [hg]; exact (jF (zb2 HB GE318 GE319)) : w.heap.size ≤ gb326))
      have n7_ := jA ((by rw [hg]; exact jN (blk_lt (g := gb318) (o := .cells #[.int .i64 a1_0, .slice A1_1 l1_1.length c1_1] 28 (0, 0)) (zk BK318)) : gb318 ≠ gb326))
      have n8_ := jA ((by rw [hg]; exact Nat.ne_of_gt (blk_lt (g := gb318) (o := .cells #[.int .i64 a1_0, .slice A1_1 l1_1.length c1_1] 28 (0, 0)) (zk BK318)) : gb326 ≠ gb318))
      have n9_ := jA ((by rw [hg]; exact jN (blk_lt (g := gb319) (o := .cells #[.int .i64 0, .slice none 0 0] 28 (0, 0)) (zk BK319)) : gb319 ≠ gb326))
      have n10_ := jA ((by rw [hg]; exact Nat.ne_of_gt (blk_lt (g := gb319) (o := .cells #[.int .i64 0, .slice none 0 0] 28 (0, 0)) (zk BK319)) : gb326 ≠ gb319))
      clear HO325
      clear BK318
      clear BK319
      clear HB
      have HO325 := n0_
      have BK318 := n1_
      have BK319 := n2_
      have HB := n3_
      have BK326 := n4_
      have GW326 := n5_
      have GE326 := n6_
      have NB318_326 := n7_
      have NB326_318 := n8_
      have NB319_326 := n9_
      have NB326_319 := n10_
      clear n0_ n1_ n2_ n3_ n4_ n5_ n6_ n7_ n8_ n9_ n10_
      clear hb hbox hg
      refine hK.out _ _ ⟨(jD BK318.out 0).trans rfl, (jD BK318.out 1).trans rfl⟩ (fun hHeld => ?_)
      clear hK K
      refine norm_ (a' := ?_) ?_ ?_
      rotate_left
      ·show Act.put _ (some 11) _ = _
       simp only [Act.put, jL, jS, jT, i64_w, i32_w]
       rfl
      exact norm_ (by simp only [putAll, Act.put, jL, jS, jT]) (hCont (v324, gb326) _ ⟨hHeld, (zo HO325), (zk BK318), (zk BK319), (zk BK326), GW326.out, GE326.out, NB318_326.out, NB326_318.out, NB319_326.out, NB326_319.out, (zb3 HB GE318 GE319 GE326)⟩)
     ·skip
      refine box_step ?hg (N := 11) ?hd (cs := #[.int .i64 0, .slice none 0 0]) (t := 28) ?hr ?_; (case hd => rfl); (case hg => rfl); (case hr => first | (go_simp; done) | (go_simp; rfl))
      intro gb326 hg w58 hbox hb
      have n0_ := jA (jO (g := gb318) (o := .cells #[.int .i64 a1_0, .slice A1_1 l1_1.length c1_1] 28 (0, 0)) (zk BK318) hb)
      have n1_ := jA (jO (g := gb319) (o := .cells #[.int .i64 0, .slice none 0 0] 28 (0, 0)) (zk BK319) hb)
      have n2_ := jA (jJ (zb2 HB GE318 GE319) hb)
      have n3_ := jA (hbox)
      have n4_ := jA ((by rw [hg]; exact (jF (zb2 HB GE318 GE319)) : w.heap.size ≤ gb326))
      have n5_ := jA ((by rw [hg]; exact (jF (zb2 HB GE318 GE319)) : w.heap.size ≤ gb326))
      have n6_ := jA ((by rw [hg]; exact jN (blk_lt (g := gb318) (o := .cells #[.int .i64 a1_0, .slice A1_1 l1_1.length c1_1] 28 (0, 0)) (zk BK318)) : gb318 ≠ gb326))
      have n7_ := jA ((by rw [hg]; exact Nat.ne_of_gt (blk_lt (g := gb318) (o := .cells #[.int .i64 a1_0, .slice A1_1 l1_1.length c1_1] 28 (0, 0)) (zk BK318)) : gb326 ≠ gb318))
      have n8_ := jA ((by rw [hg]; exact jN (blk_lt (g := gb319) (o := .cells #[.int .i64 0, .slice none 0 0] 28 (0, 0)) (zk BK319)) : gb319 ≠ gb326))
      have n9_ := jA ((by rw [hg]; exact Nat.ne_of_gt (blk_lt (g := gb319) (o := .cells #[.int .i64 0, .slice none 0 0] 28 (0, 0)) (zk BK319)) : gb326 ≠ gb319))
      clear BK318
      clear BK319
      clear HB
      have BK318 := n0_
      have BK319 := n1_
      have HB := n2_
      have BK326 := n3_
      have GW326 := n4_
      have GE326 := n5_
      have NB318_326 := n6_
      have NB326_318 := n7_
      have NB319_326 := n8_
      have NB326_319 := n9_
      clear n0_ n1_ n2_ n3_ n4_ n5_ n6_ n7_ n8_ n9_
      clear hb hbox hg
      refine hK.out _ _ ⟨(jD BK318.out 0).trans rfl, (jD BK318.out 1).trans rfl⟩ (fun hHeld => ?_)
      clear hK K
      refine norm_ (a' := ?_) ?_ ?_
      rotate_left
      ·show Act.put _ (some 11) _ = _
       simp only [Act.put, jL, jS, jT, i64_w, i32_w]
       rfl
      refine one_ (i := 5) (N := some 26) m8_fe rfl rfl (one_of HT_.out zr) (by decide) (fun K hK => ?_)
      refine goes_ Try.func72 zr rfl #[.agg #[.int .i64 a1_0, .slice A1_1 l1_1.length c1_1], .int .i64 t321, .int .i64 a3] (by rfl) rfl rfl zm ?_
      with_reducible refine (spec_l26With.calls a1_0 _ _ l1_1 t321 a3 t322 t323 _ ?side1 ?side2 A8.out).mono ?_
      (case side1 => exact zs HR1_1 HB)
      (case side2 => exact HC1_1.out)
      rintro e w59 ⟨v324, rfl, ho0, hb⟩
      refine ⟨_, rfl, ?_⟩
      have n0_ := jA (Kd.R_lower ho0 (jF (zb3 HB GE318 GE319 GE326)))
      have n1_ := jA (jO (g := gb318) (o := .cells #[.int .i64 a1_0, .slice A1_1 l1_1.length c1_1] 28 (0, 0)) (zk BK318) hb)
      have n2_ := jA (jO (g := gb319) (o := .cells #[.int .i64 0, .slice none 0 0] 28 (0, 0)) (zk BK319) hb)
      have n3_ := jA (jO (g := gb326) (o := .cells #[.int .i64 0, .slice none 0 0] 28 (0, 0)) (zk BK326) hb)
      have n4_ := jA (jJ (zb3 HB GE318 GE319 GE326) hb)
      clear BK318
      clear BK319
      clear BK326
      clear HB
      have HO325 := n0_
      have BK318 := n1_
      have BK319 := n2_
      have BK326 := n3_
      have HB := n4_
      clear n0_ n1_ n2_ n3_ n4_
      (try clear hb)
      (try clear hb2)
      (try clear hk)
      (try clear hi)
      (try clear ho0)
      refine hK.out _ _ ⟨(jD BK318.out 0).trans rfl, (jD BK318.out 1).trans rfl⟩ (fun hHeld => ?_)
      clear hK K
      refine norm_ (a' := ?_) ?_ ?_
      rotate_left
      ·show Act.put _ (some 26) _ = _
       simp only [Act.put, jL, jS, jT, i64_w, i32_w]
       rfl
      exact norm_ (by simp only [putAll, Act.put, jL, jS, jT]) (hCont (v324, gb326) _ ⟨hHeld, (zo HO325), (zk BK318), (zk BK319), (zk BK326), GW326.out, GE326.out, NB318_326.out, NB326_318.out, NB319_326.out, NB326_319.out, (zb3 HB GE318 GE319 GE326)⟩)
    ·skip
     refine box_step ?hg (N := 11) ?hd (cs := #[.int .i64 0, .slice none 0 0]) (t := 28) ?hr ?_; (case hd => rfl); (case hg => rfl); (case hr => first | (go_simp; done) | (go_simp; rfl))
     intro gb326 hg w58 hbox hb
     have n0_ := jA (jO (g := gb318) (o := .cells #[.int .i64 a1_0, .slice A1_1 l1_1.length c1_1] 28 (0, 0)) (zk BK318) hb)
     have n1_ := jA (jO (g := gb319) (o := .cells #[.int .i64 0, .slice none 0 0] 28 (0, 0)) (zk BK319) hb)
     have n2_ := jA (jJ (zb2 HB GE318 GE319) hb)
     have n3_ := jA (hbox)
     have n4_ := jA ((by rw [hg]; exact (jF (zb2 HB GE318 GE319)) : w.heap.size ≤ gb326))
     have n5_ := jA ((by rw [hg]; exact (jF (zb2 HB GE318 GE319)) : w.heap.size ≤ gb326))
     have n6_ := jA ((by rw [hg]; exact jN (blk_lt (g := gb318) (o := .cells #[.int .i64 a1_0, .slice A1_1 l1_1.length c1_1] 28 (0, 0)) (zk BK318)) : gb318 ≠ gb326))
     have n7_ := jA ((by rw [hg]; exact Nat.ne_of_gt (blk_lt (g := gb318) (o := .cells #[.int .i64 a1_0, .slice A1_1 l1_1.length c1_1] 28 (0, 0)) (zk BK318)) : gb326 ≠ gb318))
     have n8_ := jA ((by rw [hg]; exact jN (blk_lt (g := gb319) (o := .cells #[.int .i64 0, .slice none 0 0] 28 (0, 0)) (zk BK319)) : gb319 ≠ gb326))
     have n9_ := jA ((by rw [hg]; exact Nat.ne_of_gt (blk_lt (g := gb319) (o := .cells #[.int .i64 0, .slice none 0 0] 28 (0, 0)) (zk BK319)) : gb326 ≠ gb319))
     clear BK318
     clear BK319
     clear HB
     have BK318 := n0_
     have BK319 := n1_
     have HB := n2_
     have BK326 := n3_
     have GW326 := n4_
     have GE326 := n5_
     have NB318_326 := n6_
     have NB326_318 := n7_
     have NB319_326 := n8_
     have NB326_319 := n9_
     clear n0_ n1_ n2_ n3_ n4_ n5_ n6_ n7_ n8_ n9_
     clear hb hbox hg
     refine hK.out _ _ ⟨(jD BK318.out 0).trans rfl, (jD BK318.out 1).trans rfl⟩ (fun hHeld => ?_)
     clear hK K
     refine norm_ (a' := ?_) ?_ ?_
     rotate_left
     ·show Act.put _ (some 11) _ = _
      simp only [Act.put, jL, jS, jT, i64_w, i32_w]
      rfl
     refine one_ (i := 3) (N := some 24) m8_fa rfl rfl (one_of HT_.out zr) (by decide) (fun K hK => ?_)
     refine goes_ Try.func73 zr rfl #[.slice A0 l0.length c0, .string a2] (by rfl) rfl rfl zm ?_
     with_reducible refine (spec_l03Find.calls k _ _ l0 a2 t321 _ ?side1 ?side2 A7.out).mono ?_
     (case side1 => exact zs HR0 HB)
     (case side2 => exact HC0.out)
     rintro e w' ⟨rfl, ⟨nd, rfl⟩⟩
     refine ⟨_, rfl, ?_⟩
     refine hK.out _ _ ⟨(jD BK318.out 0).trans rfl, (jD BK318.out 1).trans rfl⟩ (fun hHeld => ?_)
     clear hK K
     refine norm_ (a' := ?_) ?_ ?_
     rotate_left
     ·show Act.put _ (some 24) _ = _
      simp only [Act.put, jL, jS, jT, i64_w, i32_w]
      rfl
     refine one_ (i := 5) (N := some 26) m8_fe rfl rfl (one_of HT_.out zr) (by decide) (fun K hK => ?_)
     refine goes_ Try.func72 zr rfl #[.agg #[.int .i64 a1_0, .slice A1_1 l1_1.length c1_1], .int .i64 t321, .int .i64 a3] (by rfl) rfl rfl zm ?_
     with_reducible refine (spec_l26With.calls a1_0 _ _ l1_1 t321 a3 t322 t323 _ ?side1 ?side2 A8.out).mono ?_
     (case side1 => repeat (first | exact HR1_1.out | exact (Kd.C_below HR1_1.out (zb3 HB GE318 GE319 GE326)) | (with_reducible refine Kd.C_alloc ?_ _) | (with_reducible refine Kd.C_drewN ?_ _) | (with_reducible refine Kd.C_drew ?_)))
     (case side2 => exact HC1_1.out)
     rintro e w59 ⟨v324, rfl, ho0, hb⟩
     refine ⟨_, rfl, ?_⟩
     have n0_ := jA (Kd.R_lower ho0 (jF (zb3 HB GE318 GE319 GE326)))
     have n1_ := jA (jO (g := gb318) (o := .cells #[.int .i64 a1_0, .slice A1_1 l1_1.length c1_1] 28 (0, 0)) (zk BK318) hb)
     have n2_ := jA (jO (g := gb319) (o := .cells #[.int .i64 0, .slice none 0 0] 28 (0, 0)) (zk BK319) hb)
     have n3_ := jA (jO (g := gb326) (o := .cells #[.int .i64 0, .slice none 0 0] 28 (0, 0)) (zk BK326) hb)
     have n4_ := jA (jJ (zb3 HB GE318 GE319 GE326) hb)
     clear BK318
     clear BK319
     clear BK326
     clear HB
     have HO325 := n0_
     have BK318 := n1_
     have BK319 := n2_
     have BK326 := n3_
     have HB := n4_
     clear n0_ n1_ n2_ n3_ n4_
     (try clear hb)
     (try clear hb2)
     (try clear hk)
     (try clear hi)
     (try clear ho0)
     refine hK.out _ _ ⟨(jD BK318.out 0).trans rfl, (jD BK318.out 1).trans rfl⟩ (fun hHeld => ?_)
     clear hK K
     refine norm_ (a' := ?_) ?_ ?_
     rotate_left
     ·show Act.put _ (some 26) _ = _
      simp only [Act.put, jL, jS, jT, i64_w, i32_w]
      rfl
     exact norm_ (by simp only [putAll, Act.put, jL, jS, jT]) (hCont (v324, gb326) _ ⟨hHeld, (zo HO325), (zk BK318), (zk BK319), (zk BK326), GW326.out, GE326.out, NB318_326.out, NB326_318.out, NB319_326.out, NB326_319.out, (zb3 HB GE318 GE319 GE326)⟩)
   rintro ⟨v324, gb326⟩ w60 ⟨hS_, h0_, h1_, h2_, h3_, h4_, h5_, h6_, h7_, h8_, h9_, h10_⟩
   have n0_ : Aside0 (Kd.R (Kd.int .i64) 2 w60 w.heap.size (fun _ => True) v324 t323) := ⟨h0_⟩
   have n1_ : Aside0 (w60.heap[gb318]? = some (.cells #[.int .i64 a1_0, .slice A1_1 l1_1.length c1_1] 28 (0, 0))) := ⟨h1_⟩
   have n2_ : Aside0 (w60.heap[gb319]? = some (.cells #[.int .i64 0, .slice none 0 0] 28 (0, 0))) := ⟨h2_⟩
   have n3_ : Aside0 (w60.heap[gb326]? = some (.cells #[.int .i64 0, .slice none 0 0] 28 (0, 0))) := ⟨h3_⟩
   have n4_ : Aside0 (w.heap.size ≤ gb326) := ⟨h4_⟩
   have n5_ : Aside0 (w.heap.size ≤ gb326) := ⟨h5_⟩
   have n6_ : Aside0 (gb318 ≠ gb326) := ⟨h6_⟩
   have n7_ : Aside0 (gb326 ≠ gb318) := ⟨h7_⟩
   have n8_ : Aside0 (gb319 ≠ gb326) := ⟨h8_⟩
   have n9_ : Aside0 (gb326 ≠ gb319) := ⟨h9_⟩
   have n10_ : Aside0 (Below w.heap.size w w60) := ⟨h10_⟩
   clear BK318
   clear BK319
   clear HB
   clear h0_ h1_ h2_ h3_ h4_ h5_ h6_ h7_ h8_ h9_ h10_
   have HO325 := n0_
   have BK318 := n1_
   have BK319 := n2_
   have BK326 := n3_
   have GW326 := n4_
   have GE326 := n5_
   have NB318_326 := n6_
   have NB326_318 := n7_
   have NB319_326 := n8_
   have NB326_319 := n9_
   have HB := n10_
   clear n0_ n1_ n2_ n3_ n4_ n5_ n6_ n7_ n8_ n9_ n10_
   have hHeld : w60.cell? ⟨gb318, 0, none⟩ = some (.int .i64 a1_0) ∧ w60.cell? ⟨gb318, 1, none⟩ = some (.slice A1_1 l1_1.length c1_1) := hS_
   obtain ⟨Ao62, co62, eo62⟩ := Kd.R_slice HO325.out
   (first | subst eo62 | (injection eo62 with f1_ f2_ f3_; have f4_ := f1_.symm; have f5_ := f3_.symm; clear f1_ f2_ f3_; subst f4_; subst f5_))
   refine norm_ (a' := ?_) ?_ ?_
   rotate_left
   ·simp only [putAll, Act.put, jL, jS, jT]
    rfl
   refine one_ (i := 7) (N := none) m8_ff rfl rfl (one_of HT_.out zr) (by decide) (fun K hK => ?_)
   have hs61 : w60.cell? ⟨gb326, 0, none⟩ = some (.int .i64 0) := (jD BK326.out 0).trans rfl
   have hfs61 := jC BK326.out 0
   have hns61_0 := NB318_326.out
   have hns61_1 := NB319_326.out
   have hms61_0 := NB326_318.out
   have hms61_1 := NB326_319.out
   have hs63 : w60.cell? ⟨gb326, 1, none⟩ = some (.slice none 0 0) := (jD BK326.out 1).trans rfl
   have hfs63 := jC BK326.out 1
   have hns63_0 := NB318_326.out
   have hns63_1 := NB319_326.out
   have hms63_0 := NB326_318.out
   have hms63_1 := NB326_319.out
   refine skip_ (w1 := ?_) (by rfl) rfl ?_ ?_
   rotate_left
   ·go_simp
    rfl
   refine hK.out _ _ ⟨((jX (p := ⟨gb326, _, none⟩) NB318_326.out _).trans (((jX (p := ⟨gb326, _, none⟩) NB318_326.out _).trans (hHeld.1)))), ((jX (p := ⟨gb326, _, none⟩) NB318_326.out _).trans (((jX (p := ⟨gb326, _, none⟩) NB318_326.out _).trans (hHeld.2))))⟩ (fun hHeld => ?_)
   clear hK K
   refine done_ (done_of HT_.out zr) ?_
   have hnb64 := NB326_318.out
   have hnc64 := NB318_326.out
   have hnb65 := NB326_319.out
   have hnc65 := NB319_326.out
   have hcz66_0 : w60.cell? ⟨gb326, 0, none⟩ = some (.int .i64 0) := (jD BK326.out 0).trans rfl
   have hcz66_1 : w60.cell? ⟨gb326, 1, none⟩ = some (.slice none 0 0) := (jD BK326.out 1).trans rfl
   have hfz66_0 := jC BK326.out 0
   have hfz66_1 := jC BK326.out 1
   try go_wp2_with (first | ((with_reducible refine jW (f := 25) rfl ?_); refine goesL_ (some 29) rfl rfl Try.func25 zr rfl #[.slice A0 l0.length c0, .agg #[.int .i64 t322, .slice Ao62 t323.length co62]] rfl zm ?_; (with_reducible refine (spec_IsMagazine.calls k _ _ l0 t322 _ _ t323 false _ ?side1 ?side2 ?side3 ?side4 A9.out).mono ?_); (case side1 => exact Kd.C_below HR0.out (zb3 HB GE318 GE319 GE326)); (case side2 => exact HC0.out); (case side3 => refine (jb (e := 2) (base := w.heap.size) (ok := fun k_ => True) (n := t323.length) (c := co62) ?_).2.2; exact (by (with_reducible repeat (first | apply Kd.R_alloc | apply Kd.R_drewN | apply Kd.R_drew)); exact (Kd.R_mono (Kd.R_far (p := ⟨gb326, 1, none⟩) (Kd.R_far (p := ⟨gb326, 0, none⟩) (Kd.R_types HO325.out BK326.out (by decide)) (fun _ hk => hk.2) (.int .i64 t322)) (fun _ hk => hk.2) (.slice Ao62 t323.length co62)) (fun _ h_ => h_.1)))); (case side4 => exact (jb HO325.out).2.1); rintro e w67 ⟨rfl, hb⟩; refine ⟨_, rfl, ?_⟩; have n0_ := jA (Kd.R_below (by (with_reducible repeat (first | apply Kd.R_alloc | apply Kd.R_drewN | apply Kd.R_drew)); exact (Kd.R_mono (Kd.R_far (p := ⟨gb326, 1, none⟩) (Kd.R_far (p := ⟨gb326, 0, none⟩) (Kd.R_types HO325.out BK326.out (by decide)) (fun _ hk => hk.2) (.int .i64 t322)) (fun _ hk => hk.2) (.slice Ao62 t323.length co62)) (fun _ h_ => h_.1))) hb); have n1_ := jA (jO (g := gb318) (o := .cells #[.int .i64 a1_0, .slice A1_1 l1_1.length c1_1] 28 (0, 0)) (by (with_reducible repeat (first | refine jG ?_ _ | refine jI ?_ | refine jH ?_ _)); refine ja ?_ NB318_326.out _; (with_reducible repeat (first | refine jG ?_ _ | refine jI ?_ | refine jH ?_ _)); refine ja ?_ NB318_326.out _; (with_reducible repeat (first | refine jG ?_ _ | refine jI ?_ | refine jH ?_ _)); exact BK318.out) hb); have n2_ := jA (jO (g := gb319) (o := .cells #[.int .i64 0, .slice none 0 0] 28 (0, 0)) (by (with_reducible repeat (first | refine jG ?_ _ | refine jI ?_ | refine jH ?_ _)); refine ja ?_ NB319_326.out _; (with_reducible repeat (first | refine jG ?_ _ | refine jI ?_ | refine jH ?_ _)); refine ja ?_ NB319_326.out _; (with_reducible repeat (first | refine jG ?_ _ | refine jI ?_ | refine jH ?_ _)); exact BK319.out) hb); have n3_ := jA (jO (g := gb326) (o := .cells #[.int .i64 t322, .slice Ao62 t323.length co62] 28 (0, 0)) (by (with_reducible repeat (first | refine jG ?_ _ | refine jI ?_ | refine jH ?_ _)); refine jZ (cs := #[.int .i64 t322, .slice none 0 0]) ?_ 1 _ rfl; (with_reducible repeat (first | refine jG ?_ _ | refine jI ?_ | refine jH ?_ _)); refine jZ (cs := #[.int .i64 0, .slice none 0 0]) ?_ 0 _ rfl; (with_reducible repeat (first | refine jG ?_ _ | refine jI ?_ | refine jH ?_ _)); exact BK326.out) hb); have n4_ := jA (jJ (zb3 HB GE318 GE319 GE326) hb); clear HO325; clear BK318; clear BK319; clear BK326; clear HB; have HO325 := n0_; have BK318 := n1_; have BK319 := n2_; have BK326 := n3_; have HB := n4_; clear n0_ n1_ n2_ n3_ n4_; (try clear hb); (try clear hb2); (try clear hk); (try clear hi); have hcz68_0 : w67.cell? ⟨gb319, 0, none⟩ = some (.int .i64 0) := (jD BK319.out 0).trans rfl; have hcz68_1 : w67.cell? ⟨gb319, 1, none⟩ = some (.slice none 0 0) := (jD BK319.out 1).trans rfl; have hfz68_0 := jC BK319.out 0; have hfz68_1 := jC BK319.out 1))
   refine bodyPost_ret (results_ct rfl _ _ gb319 28 #[.int .i64 0, .slice none 0 0] (0, 0) _ rfl (by (with_reducible repeat (first | refine jG ?_ _ | refine jI ?_ | refine jH ?_ _)); refine jZ (cs := #[.int .i64 0, .slice none 0 0]) ?_ 1 _ rfl; (with_reducible repeat (first | refine jG ?_ _ | refine jI ?_ | refine jH ?_ _)); refine jZ (cs := #[.int .i64 0, .slice none 0 0]) ?_ 0 _ rfl; (with_reducible repeat (first | refine jG ?_ _ | refine jI ?_ | refine jH ?_ _)); exact BK319.out) Try.underlying28 rfl zr) rfl ?_
   exact ⟨_, by first | rfl | (simp [errW_none, errW_some] <;> rfl) | (simp [*, errW_none, errW_some] <;> rfl), by first | exact Kd.R_nil _ _ _ _ _ | exact Kd.N_nil _ _ _ _ _ | exact Kd.V_nil _ _ _ _ _ | exact Kd.Q_nil _ _ _ _ _ | exact Kd.S_nil _ _ _ _ _, zb3 HB GE318 GE319 GE326⟩
 ·rw [if_neg c6] at H
  have c6b0 : (t320 == 0) = false := beq_eq_false_iff_ne.mpr c6
  have c6b1 : (t320 != 0) = true := bne_iff_ne.mpr c6
  simp only [Option.some.injEq, Prod.mk.injEq] at H
  obtain ⟨rfl, rfl, rfl⟩ := H
  go_enter Try.func40, Try.ntmps40
  go_wp2_with (first | ((with_reducible refine jV (N := 5) rfl ?_); refine jU ?hg (N := 5) ?hd (cs := #[.int .i64 a1_0, .slice A1_1 l1_1.length c1_1]) (t := 28) ?hr ?_; (case hd => rfl); (case hg => rfl); (case hr => first | (go_simp; done) | (go_simp; rfl)); intro gb318 hg w69 hbox hb; have n0_ := jA (jJ (zb0 HB) hb); have n1_ := jA (hbox); have n2_ := jA ((by rw [hg]; exact (jF (zb0 HB)) : w.heap.size ≤ gb318)); have n3_ := jA ((by rw [hg]; exact (jF (zb0 HB)) : w.heap.size ≤ gb318)); clear HB; have HB := n0_; have BK318 := n1_; have GW318 := n2_; have GE318 := n3_; clear n0_ n1_ n2_ n3_; clear hb hbox hg) | ((with_reducible refine jV (N := 8) rfl ?_); refine jU ?hg (N := 8) ?hd (cs := #[.int .i64 0, .slice none 0 0]) (t := 28) ?hr ?_; (case hd => rfl); (case hg => rfl); (case hr => first | (go_simp; done) | (go_simp; rfl)); intro gb319 hg w70 hbox hb; have n0_ := jA (jO (g := gb318) (o := .cells #[.int .i64 a1_0, .slice A1_1 l1_1.length c1_1] 28 (0, 0)) (zk BK318) hb); have n1_ := jA (jJ (zb1 HB GE318) hb); have n2_ := jA (hbox); have n3_ := jA ((by rw [hg]; exact (jF (zb1 HB GE318)) : w.heap.size ≤ gb319)); have n4_ := jA ((by rw [hg]; exact (jF (zb1 HB GE318)) : w.heap.size ≤ gb319)); have n5_ := jA ((by rw [hg]; exact jN (blk_lt (g := gb318) (o := .cells #[.int .i64 a1_0, .slice A1_1 l1_1.length c1_1] 28 (0, 0)) (zk BK318)) : gb318 ≠ gb319)); have n6_ := jA n5_.out.symm; clear BK318; clear HB; have BK318 := n0_; have HB := n1_; have BK319 := n2_; have GW319 := n3_; have GE319 := n4_; have NB318_319 := n5_; have NB319_318 := n6_; clear n0_ n1_ n2_ n3_ n4_ n5_ n6_; clear hb hbox hg; have hnb71 := NB318_319.out; have hnc71 := NB319_318.out; have hcz72_0 : w70.cell? ⟨gb318, 0, none⟩ = some (.int .i64 a1_0) := (jD BK318.out 0).trans rfl; have hcz72_1 : w70.cell? ⟨gb318, 1, none⟩ = some (.slice A1_1 l1_1.length c1_1) := (jD BK318.out 1).trans rfl; have hfz72_0 := jC BK318.out 0; have hfz72_1 := jC BK318.out 1) | ((with_reducible refine jW (f := 69) rfl ?_); refine goesL_ (some 16) rfl rfl Try.func69 zr rfl #[.slice A0 l0.length c0, .agg #[.int .i64 a1_0, .slice A1_1 l1_1.length c1_1], .string a2, .int .i64 a3] rfl zm ?_; (with_reducible refine (spec_l26Code.calls k _ _ l0 a1_0 _ _ l1_1 a2 a3 t320 _ ?side1 ?side2 ?side3 ?side4 A5.out).mono ?_); (case side1 => exact zs HR0 HB); (case side2 => exact HC0.out); (case side3 => exact zs HR1_1 HB); (case side4 => exact HC1_1.out); rintro e w73 ⟨rfl, hb⟩; refine ⟨_, rfl, ?_⟩; have n0_ := jA (jO (g := gb318) (o := .cells #[.int .i64 a1_0, .slice A1_1 l1_1.length c1_1] 28 (0, 0)) (zk BK318) hb); have n1_ := jA (jO (g := gb319) (o := .cells #[.int .i64 0, .slice none 0 0] 28 (0, 0)) (zk BK319) hb); have n2_ := jA (jJ (zb2 HB GE318 GE319) hb); clear BK318; clear BK319; clear HB; have BK318 := n0_; have BK319 := n1_; have HB := n2_; clear n0_ n1_ n2_; (try clear hb); (try clear hb2); (try clear hk); (try clear hi); have hcz74_0 : w73.cell? ⟨gb319, 0, none⟩ = some (.int .i64 0) := (jD BK319.out 0).trans rfl; have hcz74_1 : w73.cell? ⟨gb319, 1, none⟩ = some (.slice none 0 0) := (jD BK319.out 1).trans rfl; have hfz74_0 := jC BK319.out 0; have hfz74_1 := jC BK319.out 1))
  refine bodyPost_ret (results_ct rfl _ _ gb319 28 #[.int .i64 0, .slice none 0 0] (0, 0) _ rfl (by (with_reducible repeat (first | refine jG ?_ _ | refine jI ?_ | refine jH ?_ _)); refine jZ (cs := #[.int .i64 0, .slice none 0 0]) ?_ 1 _ rfl; (with_reducible repeat (first | refine jG ?_ _ | refine jI ?_ | refine jH ?_ _)); refine jZ (cs := #[.int .i64 0, .slice none 0 0]) ?_ 0 _ rfl; (with_reducible repeat (first | refine jG ?_ _ | refine jI ?_ | refine jH ?_ _)); exact BK319.out) Try.underlying28 rfl zr) rfl ?_
  exact ⟨_, by first | rfl | (simp [errW_none, errW_some] <;> rfl) | (simp [*, errW_none, errW_some] <;> rfl), by first | exact Kd.R_nil _ _ _ _ _ | exact Kd.N_nil _ _ _ _ _ | exact Kd.V_nil _ _ _ _ _ | exact Kd.Q_nil _ _ _ _ _ | exact Kd.S_nil _ _ _ _ _, zb2 HB GE318 GE319⟩

end Go.Proofs.Ytdgglhfnlljmeaa.PFnExactStorePieces
