/- FnExactShortestInputs: the parts of the law that look behind a row's length, and the law's walk: with the answers that the functions give, it tells true. -/
import Derived.Test.YthieppjmjgijfaaQFnExactShortestInputsx11
namespace Go.Proofs.Ythieppjmjgijfaa.PFnExactShortestInputs
open Go.RowKit Go.Proofs.YthieppjmjgijfaaW.PrintWords Go.Proofs.YthieppjmjgijfaaW.PrintLast Go.Proofs.YthieppjmjgijfaaW.PrintMore
attribute [local go_sem] max2_int min2_int max_two min_two max_three min_three max_four min_four   -- for this text's walks alone
set_option linter.unusedVariables false
set_option linter.unusedSimpArgs false
open Go.Proofs.YthieppjmjgijfaaX

theorem zy {p : Prop} (h : p := by repeat (first | (with_reducible first | exact Below.refl _ _ | apply below_alloc | apply pw_below_drewN | apply below_drew1) | exact Below.refl _ _)) : p := h

/-! ### laws_intactInt64S, over rows with what lies behind their lengths: function 43 -/
set_option maxHeartbeats 8000000 in
set_option maxRecDepth 100000 in
theorem laws_intactInt64SX.calls (k : Nat) (A0 : Option Addr) (c0 : Nat) (l0 : List Int) (A1 : Option Addr) (c1 : Nat) (l1 : List Int) (n0 : Nat) (rm : Int) (r : Bool) (w : World) (hr0 : Kd.C (Kd.int .i64) w A0 l0.length l0) (hc0 : l0.length ≤ c0) (hr1 : Kd.C (Kd.int .i64) w A1 l1.length l1) (hc1 : l1.length ≤ c1) (hrm : laws_roomBehind.f (n0 : Int) = some rm) (hj : wrap64 ((n0 : Int) + rm) = (l0.length : Int)) (hl : l1.length = l0.length) (h : laws_eqInt64S.f k l0 l1 = some r) :
    Calls Try.prog 43 #[.slice A0 n0 c0, .slice A1 n0 c1] w fun e w' => e = .returned (.bool r) ∧ Below w.heap.size w w' := by
  have HR0 := jA hr0
  have HR1 := jA hr1
  have HC0 := jA hc0
  have HC1 := jA hc1
  have HL := jA hl
  clear hr0 hr1 hc0 hc1 hl
  obtain ⟨ji5, hji5⟩ : ∃ j_ : Int, j_ = (l0.length : Int) := ⟨_, rfl⟩
  rw [← hji5] at hj
  have HJ := jA hji5
  have hji5w : (IntKind.i64.wrap ((n0 : Int) + rm)) = ji5 := (i64_w _).trans hj
  clear hji5
  have A3 := jA hrm
  have A10 := jA h
  clear hrm h
  obtain ⟨i0, hi0, _, hsz0, _⟩ := info_parts info2
  have hcut0 := cut_cap (P := Try.prog) 35 2 .i64 Try.underlying35 hi0 A0 n0 c0 l0.length ji5 HJ.out HC0.out
  have hcut1 := cut_cap (P := Try.prog) 35 2 .i64 Try.underlying35 hi0 A1 n0 c1 l1.length ji5 (HJ.out.trans (by rw [HL.out])) HC1.out
  clear hi0 hsz0
  go_enter Try.func43, Try.ntmps43
  go_wp2_with (first | (go_at_call 77; (with_reducible refine (laws_roomBehind.calls (n0 : Int) rm _ A3.out).mono ?_); rintro e w' ⟨rfl, ⟨nd, rfl⟩⟩; (try first | exact ⟨rfl, _, World.drewN_drewN _ _ _⟩ | exact ⟨rfl, _, Eq.trans (World.drewN_drewN _ _ _) (congrArg (World.drewN _) (Nat.add_assoc _ _ _))⟩)) | (go_at_call 44; (with_reducible refine (laws_eqInt64S.calls k _ _ l0 _ _ l1 r _ ?side1 ?side2 ?side3 ?side4 A10.out).mono ?_); (case side1 => repeat (first | exact HR0.out | (with_reducible refine Kd.C_alloc ?_ _) | (with_reducible refine Kd.C_drewN ?_ _) | (with_reducible refine Kd.C_drew ?_))); (case side2 => exact HC0.out); (case side3 => repeat (first | exact HR1.out | (with_reducible refine Kd.C_alloc ?_ _) | (with_reducible refine Kd.C_drewN ?_ _) | (with_reducible refine Kd.C_drew ?_))); (case side4 => exact HC1.out); rintro e w' ⟨rfl, ⟨nd, rfl⟩⟩; (try first | exact ⟨rfl, _, World.drewN_drewN _ _ _⟩ | exact ⟨rfl, _, Eq.trans (World.drewN_drewN _ _ _) (congrArg (World.drewN _) (Nat.add_assoc _ _ _))⟩)))
  repeat (go_quiet (first | (go_at_call 77; (with_reducible refine (laws_roomBehind.calls (n0 : Int) rm _ A3.out).mono ?_); rintro e w' ⟨rfl, ⟨nd, rfl⟩⟩; (try first | exact ⟨rfl, _, World.drewN_drewN _ _ _⟩ | exact ⟨rfl, _, Eq.trans (World.drewN_drewN _ _ _) (congrArg (World.drewN _) (Nat.add_assoc _ _ _))⟩)) | (go_at_call 44; (with_reducible refine (laws_eqInt64S.calls k _ _ l0 _ _ l1 r _ ?side1 ?side2 ?side3 ?side4 A10.out).mono ?_); (case side1 => repeat (first | exact HR0.out | (with_reducible refine Kd.C_alloc ?_ _) | (with_reducible refine Kd.C_drewN ?_ _) | (with_reducible refine Kd.C_drew ?_))); (case side2 => exact HC0.out); (case side3 => repeat (first | exact HR1.out | (with_reducible refine Kd.C_alloc ?_ _) | (with_reducible refine Kd.C_drewN ?_ _) | (with_reducible refine Kd.C_drew ?_))); (case side4 => exact HC1.out); rintro e w' ⟨rfl, ⟨nd, rfl⟩⟩; (try first | exact ⟨rfl, _, World.drewN_drewN _ _ _⟩ | exact ⟨rfl, _, Eq.trans (World.drewN_drewN _ _ _) (congrArg (World.drewN _) (Nat.add_assoc _ _ _))⟩))); try go_wp2_with (first | (go_at_call 77; (with_reducible refine (laws_roomBehind.calls (n0 : Int) rm _ A3.out).mono ?_); rintro e w' ⟨rfl, ⟨nd, rfl⟩⟩; (try first | exact ⟨rfl, _, World.drewN_drewN _ _ _⟩ | exact ⟨rfl, _, Eq.trans (World.drewN_drewN _ _ _) (congrArg (World.drewN _) (Nat.add_assoc _ _ _))⟩)) | (go_at_call 44; (with_reducible refine (laws_eqInt64S.calls k _ _ l0 _ _ l1 r _ ?side1 ?side2 ?side3 ?side4 A10.out).mono ?_); (case side1 => repeat (first | exact HR0.out | (with_reducible refine Kd.C_alloc ?_ _) | (with_reducible refine Kd.C_drewN ?_ _) | (with_reducible refine Kd.C_drew ?_))); (case side2 => exact HC0.out); (case side3 => repeat (first | exact HR1.out | (with_reducible refine Kd.C_alloc ?_ _) | (with_reducible refine Kd.C_drewN ?_ _) | (with_reducible refine Kd.C_drew ?_))); (case side4 => exact HC1.out); rintro e w' ⟨rfl, ⟨nd, rfl⟩⟩; (try first | exact ⟨rfl, _, World.drewN_drewN _ _ _⟩ | exact ⟨rfl, _, Eq.trans (World.drewN_drewN _ _ _) (congrArg (World.drewN _) (Nat.add_assoc _ _ _))⟩))))
  go_ret
  exact ⟨by first | rfl | (simp; done) | (simp [*]; done), zy⟩

/-! ### the law: function 9 -/
set_option maxHeartbeats 8000000 in
set_option maxRecDepth 100000 in
theorem laws_FnExactShortestInputs.skip1_ (a0_0 : Bool) (a0_1 : Bool) (a0_2 : Bool) (a0_3 : Bool) (a0_4 : Bool) (a0_5 : Int) (A1 : Option Addr) (c1 : Nat) (l1 : List Int) (a2 : Int) (w : World) (hr1 : Kd.C (Kd.int .i64) w A1 l1.length l1) (hc1 : l1.length ≤ c1) (hn_ : 1000000 < l1.length) :
    Calls Try.prog 9 #[.agg #[.bool a0_0, .bool a0_1, .bool a0_2, .bool a0_3, .bool a0_4, .int .i64 a0_5], .slice A1 l1.length c1, .int .i64 a2] w fun e w' => e = .returned (.bool true) ∧ Below w.heap.size w w' := by
  have HR1 := jA hr1
  have HC1 := jA hc1
  clear hr1 hc1
  have HN := jA hn_
  clear hn_
  have HB := jA (Below.refl w.heap.size w)
  go_enter Try.func9, Try.ntmps9
  have hn_ : decide (1000000 < (l1.length : Int)) = true := jR (by have := HN.out; omega)
  have hn2_ : decide (1000000 < l1.length) = true := jR (by have := HN.out; omega)
  go_wp2_with (first | ((with_reducible refine jO (N := 3) rfl ?_); refine jN ?hg (N := 3) ?hd (cs := #[.bool a0_0, .bool a0_1, .bool a0_2, .bool a0_3, .bool a0_4, .int .i64 a0_5]) (t := 28) ?hr ?_; (case hd => rfl); (case hg => rfl); (case hr => first | (go_simp; done) | (go_simp; rfl)); intro gb1 hg_ w_3 hbox hb; have BK2 := jA hbox; have HGgb1 : Aside0 (gb1 < w_3.heap.size) := ⟨blk_lt hbox⟩; have hbA_ := jA hb; clear hbox hg_ hb; have hcz_0 : w_3.cell? ⟨gb1, 0, none⟩ = some (.bool a0_0) := (jC BK2.out 0).trans rfl; have hfz_0 := jB BK2.out 0; have hcz_1 : w_3.cell? ⟨gb1, 1, none⟩ = some (.bool a0_1) := (jC BK2.out 1).trans rfl; have hfz_1 := jB BK2.out 1; have hcz_2 : w_3.cell? ⟨gb1, 2, none⟩ = some (.bool a0_2) := (jC BK2.out 2).trans rfl; have hfz_2 := jB BK2.out 2; have hcz_3 : w_3.cell? ⟨gb1, 3, none⟩ = some (.bool a0_3) := (jC BK2.out 3).trans rfl; have hfz_3 := jB BK2.out 3; have hcz_4 : w_3.cell? ⟨gb1, 4, none⟩ = some (.bool a0_4) := (jC BK2.out 4).trans rfl; have hfz_4 := jB BK2.out 4; have hcz_5 : w_3.cell? ⟨gb1, 5, none⟩ = some (.int .i64 a0_5) := (jC BK2.out 5).trans rfl; have hfz_5 := jB BK2.out 5))
  clear hcz_0 hfz_0 hcz_1 hfz_1 hcz_2 hfz_2 hcz_3 hfz_3 hcz_4 hfz_4 hcz_5 hfz_5
  have hb := hbA_.out
  clear hbA_
  have HBi := jA (jJ (zy) hb : Below w.heap.size w w_3)
  clear hb
  have HBn := jA (jJ HB.out HBi.out)
  clear HB
  have HB := HBn
  clear HBn
  have HS4 := jA HBi.out.size
  clear HBi
  have HWw_3 := jA HB.out.size
  go_wp2
  go_ret
  exact ⟨by first | rfl | (simp; done) | (simp [*]; done), zb0 HB⟩
set_option maxHeartbeats 8000000 in
set_option maxRecDepth 100000 in
theorem laws_FnExactShortestInputs.true_ (k : Nat) (a0_0 : Bool) (a0_1 : Bool) (a0_2 : Bool) (a0_3 : Bool) (a0_4 : Bool) (a0_5 : Int) (A1 : Option Addr) (c1 : Nat) (l1 : List Int) (a2 : Int) (w : World) (hr1 : Kd.C (Kd.int .i64) w A1 l1.length l1) (hc1 : l1.length ≤ c1) (xs1 ext1 extb1 : List Int) (rm1 : Int) (ws_r1 : List Int) (res_r2 : Int) (gs_r1 : List Int) (mk_0 : Int) (ml_0 : List Int) (mk_1 : Int) (ml_1 : List Int) (hto1_ : laws_toInt64SX.f k l1 false = some ext1) (htob1_ : laws_toInt64SX.f k l1 true = some extb1) (hxl1_ : xs1.length = l1.length) (hnb1_ : extb1 = [] → l1.length = 0) (hne1_ : ¬ (ext1 = [])) (hxe1_ : xs1 = ext1.take xs1.length) (hxb1_ : xs1 = extb1.take xs1.length) (hle1_ : xs1.length ≤ ext1.length) (hlb1_ : xs1.length ≤ extb1.length) (hrm1_ : laws_roomBehind.f (xs1.length : Int) = some rm1) (hj1_ : wrap64 ((xs1.length : Int) + rm1) = (ext1.length : Int)) (heqx1_ : laws_eqInt64S.f k ext1 ext1 = some true) (hg_l1_ : l1.length ≤ 1000000) (hfspec_ : spec_ShortestInputs.f k a0_0 a0_1 a0_2 a0_3 a0_4 a0_5 xs1 a2 = some (ws_r1, res_r2)) (hvac_ : laws_toController.f a0_0 a0_1 a0_2 a0_3 a0_4 a0_5 = some (a0_0, a0_1, a0_2, a0_3, a0_4, a0_5)) (hfimpl_ : impl_ShortestInputs.f k a0_0 a0_1 a0_2 a0_3 a0_4 a0_5 xs1 a2 = some (gs_r1, res_r2)) (he_gs_r1_ws_r1_ : laws_eqInt64S.f k gs_r1 ws_r1 = some true) (hm0_ : laws_markInt64S.f k xs1 101 = some (mk_0, ml_0)) (hmn0_ : decide (mk_0 < 0) = false) (hm1_ : laws_markInt64S.f k gs_r1 101 = some (mk_1, ml_1)) (hmn1_ : decide (mk_1 < 0) = false) (hml1_ : gs_r1.length = ml_1.length) (hh_ml_1_ : laws_heldInt64S.f k ml_1 101 = some mk_1) :
    Calls Try.prog 9 #[.agg #[.bool a0_0, .bool a0_1, .bool a0_2, .bool a0_3, .bool a0_4, .int .i64 a0_5], .slice A1 l1.length c1, .int .i64 a2] w fun e w' => e = .returned (.bool true) ∧ Below w.heap.size w w' := by
  have HR1 := jA hr1
  have HC1 := jA hc1
  clear hr1 hc1
  have HTO1 := jA hto1_
  have HTOB1 := jA htob1_
  have HXL1 := jA hxl1_
  have HNB1 := jA hnb1_
  have HNE1 := jA hne1_
  have HXE1 := jA hxe1_
  have HXB1 := jA hxb1_
  have HLE1 := jA hle1_
  have HLB1 := jA hlb1_
  have HRM1 := jA hrm1_
  have HJ1 := jA hj1_
  have HEQX1 := jA heqx1_
  have HG_l1 := jA hg_l1_
  have HFspec := jA hfspec_
  have HVaC := jA hvac_
  have HFimpl := jA hfimpl_
  have HE_gs_r1_ws_r1 := jA he_gs_r1_ws_r1_
  have HM0 := jA hm0_
  have HMN0 := jA hmn0_
  have HM1 := jA hm1_
  have HMN1 := jA hmn1_
  have HML1 := jA hml1_
  have HH_ml_1 := jA hh_ml_1_
  clear hto1_ htob1_ hxl1_ hnb1_ hne1_ hxe1_ hxb1_ hle1_ hlb1_ hrm1_ hj1_ heqx1_ hg_l1_ hfspec_ hvac_ hfimpl_ he_gs_r1_ws_r1_ hm0_ hmn0_ hm1_ hmn1_ hml1_ hh_ml_1_
  have HB := jA (Below.refl w.heap.size w)
  go_enter Try.func9, Try.ntmps9
  have hn_ : decide (1000000 < (l1.length : Int)) = false := decide_eq_false (by have := HG_l1.out; omega)
  have hn2_ : decide (1000000 < l1.length) = false := decide_eq_false (by have := HG_l1.out; omega)
  go_wp2_with (first | ((with_reducible refine jO (N := 3) rfl ?_); refine jN ?hg (N := 3) ?hd (cs := #[.bool a0_0, .bool a0_1, .bool a0_2, .bool a0_3, .bool a0_4, .int .i64 a0_5]) (t := 28) ?hr ?_; (case hd => rfl); (case hg => rfl); (case hr => first | (go_simp; done) | (go_simp; rfl)); intro gb1 hg_ w_3 hbox hb; have BK2 := jA hbox; have HGgb1 : Aside0 (gb1 < w_3.heap.size) := ⟨blk_lt hbox⟩; have hbA_ := jA hb; clear hbox hg_ hb; have hcz_0 : w_3.cell? ⟨gb1, 0, none⟩ = some (.bool a0_0) := (jC BK2.out 0).trans rfl; have hfz_0 := jB BK2.out 0; have hcz_1 : w_3.cell? ⟨gb1, 1, none⟩ = some (.bool a0_1) := (jC BK2.out 1).trans rfl; have hfz_1 := jB BK2.out 1; have hcz_2 : w_3.cell? ⟨gb1, 2, none⟩ = some (.bool a0_2) := (jC BK2.out 2).trans rfl; have hfz_2 := jB BK2.out 2; have hcz_3 : w_3.cell? ⟨gb1, 3, none⟩ = some (.bool a0_3) := (jC BK2.out 3).trans rfl; have hfz_3 := jB BK2.out 3; have hcz_4 : w_3.cell? ⟨gb1, 4, none⟩ = some (.bool a0_4) := (jC BK2.out 4).trans rfl; have hfz_4 := jB BK2.out 4; have hcz_5 : w_3.cell? ⟨gb1, 5, none⟩ = some (.int .i64 a0_5) := (jC BK2.out 5).trans rfl; have hfz_5 := jB BK2.out 5))
  clear hcz_0 hfz_0 hcz_1 hfz_1 hcz_2 hfz_2 hcz_3 hfz_3 hcz_4 hfz_4 hcz_5 hfz_5
  have hb := hbA_.out
  clear hbA_
  have HBi := jA (jJ (zy) hb : Below w.heap.size w w_3)
  clear hb
  have HBn := jA (jJ HB.out HBi.out)
  clear HB
  have HB := HBn
  clear HBn
  have HS4 := jA HBi.out.size
  clear HBi
  have HWw_3 := jA HB.out.size
  clear hn_ hn2_
  have hczgb1_0 : w_3.cell? ⟨gb1, 0, none⟩ = some (.bool a0_0) := (jC BK2.out 0).trans rfl
  have hfzgb1_0 := jB BK2.out 0
  have hczgb1_1 : w_3.cell? ⟨gb1, 1, none⟩ = some (.bool a0_1) := (jC BK2.out 1).trans rfl
  have hfzgb1_1 := jB BK2.out 1
  have hczgb1_2 : w_3.cell? ⟨gb1, 2, none⟩ = some (.bool a0_2) := (jC BK2.out 2).trans rfl
  have hfzgb1_2 := jB BK2.out 2
  have hczgb1_3 : w_3.cell? ⟨gb1, 3, none⟩ = some (.bool a0_3) := (jC BK2.out 3).trans rfl
  have hfzgb1_3 := jB BK2.out 3
  have hczgb1_4 : w_3.cell? ⟨gb1, 4, none⟩ = some (.bool a0_4) := (jC BK2.out 4).trans rfl
  have hfzgb1_4 := jB BK2.out 4
  have hczgb1_5 : w_3.cell? ⟨gb1, 5, none⟩ = some (.int .i64 a0_5) := (jC BK2.out 5).trans rfl
  have hfzgb1_5 := jB BK2.out 5
  go_wp2_with (fail)
  clear hczgb1_0 hfzgb1_0 hczgb1_1 hfzgb1_1 hczgb1_2 hfzgb1_2 hczgb1_3 hfzgb1_3 hczgb1_4 hfzgb1_4 hczgb1_5 hfzgb1_5
  go_at_call 17
  (with_reducible refine (laws_toController.calls a0_0 a0_1 a0_2 a0_3 a0_4 a0_5 a0_0 a0_1 a0_2 a0_3 a0_4 a0_5 _ HVaC.out).mono ?_)
  rintro e w_5 ⟨rfl, hb⟩
  have HBi := jA (jJ (zy) hb : Below w_3.heap.size w_3 w_5)
  clear hb
  have HBn := jA (jJ HB.out HBi.out)
  clear HB
  have HB := HBn
  clear HBn
  have HS6 := jA HBi.out.size
  have n0_ := jA (jP BK2.out HBi.out)
  clear BK2
  have BK2 := n0_
  clear n0_
  clear HBi
  have HWw_5 := jA HB.out.size
  have hczgb1_0 : w_5.cell? ⟨gb1, 0, none⟩ = some (.bool a0_0) := (jC BK2.out 0).trans rfl
  have hfzgb1_0 := jB BK2.out 0
  have hczgb1_1 : w_5.cell? ⟨gb1, 1, none⟩ = some (.bool a0_1) := (jC BK2.out 1).trans rfl
  have hfzgb1_1 := jB BK2.out 1
  have hczgb1_2 : w_5.cell? ⟨gb1, 2, none⟩ = some (.bool a0_2) := (jC BK2.out 2).trans rfl
  have hfzgb1_2 := jB BK2.out 2
  have hczgb1_3 : w_5.cell? ⟨gb1, 3, none⟩ = some (.bool a0_3) := (jC BK2.out 3).trans rfl
  have hfzgb1_3 := jB BK2.out 3
  have hczgb1_4 : w_5.cell? ⟨gb1, 4, none⟩ = some (.bool a0_4) := (jC BK2.out 4).trans rfl
  have hfzgb1_4 := jB BK2.out 4
  have hczgb1_5 : w_5.cell? ⟨gb1, 5, none⟩ = some (.int .i64 a0_5) := (jC BK2.out 5).trans rfl
  have hfzgb1_5 := jB BK2.out 5
  go_wp2_with (fail)
  clear hczgb1_0 hfzgb1_0 hczgb1_1 hfzgb1_1 hczgb1_2 hfzgb1_2 hczgb1_3 hfzgb1_3 hczgb1_4 hfzgb1_4 hczgb1_5 hfzgb1_5
  go_at_call 42
  (with_reducible refine (laws_toInt64SX.calls k _ _ l1 false ext1 _ ?side1 ?side2 HTO1.out).mono ?_)
  (case side1 => exact zs HR1 HB)
  (case side2 => exact HC1.out)
  rintro e w_7 ⟨Ao9, no10, co11, rfl, hn, ho, hb⟩
  obtain rfl : no10 = xs1.length := hn.full HXL1.out HNE1.out
  clear hn
  have ho1 := jA (Kd.R_lower (R_span ho) (Nat.le_trans HB.out.size (zy : Below w_5.heap.size w_5 _).size))
  clear ho
  have HBi := jA (jJ (zy) hb : Below w_5.heap.size w_5 w_7)
  clear hb
  have HBn := jA (jJ HB.out HBi.out)
  clear HB
  have HB := HBn
  clear HBn
  have HS12 := jA HBi.out.size
  have n0_ := jA (jP BK2.out HBi.out)
  clear BK2
  have BK2 := n0_
  clear n0_
  clear HBi
  have HWw_7 := jA HB.out.size
  have HO8 := jA (Kd.R_mono (ok' := fun k_ => w_5.heap.size ≤ k_ ∧ k_ < w_7.heap.size) ho1.out (fun k_ hk_ => hk_))
  clear ho1
  have hczgb1_0 : w_7.cell? ⟨gb1, 0, none⟩ = some (.bool a0_0) := (jC BK2.out 0).trans rfl
  have hfzgb1_0 := jB BK2.out 0
  have hczgb1_1 : w_7.cell? ⟨gb1, 1, none⟩ = some (.bool a0_1) := (jC BK2.out 1).trans rfl
  have hfzgb1_1 := jB BK2.out 1
  have hczgb1_2 : w_7.cell? ⟨gb1, 2, none⟩ = some (.bool a0_2) := (jC BK2.out 2).trans rfl
  have hfzgb1_2 := jB BK2.out 2
  have hczgb1_3 : w_7.cell? ⟨gb1, 3, none⟩ = some (.bool a0_3) := (jC BK2.out 3).trans rfl
  have hfzgb1_3 := jB BK2.out 3
  have hczgb1_4 : w_7.cell? ⟨gb1, 4, none⟩ = some (.bool a0_4) := (jC BK2.out 4).trans rfl
  have hfzgb1_4 := jB BK2.out 4
  have hczgb1_5 : w_7.cell? ⟨gb1, 5, none⟩ = some (.int .i64 a0_5) := (jC BK2.out 5).trans rfl
  have hfzgb1_5 := jB BK2.out 5
  go_wp2_with (fail)
  clear hczgb1_0 hfzgb1_0 hczgb1_1 hfzgb1_1 hczgb1_2 hfzgb1_2 hczgb1_3 hfzgb1_3 hczgb1_4 hfzgb1_4 hczgb1_5 hfzgb1_5
  go_at_call 35
  (with_reducible refine (spec_ShortestInputs.calls k a0_0 a0_1 a0_2 a0_3 a0_4 a0_5 _ _ xs1 a2 ws_r1 res_r2 _ ?side1 ?side2 HFspec.out).mono ?_)
  (case side1 => repeat (first | exact C_ext (Kd.R_reads' HO8.out).2.2 HXE1.out HLE1.out | (with_reducible refine Kd.C_alloc ?_ _) | (with_reducible refine Kd.C_drewN ?_ _) | (with_reducible refine Kd.C_drew ?_)))
  (case side2 => exact Nat.le_trans HLE1.out (Kd.R_reads' HO8.out).2.1)
  rintro e w_13 ⟨v_14, rfl, ho, hb⟩
  have ho1 := jA (Kd.V_lower (base' := w.heap.size) (Kd.V_mono (ok' := fun k_ => w_7.heap.size ≤ k_ ∧ k_ < w_13.heap.size) (Kd.V_bound ho) (fun k_ hk_ => ⟨Nat.le_trans (zy : Below w_7.heap.size w_7 _).size hk_.1, hk_.2⟩)) (Nat.le_trans HB.out.size (zy : Below w_7.heap.size w_7 _).size))
  clear ho
  have HBi := jA (jJ (zy) hb : Below w_7.heap.size w_7 w_13)
  clear hb
  have HBn := jA (jJ HB.out HBi.out)
  clear HB
  have HB := HBn
  clear HBn
  have HS19 := jA HBi.out.size
  have n0_ := jA (jP BK2.out HBi.out)
  clear BK2
  have BK2 := n0_
  clear n0_
  have n0_ := jA (Kd.R_below HO8.out HBi.out)
  clear HO8
  have HO8 := n0_
  clear n0_
  clear HBi
  have HWw_13 := jA HB.out.size
  obtain ⟨Ao16, co17, eo18⟩ := Kd.V_slice ho1.out
  subst eo18
  have HO15 := ho1
  clear ho1
  clear HO8
  have hczgb1_0 : w_13.cell? ⟨gb1, 0, none⟩ = some (.bool a0_0) := (jC BK2.out 0).trans rfl
  have hfzgb1_0 := jB BK2.out 0
  have hczgb1_1 : w_13.cell? ⟨gb1, 1, none⟩ = some (.bool a0_1) := (jC BK2.out 1).trans rfl
  have hfzgb1_1 := jB BK2.out 1
  have hczgb1_2 : w_13.cell? ⟨gb1, 2, none⟩ = some (.bool a0_2) := (jC BK2.out 2).trans rfl
  have hfzgb1_2 := jB BK2.out 2
  have hczgb1_3 : w_13.cell? ⟨gb1, 3, none⟩ = some (.bool a0_3) := (jC BK2.out 3).trans rfl
  have hfzgb1_3 := jB BK2.out 3
  have hczgb1_4 : w_13.cell? ⟨gb1, 4, none⟩ = some (.bool a0_4) := (jC BK2.out 4).trans rfl
  have hfzgb1_4 := jB BK2.out 4
  have hczgb1_5 : w_13.cell? ⟨gb1, 5, none⟩ = some (.int .i64 a0_5) := (jC BK2.out 5).trans rfl
  have hfzgb1_5 := jB BK2.out 5
  go_wp2_with (fail)
  clear hczgb1_0 hfzgb1_0 hczgb1_1 hfzgb1_1 hczgb1_2 hfzgb1_2 hczgb1_3 hfzgb1_3 hczgb1_4 hfzgb1_4 hczgb1_5 hfzgb1_5
  go_at_call 42
  (with_reducible refine (laws_toInt64SX.calls k _ _ l1 false ext1 _ ?side1 ?side2 HTO1.out).mono ?_)
  (case side1 => exact zs HR1 HB)
  (case side2 => exact HC1.out)
  rintro e w_20 ⟨Ao22, no23, co24, rfl, hn, ho, hb⟩
  obtain rfl : no23 = xs1.length := hn.full HXL1.out HNE1.out
  clear hn
  have ho1 := jA (Kd.R_lower (R_span ho) (Nat.le_trans HB.out.size (zy : Below w_13.heap.size w_13 _).size))
  clear ho
  have HBi := jA (jJ (zy) hb : Below w_13.heap.size w_13 w_20)
  clear hb
  have HBn := jA (jJ HB.out HBi.out)
  clear HB
  have HB := HBn
  clear HBn
  have HS25 := jA HBi.out.size
  have n0_ := jA (jP BK2.out HBi.out)
  clear BK2
  have BK2 := n0_
  clear n0_
  have n0_ := jA (Kd.V_below HO15.out HBi.out)
  clear HO15
  have HO15 := n0_
  clear n0_
  clear HBi
  have HWw_20 := jA HB.out.size
  have HO21 := jA (Kd.R_mono (ok' := fun k_ => w_13.heap.size ≤ k_ ∧ k_ < w_20.heap.size) ho1.out (fun k_ hk_ => hk_))
  clear ho1
  have hczgb1_0 : w_20.cell? ⟨gb1, 0, none⟩ = some (.bool a0_0) := (jC BK2.out 0).trans rfl
  have hfzgb1_0 := jB BK2.out 0
  have hczgb1_1 : w_20.cell? ⟨gb1, 1, none⟩ = some (.bool a0_1) := (jC BK2.out 1).trans rfl
  have hfzgb1_1 := jB BK2.out 1
  have hczgb1_2 : w_20.cell? ⟨gb1, 2, none⟩ = some (.bool a0_2) := (jC BK2.out 2).trans rfl
  have hfzgb1_2 := jB BK2.out 2
  have hczgb1_3 : w_20.cell? ⟨gb1, 3, none⟩ = some (.bool a0_3) := (jC BK2.out 3).trans rfl
  have hfzgb1_3 := jB BK2.out 3
  have hczgb1_4 : w_20.cell? ⟨gb1, 4, none⟩ = some (.bool a0_4) := (jC BK2.out 4).trans rfl
  have hfzgb1_4 := jB BK2.out 4
  have hczgb1_5 : w_20.cell? ⟨gb1, 5, none⟩ = some (.int .i64 a0_5) := (jC BK2.out 5).trans rfl
  have hfzgb1_5 := jB BK2.out 5
  go_wp2_with (fail)
  clear hczgb1_0 hfzgb1_0 hczgb1_1 hfzgb1_1 hczgb1_2 hfzgb1_2 hczgb1_3 hfzgb1_3 hczgb1_4 hfzgb1_4 hczgb1_5 hfzgb1_5
  go_at_call 17
  (with_reducible refine (laws_toController.calls a0_0 a0_1 a0_2 a0_3 a0_4 a0_5 a0_0 a0_1 a0_2 a0_3 a0_4 a0_5 _ HVaC.out).mono ?_)
  rintro e w_26 ⟨rfl, hb⟩
  have HBi := jA (jJ (zy) hb : Below w_20.heap.size w_20 w_26)
  clear hb
  have HBn := jA (jJ HB.out HBi.out)
  clear HB
  have HB := HBn
  clear HBn
  have HS27 := jA HBi.out.size
  have n0_ := jA (jP BK2.out HBi.out)
  clear BK2
  have BK2 := n0_
  clear n0_
  have n0_ := jA (Kd.V_below HO15.out HBi.out)
  clear HO15
  have HO15 := n0_
  clear n0_
  have n0_ := jA (Kd.R_below HO21.out HBi.out)
  clear HO21
  have HO21 := n0_
  clear n0_
  clear HBi
  have HWw_26 := jA HB.out.size
  have hczgb1_0 : w_26.cell? ⟨gb1, 0, none⟩ = some (.bool a0_0) := (jC BK2.out 0).trans rfl
  have hfzgb1_0 := jB BK2.out 0
  have hczgb1_1 : w_26.cell? ⟨gb1, 1, none⟩ = some (.bool a0_1) := (jC BK2.out 1).trans rfl
  have hfzgb1_1 := jB BK2.out 1
  have hczgb1_2 : w_26.cell? ⟨gb1, 2, none⟩ = some (.bool a0_2) := (jC BK2.out 2).trans rfl
  have hfzgb1_2 := jB BK2.out 2
  have hczgb1_3 : w_26.cell? ⟨gb1, 3, none⟩ = some (.bool a0_3) := (jC BK2.out 3).trans rfl
  have hfzgb1_3 := jB BK2.out 3
  have hczgb1_4 : w_26.cell? ⟨gb1, 4, none⟩ = some (.bool a0_4) := (jC BK2.out 4).trans rfl
  have hfzgb1_4 := jB BK2.out 4
  have hczgb1_5 : w_26.cell? ⟨gb1, 5, none⟩ = some (.int .i64 a0_5) := (jC BK2.out 5).trans rfl
  have hfzgb1_5 := jB BK2.out 5
  go_wp2_with (fail)
  clear hczgb1_0 hfzgb1_0 hczgb1_1 hfzgb1_1 hczgb1_2 hfzgb1_2 hczgb1_3 hfzgb1_3 hczgb1_4 hfzgb1_4 hczgb1_5 hfzgb1_5
  go_at_call 34
  (with_reducible refine (impl_ShortestInputs.calls k a0_0 a0_1 a0_2 a0_3 a0_4 a0_5 _ _ xs1 a2 gs_r1 res_r2 _ ?side1 ?side2 HFimpl.out).mono ?_)
  (case side1 => repeat (first | exact C_ext (Kd.R_reads' HO21.out).2.2 HXE1.out HLE1.out | (with_reducible refine Kd.C_alloc ?_ _) | (with_reducible refine Kd.C_drewN ?_ _) | (with_reducible refine Kd.C_drew ?_)))
  (case side2 => exact Nat.le_trans HLE1.out (Kd.R_reads' HO21.out).2.1)
  rintro e w_28 ⟨v_29, rfl, ho, hb⟩
  have ho1 := jA (Kd.R_lower (R_span ho) (Nat.le_trans HB.out.size (zy : Below w_26.heap.size w_26 _).size))
  clear ho
  have HBi := jA (jJ (zy) hb : Below w_26.heap.size w_26 w_28)
  clear hb
  have HBn := jA (jJ HB.out HBi.out)
  clear HB
  have HB := HBn
  clear HBn
  have HS34 := jA HBi.out.size
  have n0_ := jA (jP BK2.out HBi.out)
  clear BK2
  have BK2 := n0_
  clear n0_
  have n0_ := jA (Kd.V_below HO15.out HBi.out)
  clear HO15
  have HO15 := n0_
  clear n0_
  have n0_ := jA (Kd.R_below HO21.out HBi.out)
  clear HO21
  have HO21 := n0_
  clear n0_
  clear HBi
  have HWw_28 := jA HB.out.size
  obtain ⟨Ao31, co32, eo33⟩ := Kd.R_slice ho1.out
  subst eo33
  have HO30 := jA (Kd.R_mono (ok' := fun k_ => w_26.heap.size ≤ k_ ∧ k_ < w_28.heap.size) ho1.out (fun k_ hk_ => hk_))
  clear ho1
  have hczgb1_0 : w_28.cell? ⟨gb1, 0, none⟩ = some (.bool a0_0) := (jC BK2.out 0).trans rfl
  have hfzgb1_0 := jB BK2.out 0
  have hczgb1_1 : w_28.cell? ⟨gb1, 1, none⟩ = some (.bool a0_1) := (jC BK2.out 1).trans rfl
  have hfzgb1_1 := jB BK2.out 1
  have hczgb1_2 : w_28.cell? ⟨gb1, 2, none⟩ = some (.bool a0_2) := (jC BK2.out 2).trans rfl
  have hfzgb1_2 := jB BK2.out 2
  have hczgb1_3 : w_28.cell? ⟨gb1, 3, none⟩ = some (.bool a0_3) := (jC BK2.out 3).trans rfl
  have hfzgb1_3 := jB BK2.out 3
  have hczgb1_4 : w_28.cell? ⟨gb1, 4, none⟩ = some (.bool a0_4) := (jC BK2.out 4).trans rfl
  have hfzgb1_4 := jB BK2.out 4
  have hczgb1_5 : w_28.cell? ⟨gb1, 5, none⟩ = some (.int .i64 a0_5) := (jC BK2.out 5).trans rfl
  have hfzgb1_5 := jB BK2.out 5
  go_wp2_with (fail)
  clear hczgb1_0 hfzgb1_0 hczgb1_1 hfzgb1_1 hczgb1_2 hfzgb1_2 hczgb1_3 hfzgb1_3 hczgb1_4 hfzgb1_4 hczgb1_5 hfzgb1_5
  go_at_call 44
  (with_reducible refine (laws_eqInt64S.calls k _ _ gs_r1 _ _ ws_r1 true _ ?side1 ?side2 ?side3 ?side4 HE_gs_r1_ws_r1.out).mono ?_)
  (case side1 => repeat (first | exact (Kd.R_reads' HO30.out).2.2 | (with_reducible refine Kd.C_alloc ?_ _) | (with_reducible refine Kd.C_drewN ?_ _) | (with_reducible refine Kd.C_drew ?_)))
  (case side2 => exact (Kd.R_reads' HO30.out).2.1)
  (case side3 => repeat (first | exact (Kd.V_reads' HO15.out).2.2 | (with_reducible refine Kd.C_alloc ?_ _) | (with_reducible refine Kd.C_drewN ?_ _) | (with_reducible refine Kd.C_drew ?_)))
  (case side4 => exact (Kd.V_reads' HO15.out).2.1)
  rintro e w_35 ⟨rfl, hd⟩
  have hb := hd.below
  clear hd
  have HBi := jA (jJ (zy) hb : Below w_28.heap.size w_28 w_35)
  clear hb
  have HBn := jA (jJ HB.out HBi.out)
  clear HB
  have HB := HBn
  clear HBn
  have HS36 := jA HBi.out.size
  have n0_ := jA (jP BK2.out HBi.out)
  clear BK2
  have BK2 := n0_
  clear n0_
  have n0_ := jA (Kd.V_below HO15.out HBi.out)
  clear HO15
  have HO15 := n0_
  clear n0_
  have n0_ := jA (Kd.R_below HO21.out HBi.out)
  clear HO21
  have HO21 := n0_
  clear n0_
  have n0_ := jA (Kd.R_below HO30.out HBi.out)
  clear HO30
  have HO30 := n0_
  clear n0_
  clear HBi
  have HWw_35 := jA HB.out.size
  have hczgb1_0 : w_35.cell? ⟨gb1, 0, none⟩ = some (.bool a0_0) := (jC BK2.out 0).trans rfl
  have hfzgb1_0 := jB BK2.out 0
  have hczgb1_1 : w_35.cell? ⟨gb1, 1, none⟩ = some (.bool a0_1) := (jC BK2.out 1).trans rfl
  have hfzgb1_1 := jB BK2.out 1
  have hczgb1_2 : w_35.cell? ⟨gb1, 2, none⟩ = some (.bool a0_2) := (jC BK2.out 2).trans rfl
  have hfzgb1_2 := jB BK2.out 2
  have hczgb1_3 : w_35.cell? ⟨gb1, 3, none⟩ = some (.bool a0_3) := (jC BK2.out 3).trans rfl
  have hfzgb1_3 := jB BK2.out 3
  have hczgb1_4 : w_35.cell? ⟨gb1, 4, none⟩ = some (.bool a0_4) := (jC BK2.out 4).trans rfl
  have hfzgb1_4 := jB BK2.out 4
  have hczgb1_5 : w_35.cell? ⟨gb1, 5, none⟩ = some (.int .i64 a0_5) := (jC BK2.out 5).trans rfl
  have hfzgb1_5 := jB BK2.out 5
  go_wp2_with (fail)
  clear hczgb1_0 hfzgb1_0 hczgb1_1 hfzgb1_1 hczgb1_2 hfzgb1_2 hczgb1_3 hfzgb1_3 hczgb1_4 hfzgb1_4 hczgb1_5 hfzgb1_5
  go_at_call 42
  (with_reducible refine (laws_toInt64SX.calls k _ _ l1 false ext1 _ ?side1 ?side2 HTO1.out).mono ?_)
  (case side1 => exact zs HR1 HB)
  (case side2 => exact HC1.out)
  rintro e w_37 ⟨Ao39, no40, co41, rfl, hn, ho, hb⟩
  obtain rfl : no40 = xs1.length := hn.full HXL1.out HNE1.out
  clear hn
  have ho1 := jA (Kd.R_lower (R_span ho) (Nat.le_trans HB.out.size (zy : Below w_35.heap.size w_35 _).size))
  clear ho
  have HBi := jA (jJ (zy) hb : Below w_35.heap.size w_35 w_37)
  clear hb
  have HBn := jA (jJ HB.out HBi.out)
  clear HB
  have HB := HBn
  clear HBn
  have HS42 := jA HBi.out.size
  have n0_ := jA (jP BK2.out HBi.out)
  clear BK2
  have BK2 := n0_
  clear n0_
  have n0_ := jA (Kd.V_below HO15.out HBi.out)
  clear HO15
  have HO15 := n0_
  clear n0_
  have n0_ := jA (Kd.R_below HO21.out HBi.out)
  clear HO21
  have HO21 := n0_
  clear n0_
  have n0_ := jA (Kd.R_below HO30.out HBi.out)
  clear HO30
  have HO30 := n0_
  clear n0_
  clear HBi
  have HWw_37 := jA HB.out.size
  have HO38 := jA (Kd.R_mono (ok' := fun k_ => w_35.heap.size ≤ k_ ∧ k_ < w_37.heap.size) ho1.out (fun k_ hk_ => hk_))
  clear ho1
  have hczgb1_0 : w_37.cell? ⟨gb1, 0, none⟩ = some (.bool a0_0) := (jC BK2.out 0).trans rfl
  have hfzgb1_0 := jB BK2.out 0
  have hczgb1_1 : w_37.cell? ⟨gb1, 1, none⟩ = some (.bool a0_1) := (jC BK2.out 1).trans rfl
  have hfzgb1_1 := jB BK2.out 1
  have hczgb1_2 : w_37.cell? ⟨gb1, 2, none⟩ = some (.bool a0_2) := (jC BK2.out 2).trans rfl
  have hfzgb1_2 := jB BK2.out 2
  have hczgb1_3 : w_37.cell? ⟨gb1, 3, none⟩ = some (.bool a0_3) := (jC BK2.out 3).trans rfl
  have hfzgb1_3 := jB BK2.out 3
  have hczgb1_4 : w_37.cell? ⟨gb1, 4, none⟩ = some (.bool a0_4) := (jC BK2.out 4).trans rfl
  have hfzgb1_4 := jB BK2.out 4
  have hczgb1_5 : w_37.cell? ⟨gb1, 5, none⟩ = some (.int .i64 a0_5) := (jC BK2.out 5).trans rfl
  have hfzgb1_5 := jB BK2.out 5
  go_wp2_with (fail)
  clear hczgb1_0 hfzgb1_0 hczgb1_1 hfzgb1_1 hczgb1_2 hfzgb1_2 hczgb1_3 hfzgb1_3 hczgb1_4 hfzgb1_4 hczgb1_5 hfzgb1_5
  go_at_call 43
  (with_reducible refine (laws_intactInt64SX.calls k _ _ ext1 _ _ ext1 xs1.length rm1 true _ ?side1 ?side2 ?side3 ?side4 HRM1.out HJ1.out rfl HEQX1.out).mono ?_)
  (case side1 => repeat (first | exact (Kd.R_reads' HO21.out).2.2 | (with_reducible refine Kd.C_alloc ?_ _) | (with_reducible refine Kd.C_drewN ?_ _) | (with_reducible refine Kd.C_drew ?_)))
  (case side2 => exact (Kd.R_reads' HO21.out).2.1)
  (case side3 => repeat (first | exact (Kd.R_reads' HO38.out).2.2 | (with_reducible refine Kd.C_alloc ?_ _) | (with_reducible refine Kd.C_drewN ?_ _) | (with_reducible refine Kd.C_drew ?_)))
  (case side4 => exact (Kd.R_reads' HO38.out).2.1)
  rintro e w_43 ⟨rfl, hb⟩
  have HBi := jA (jJ (zy) hb : Below w_37.heap.size w_37 w_43)
  clear hb
  have HBn := jA (jJ HB.out HBi.out)
  clear HB
  have HB := HBn
  clear HBn
  have HS44 := jA HBi.out.size
  have n0_ := jA (jP BK2.out HBi.out)
  clear BK2
  have BK2 := n0_
  clear n0_
  have n0_ := jA (Kd.V_below HO15.out HBi.out)
  clear HO15
  have HO15 := n0_
  clear n0_
  have n0_ := jA (Kd.R_below HO21.out HBi.out)
  clear HO21
  have HO21 := n0_
  clear n0_
  have n0_ := jA (Kd.R_below HO30.out HBi.out)
  clear HO30
  have HO30 := n0_
  clear n0_
  have n0_ := jA (Kd.R_below HO38.out HBi.out)
  clear HO38
  have HO38 := n0_
  clear n0_
  clear HBi
  have HWw_43 := jA HB.out.size
  clear HO38
  have hczgb1_0 : w_43.cell? ⟨gb1, 0, none⟩ = some (.bool a0_0) := (jC BK2.out 0).trans rfl
  have hfzgb1_0 := jB BK2.out 0
  have hczgb1_1 : w_43.cell? ⟨gb1, 1, none⟩ = some (.bool a0_1) := (jC BK2.out 1).trans rfl
  have hfzgb1_1 := jB BK2.out 1
  have hczgb1_2 : w_43.cell? ⟨gb1, 2, none⟩ = some (.bool a0_2) := (jC BK2.out 2).trans rfl
  have hfzgb1_2 := jB BK2.out 2
  have hczgb1_3 : w_43.cell? ⟨gb1, 3, none⟩ = some (.bool a0_3) := (jC BK2.out 3).trans rfl
  have hfzgb1_3 := jB BK2.out 3
  have hczgb1_4 : w_43.cell? ⟨gb1, 4, none⟩ = some (.bool a0_4) := (jC BK2.out 4).trans rfl
  have hfzgb1_4 := jB BK2.out 4
  have hczgb1_5 : w_43.cell? ⟨gb1, 5, none⟩ = some (.int .i64 a0_5) := (jC BK2.out 5).trans rfl
  have hfzgb1_5 := jB BK2.out 5
  go_wp2_with (fail)
  clear hczgb1_0 hfzgb1_0 hczgb1_1 hfzgb1_1 hczgb1_2 hfzgb1_2 hczgb1_3 hfzgb1_3 hczgb1_4 hfzgb1_4 hczgb1_5 hfzgb1_5
  go_at_call 45
  (with_reducible refine (laws_markInt64S.calls k (fun k_ => w_13.heap.size ≤ k_ ∧ k_ < w_20.heap.size) (.slice Ao22 xs1.length co24) xs1 101 mk_0 ml_0 w _ ?side1 ?side2 HM0.out).mono ?_)
  (case side1 => repeat (first | (with_reducible first | exact HB.out | apply below_alloc | apply pw_below_drewN | apply below_drew1) | exact HB.out))
  (case side2 => (with_reducible repeat (first | apply ja | apply jZ | apply jc)); exact (R_ext HO21.out HXE1.out HLE1.out))
  rintro e w_45 ⟨rfl, hy, hb, hk⟩
  have hk1 := jA (Kept.then_ (Kept.of_below (zy : Below w_43.heap.size w_43 _) (fun k_ => w_13.heap.size ≤ k_ ∧ k_ < w_20.heap.size)) hk (fun _ h_ => .inl h_))
  clear hk
  have hy1 := jA hy
  clear hy
  clear HB
  have HB := jA hb
  clear hb
  have HS46 := jA hk1.out.1
  have n0_ := jA ((hk1.out.2 gb1 (blk_lt BK2.out) (fun h_ => by have sHGgb1 := HGgb1.out; have sHS4 := HS4.out; have sHS6 := HS6.out; have sHS12 := HS12.out; have sHS19 := HS19.out; have sHS25 := HS25.out; have sHS27 := HS27.out; have sHS34 := HS34.out; have sHS36 := HS36.out; have sHS42 := HS42.out; have sHS44 := HS44.out; have sHS46 := HS46.out; omega)).trans BK2.out)
  clear BK2
  have BK2 := n0_
  clear n0_
  have n0_ := jA (Kd.V_kept HO15.out hk1.out (fun k_ (h1_ : w_7.heap.size ≤ k_ ∧ k_ < w_13.heap.size) (h2_ : w_13.heap.size ≤ k_ ∧ k_ < w_20.heap.size) => by have sHGgb1 := HGgb1.out; have sHS4 := HS4.out; have sHS6 := HS6.out; have sHS12 := HS12.out; have sHS19 := HS19.out; have sHS25 := HS25.out; have sHS27 := HS27.out; have sHS34 := HS34.out; have sHS36 := HS36.out; have sHS42 := HS42.out; have sHS44 := HS44.out; have sHS46 := HS46.out; omega))
  clear HO15
  have HO15 := n0_
  clear n0_
  have n0_ := jA (Kd.R_kept HO30.out hk1.out (fun k_ (h1_ : w_26.heap.size ≤ k_ ∧ k_ < w_28.heap.size) (h2_ : w_13.heap.size ≤ k_ ∧ k_ < w_20.heap.size) => by have sHGgb1 := HGgb1.out; have sHS4 := HS4.out; have sHS6 := HS6.out; have sHS12 := HS12.out; have sHS19 := HS19.out; have sHS25 := HS25.out; have sHS27 := HS27.out; have sHS34 := HS34.out; have sHS36 := HS36.out; have sHS42 := HS42.out; have sHS44 := HS44.out; have sHS46 := HS46.out; omega))
  clear HO30
  have HO30 := n0_
  clear n0_
  have HWw_45 := jA HB.out.size
  clear hy1 hk1
  clear HO21
  have hn_ := HMN0.out
  have hczgb1_0 : w_45.cell? ⟨gb1, 0, none⟩ = some (.bool a0_0) := (jC BK2.out 0).trans rfl
  have hfzgb1_0 := jB BK2.out 0
  have hczgb1_1 : w_45.cell? ⟨gb1, 1, none⟩ = some (.bool a0_1) := (jC BK2.out 1).trans rfl
  have hfzgb1_1 := jB BK2.out 1
  have hczgb1_2 : w_45.cell? ⟨gb1, 2, none⟩ = some (.bool a0_2) := (jC BK2.out 2).trans rfl
  have hfzgb1_2 := jB BK2.out 2
  have hczgb1_3 : w_45.cell? ⟨gb1, 3, none⟩ = some (.bool a0_3) := (jC BK2.out 3).trans rfl
  have hfzgb1_3 := jB BK2.out 3
  have hczgb1_4 : w_45.cell? ⟨gb1, 4, none⟩ = some (.bool a0_4) := (jC BK2.out 4).trans rfl
  have hfzgb1_4 := jB BK2.out 4
  have hczgb1_5 : w_45.cell? ⟨gb1, 5, none⟩ = some (.int .i64 a0_5) := (jC BK2.out 5).trans rfl
  have hfzgb1_5 := jB BK2.out 5
  go_wp2_with (fail)
  clear hczgb1_0 hfzgb1_0 hczgb1_1 hfzgb1_1 hczgb1_2 hfzgb1_2 hczgb1_3 hfzgb1_3 hczgb1_4 hfzgb1_4 hczgb1_5 hfzgb1_5
  clear hn_
  have hczgb1_0 : w_45.cell? ⟨gb1, 0, none⟩ = some (.bool a0_0) := (jC BK2.out 0).trans rfl
  have hfzgb1_0 := jB BK2.out 0
  have hczgb1_1 : w_45.cell? ⟨gb1, 1, none⟩ = some (.bool a0_1) := (jC BK2.out 1).trans rfl
  have hfzgb1_1 := jB BK2.out 1
  have hczgb1_2 : w_45.cell? ⟨gb1, 2, none⟩ = some (.bool a0_2) := (jC BK2.out 2).trans rfl
  have hfzgb1_2 := jB BK2.out 2
  have hczgb1_3 : w_45.cell? ⟨gb1, 3, none⟩ = some (.bool a0_3) := (jC BK2.out 3).trans rfl
  have hfzgb1_3 := jB BK2.out 3
  have hczgb1_4 : w_45.cell? ⟨gb1, 4, none⟩ = some (.bool a0_4) := (jC BK2.out 4).trans rfl
  have hfzgb1_4 := jB BK2.out 4
  have hczgb1_5 : w_45.cell? ⟨gb1, 5, none⟩ = some (.int .i64 a0_5) := (jC BK2.out 5).trans rfl
  have hfzgb1_5 := jB BK2.out 5
  go_wp2_with (fail)
  clear hczgb1_0 hfzgb1_0 hczgb1_1 hfzgb1_1 hczgb1_2 hfzgb1_2 hczgb1_3 hfzgb1_3 hczgb1_4 hfzgb1_4 hczgb1_5 hfzgb1_5
  go_at_call 44
  (with_reducible refine (laws_eqInt64S.calls k _ _ gs_r1 _ _ ws_r1 true _ ?side1 ?side2 ?side3 ?side4 HE_gs_r1_ws_r1.out).mono ?_)
  (case side1 => repeat (first | exact (Kd.R_reads' HO30.out).2.2 | (with_reducible refine Kd.C_alloc ?_ _) | (with_reducible refine Kd.C_drewN ?_ _) | (with_reducible refine Kd.C_drew ?_)))
  (case side2 => exact (Kd.R_reads' HO30.out).2.1)
  (case side3 => repeat (first | exact (Kd.V_reads' HO15.out).2.2 | (with_reducible refine Kd.C_alloc ?_ _) | (with_reducible refine Kd.C_drewN ?_ _) | (with_reducible refine Kd.C_drew ?_)))
  (case side4 => exact (Kd.V_reads' HO15.out).2.1)
  rintro e w_47 ⟨rfl, hd⟩
  have hb := hd.below
  clear hd
  have HBi := jA (jJ (zy) hb : Below w_45.heap.size w_45 w_47)
  clear hb
  have HBn := jA (jJ HB.out HBi.out)
  clear HB
  have HB := HBn
  clear HBn
  have HS48 := jA HBi.out.size
  have n0_ := jA (jP BK2.out HBi.out)
  clear BK2
  have BK2 := n0_
  clear n0_
  have n0_ := jA (Kd.V_below HO15.out HBi.out)
  clear HO15
  have HO15 := n0_
  clear n0_
  have n0_ := jA (Kd.R_below HO30.out HBi.out)
  clear HO30
  have HO30 := n0_
  clear n0_
  clear HBi
  have HWw_47 := jA HB.out.size
  have hczgb1_0 : w_47.cell? ⟨gb1, 0, none⟩ = some (.bool a0_0) := (jC BK2.out 0).trans rfl
  have hfzgb1_0 := jB BK2.out 0
  have hczgb1_1 : w_47.cell? ⟨gb1, 1, none⟩ = some (.bool a0_1) := (jC BK2.out 1).trans rfl
  have hfzgb1_1 := jB BK2.out 1
  have hczgb1_2 : w_47.cell? ⟨gb1, 2, none⟩ = some (.bool a0_2) := (jC BK2.out 2).trans rfl
  have hfzgb1_2 := jB BK2.out 2
  have hczgb1_3 : w_47.cell? ⟨gb1, 3, none⟩ = some (.bool a0_3) := (jC BK2.out 3).trans rfl
  have hfzgb1_3 := jB BK2.out 3
  have hczgb1_4 : w_47.cell? ⟨gb1, 4, none⟩ = some (.bool a0_4) := (jC BK2.out 4).trans rfl
  have hfzgb1_4 := jB BK2.out 4
  have hczgb1_5 : w_47.cell? ⟨gb1, 5, none⟩ = some (.int .i64 a0_5) := (jC BK2.out 5).trans rfl
  have hfzgb1_5 := jB BK2.out 5
  go_wp2_with (fail)
  clear hczgb1_0 hfzgb1_0 hczgb1_1 hfzgb1_1 hczgb1_2 hfzgb1_2 hczgb1_3 hfzgb1_3 hczgb1_4 hfzgb1_4 hczgb1_5 hfzgb1_5
  go_at_call 45
  (with_reducible refine (laws_markInt64S.calls k (fun k_ => w_26.heap.size ≤ k_ ∧ k_ < w_28.heap.size) (.slice Ao31 gs_r1.length co32) gs_r1 101 mk_1 ml_1 w _ ?side1 ?side2 HM1.out).mono ?_)
  (case side1 => repeat (first | (with_reducible first | exact HB.out | apply below_alloc | apply pw_below_drewN | apply below_drew1) | exact HB.out))
  (case side2 => (with_reducible repeat (first | apply ja | apply jZ | apply jc)); exact HO30.out)
  rintro e w_49 ⟨rfl, hy, hb, hk⟩
  have hk1 := jA (Kept.then_ (Kept.of_below (zy : Below w_47.heap.size w_47 _) (fun k_ => w_26.heap.size ≤ k_ ∧ k_ < w_28.heap.size)) hk (fun _ h_ => .inl h_))
  clear hk
  have hy1 := jA hy
  clear hy
  clear HB
  have HB := jA hb
  clear hb
  have HS50 := jA hk1.out.1
  have n0_ := jA ((hk1.out.2 gb1 (blk_lt BK2.out) (fun h_ => by have sHGgb1 := HGgb1.out; have sHS4 := HS4.out; have sHS6 := HS6.out; have sHS12 := HS12.out; have sHS19 := HS19.out; have sHS25 := HS25.out; have sHS27 := HS27.out; have sHS34 := HS34.out; have sHS36 := HS36.out; have sHS42 := HS42.out; have sHS44 := HS44.out; have sHS46 := HS46.out; have sHS48 := HS48.out; have sHS50 := HS50.out; omega)).trans BK2.out)
  clear BK2
  have BK2 := n0_
  clear n0_
  have n0_ := jA (Kd.V_kept HO15.out hk1.out (fun k_ (h1_ : w_7.heap.size ≤ k_ ∧ k_ < w_13.heap.size) (h2_ : w_26.heap.size ≤ k_ ∧ k_ < w_28.heap.size) => by have sHGgb1 := HGgb1.out; have sHS4 := HS4.out; have sHS6 := HS6.out; have sHS12 := HS12.out; have sHS19 := HS19.out; have sHS25 := HS25.out; have sHS27 := HS27.out; have sHS34 := HS34.out; have sHS36 := HS36.out; have sHS42 := HS42.out; have sHS44 := HS44.out; have sHS46 := HS46.out; have sHS48 := HS48.out; have sHS50 := HS50.out; omega))
  clear HO15
  have HO15 := n0_
  clear n0_
  have HWw_49 := jA HB.out.size
  have n0_ := jA (Kd.R_reok rfl hy1.out (fun k_ e_ => HO30.out.1 k_ e_))
  clear HO30
  have hl_ := HML1.out
  rw [hl_] at n0_
  try simp only [hl_]
  clear hl_
  have HO30 := n0_
  clear n0_ hy1 hk1
  have hczgb1_0 : w_49.cell? ⟨gb1, 0, none⟩ = some (.bool a0_0) := (jC BK2.out 0).trans rfl
  have hfzgb1_0 := jB BK2.out 0
  have hczgb1_1 : w_49.cell? ⟨gb1, 1, none⟩ = some (.bool a0_1) := (jC BK2.out 1).trans rfl
  have hfzgb1_1 := jB BK2.out 1
  have hczgb1_2 : w_49.cell? ⟨gb1, 2, none⟩ = some (.bool a0_2) := (jC BK2.out 2).trans rfl
  have hfzgb1_2 := jB BK2.out 2
  have hczgb1_3 : w_49.cell? ⟨gb1, 3, none⟩ = some (.bool a0_3) := (jC BK2.out 3).trans rfl
  have hfzgb1_3 := jB BK2.out 3
  have hczgb1_4 : w_49.cell? ⟨gb1, 4, none⟩ = some (.bool a0_4) := (jC BK2.out 4).trans rfl
  have hfzgb1_4 := jB BK2.out 4
  have hczgb1_5 : w_49.cell? ⟨gb1, 5, none⟩ = some (.int .i64 a0_5) := (jC BK2.out 5).trans rfl
  have hfzgb1_5 := jB BK2.out 5
  go_wp2_with (fail)
  clear hczgb1_0 hfzgb1_0 hczgb1_1 hfzgb1_1 hczgb1_2 hfzgb1_2 hczgb1_3 hfzgb1_3 hczgb1_4 hfzgb1_4 hczgb1_5 hfzgb1_5
  go_at_call 46
  (with_reducible refine (laws_heldInt64S.calls k _ _ ml_1 101 mk_1 _ ?side1 ?side2 HH_ml_1.out).mono ?_)
  (case side1 => repeat (first | exact (Kd.R_reads' HO30.out).2.2 | (with_reducible refine Kd.C_alloc ?_ _) | (with_reducible refine Kd.C_drewN ?_ _) | (with_reducible refine Kd.C_drew ?_)))
  (case side2 => exact (Kd.R_reads' HO30.out).2.1)
  rintro e w_51 ⟨rfl, hd⟩
  have hb := hd.below
  clear hd
  have HBi := jA (jJ (zy) hb : Below w_49.heap.size w_49 w_51)
  clear hb
  have HBn := jA (jJ HB.out HBi.out)
  clear HB
  have HB := HBn
  clear HBn
  have HS52 := jA HBi.out.size
  have n0_ := jA (jP BK2.out HBi.out)
  clear BK2
  have BK2 := n0_
  clear n0_
  have n0_ := jA (Kd.V_below HO15.out HBi.out)
  clear HO15
  have HO15 := n0_
  clear n0_
  have n0_ := jA (Kd.R_below HO30.out HBi.out)
  clear HO30
  have HO30 := n0_
  clear n0_
  clear HBi
  have HWw_51 := jA HB.out.size
  have hn_ := HMN1.out
  have hczgb1_0 : w_51.cell? ⟨gb1, 0, none⟩ = some (.bool a0_0) := (jC BK2.out 0).trans rfl
  have hfzgb1_0 := jB BK2.out 0
  have hczgb1_1 : w_51.cell? ⟨gb1, 1, none⟩ = some (.bool a0_1) := (jC BK2.out 1).trans rfl
  have hfzgb1_1 := jB BK2.out 1
  have hczgb1_2 : w_51.cell? ⟨gb1, 2, none⟩ = some (.bool a0_2) := (jC BK2.out 2).trans rfl
  have hfzgb1_2 := jB BK2.out 2
  have hczgb1_3 : w_51.cell? ⟨gb1, 3, none⟩ = some (.bool a0_3) := (jC BK2.out 3).trans rfl
  have hfzgb1_3 := jB BK2.out 3
  have hczgb1_4 : w_51.cell? ⟨gb1, 4, none⟩ = some (.bool a0_4) := (jC BK2.out 4).trans rfl
  have hfzgb1_4 := jB BK2.out 4
  have hczgb1_5 : w_51.cell? ⟨gb1, 5, none⟩ = some (.int .i64 a0_5) := (jC BK2.out 5).trans rfl
  have hfzgb1_5 := jB BK2.out 5
  go_wp2_with (fail)
  clear hczgb1_0 hfzgb1_0 hczgb1_1 hfzgb1_1 hczgb1_2 hfzgb1_2 hczgb1_3 hfzgb1_3 hczgb1_4 hfzgb1_4 hczgb1_5 hfzgb1_5
  clear hn_
  have hczgb1_0 : w_51.cell? ⟨gb1, 0, none⟩ = some (.bool a0_0) := (jC BK2.out 0).trans rfl
  have hfzgb1_0 := jB BK2.out 0
  have hczgb1_1 : w_51.cell? ⟨gb1, 1, none⟩ = some (.bool a0_1) := (jC BK2.out 1).trans rfl
  have hfzgb1_1 := jB BK2.out 1
  have hczgb1_2 : w_51.cell? ⟨gb1, 2, none⟩ = some (.bool a0_2) := (jC BK2.out 2).trans rfl
  have hfzgb1_2 := jB BK2.out 2
  have hczgb1_3 : w_51.cell? ⟨gb1, 3, none⟩ = some (.bool a0_3) := (jC BK2.out 3).trans rfl
  have hfzgb1_3 := jB BK2.out 3
  have hczgb1_4 : w_51.cell? ⟨gb1, 4, none⟩ = some (.bool a0_4) := (jC BK2.out 4).trans rfl
  have hfzgb1_4 := jB BK2.out 4
  have hczgb1_5 : w_51.cell? ⟨gb1, 5, none⟩ = some (.int .i64 a0_5) := (jC BK2.out 5).trans rfl
  have hfzgb1_5 := jB BK2.out 5
  go_wp2_with (fail)
  clear hczgb1_0 hfzgb1_0 hczgb1_1 hfzgb1_1 hczgb1_2 hfzgb1_2 hczgb1_3 hfzgb1_3 hczgb1_4 hfzgb1_4 hczgb1_5 hfzgb1_5
  go_at_call 17
  (with_reducible refine (laws_toController.calls a0_0 a0_1 a0_2 a0_3 a0_4 a0_5 a0_0 a0_1 a0_2 a0_3 a0_4 a0_5 _ HVaC.out).mono ?_)
  rintro e w_53 ⟨rfl, hb⟩
  have HBi := jA (jJ (zy) hb : Below w_51.heap.size w_51 w_53)
  clear hb
  have HBn := jA (jJ HB.out HBi.out)
  clear HB
  have HB := HBn
  clear HBn
  have HS54 := jA HBi.out.size
  have n0_ := jA (jP BK2.out HBi.out)
  clear BK2
  have BK2 := n0_
  clear n0_
  have n0_ := jA (Kd.V_below HO15.out HBi.out)
  clear HO15
  have HO15 := n0_
  clear n0_
  have n0_ := jA (Kd.R_below HO30.out HBi.out)
  clear HO30
  have HO30 := n0_
  clear n0_
  clear HBi
  have HWw_53 := jA HB.out.size
  have hczgb1_0 : w_53.cell? ⟨gb1, 0, none⟩ = some (.bool a0_0) := (jC BK2.out 0).trans rfl
  have hfzgb1_0 := jB BK2.out 0
  have hczgb1_1 : w_53.cell? ⟨gb1, 1, none⟩ = some (.bool a0_1) := (jC BK2.out 1).trans rfl
  have hfzgb1_1 := jB BK2.out 1
  have hczgb1_2 : w_53.cell? ⟨gb1, 2, none⟩ = some (.bool a0_2) := (jC BK2.out 2).trans rfl
  have hfzgb1_2 := jB BK2.out 2
  have hczgb1_3 : w_53.cell? ⟨gb1, 3, none⟩ = some (.bool a0_3) := (jC BK2.out 3).trans rfl
  have hfzgb1_3 := jB BK2.out 3
  have hczgb1_4 : w_53.cell? ⟨gb1, 4, none⟩ = some (.bool a0_4) := (jC BK2.out 4).trans rfl
  have hfzgb1_4 := jB BK2.out 4
  have hczgb1_5 : w_53.cell? ⟨gb1, 5, none⟩ = some (.int .i64 a0_5) := (jC BK2.out 5).trans rfl
  have hfzgb1_5 := jB BK2.out 5
  go_wp2_with (fail)
  clear hczgb1_0 hfzgb1_0 hczgb1_1 hfzgb1_1 hczgb1_2 hfzgb1_2 hczgb1_3 hfzgb1_3 hczgb1_4 hfzgb1_4 hczgb1_5 hfzgb1_5
  go_at_call 42
  (with_reducible refine (laws_toInt64SX.calls k _ _ l1 true extb1 _ ?side1 ?side2 HTOB1.out).mono ?_)
  (case side1 => exact zs HR1 HB)
  (case side2 => exact HC1.out)
  rintro e w_55 ⟨Ao57, no58, co59, rfl, hn, ho, hb⟩
  obtain rfl : no58 = xs1.length := hn.bare HXL1.out HNB1.out
  clear hn
  have ho1 := jA (Kd.R_lower (R_span ho) (Nat.le_trans HB.out.size (zy : Below w_53.heap.size w_53 _).size))
  clear ho
  have HBi := jA (jJ (zy) hb : Below w_53.heap.size w_53 w_55)
  clear hb
  have HBn := jA (jJ HB.out HBi.out)
  clear HB
  have HB := HBn
  clear HBn
  have HS60 := jA HBi.out.size
  have n0_ := jA (jP BK2.out HBi.out)
  clear BK2
  have BK2 := n0_
  clear n0_
  have n0_ := jA (Kd.V_below HO15.out HBi.out)
  clear HO15
  have HO15 := n0_
  clear n0_
  have n0_ := jA (Kd.R_below HO30.out HBi.out)
  clear HO30
  have HO30 := n0_
  clear n0_
  clear HBi
  have HWw_55 := jA HB.out.size
  have HO56 := jA (Kd.R_mono (ok' := fun k_ => w_53.heap.size ≤ k_ ∧ k_ < w_55.heap.size) ho1.out (fun k_ hk_ => hk_))
  clear ho1
  have hczgb1_0 : w_55.cell? ⟨gb1, 0, none⟩ = some (.bool a0_0) := (jC BK2.out 0).trans rfl
  have hfzgb1_0 := jB BK2.out 0
  have hczgb1_1 : w_55.cell? ⟨gb1, 1, none⟩ = some (.bool a0_1) := (jC BK2.out 1).trans rfl
  have hfzgb1_1 := jB BK2.out 1
  have hczgb1_2 : w_55.cell? ⟨gb1, 2, none⟩ = some (.bool a0_2) := (jC BK2.out 2).trans rfl
  have hfzgb1_2 := jB BK2.out 2
  have hczgb1_3 : w_55.cell? ⟨gb1, 3, none⟩ = some (.bool a0_3) := (jC BK2.out 3).trans rfl
  have hfzgb1_3 := jB BK2.out 3
  have hczgb1_4 : w_55.cell? ⟨gb1, 4, none⟩ = some (.bool a0_4) := (jC BK2.out 4).trans rfl
  have hfzgb1_4 := jB BK2.out 4
  have hczgb1_5 : w_55.cell? ⟨gb1, 5, none⟩ = some (.int .i64 a0_5) := (jC BK2.out 5).trans rfl
  have hfzgb1_5 := jB BK2.out 5
  go_wp2_with (fail)
  clear hczgb1_0 hfzgb1_0 hczgb1_1 hfzgb1_1 hczgb1_2 hfzgb1_2 hczgb1_3 hfzgb1_3 hczgb1_4 hfzgb1_4 hczgb1_5 hfzgb1_5
  go_at_call 34
  (with_reducible refine (impl_ShortestInputs.calls k a0_0 a0_1 a0_2 a0_3 a0_4 a0_5 _ _ xs1 a2 gs_r1 res_r2 _ ?side1 ?side2 HFimpl.out).mono ?_)
  (case side1 => repeat (first | exact C_ext (Kd.R_reads' HO56.out).2.2 HXB1.out HLB1.out | (with_reducible refine Kd.C_alloc ?_ _) | (with_reducible refine Kd.C_drewN ?_ _) | (with_reducible refine Kd.C_drew ?_)))
  (case side2 => exact Nat.le_trans HLB1.out (Kd.R_reads' HO56.out).2.1)
  rintro e w_61 ⟨v_62, rfl, ho, hb⟩
  have ho1 := jA (Kd.R_lower (R_span ho) (Nat.le_trans HB.out.size (zy : Below w_55.heap.size w_55 _).size))
  clear ho
  have HBi := jA (jJ (zy) hb : Below w_55.heap.size w_55 w_61)
  clear hb
  have HBn := jA (jJ HB.out HBi.out)
  clear HB
  have HB := HBn
  clear HBn
  have HS67 := jA HBi.out.size
  have n0_ := jA (jP BK2.out HBi.out)
  clear BK2
  have BK2 := n0_
  clear n0_
  have n0_ := jA (Kd.V_below HO15.out HBi.out)
  clear HO15
  have HO15 := n0_
  clear n0_
  have n0_ := jA (Kd.R_below HO30.out HBi.out)
  clear HO30
  have HO30 := n0_
  clear n0_
  have n0_ := jA (Kd.R_below HO56.out HBi.out)
  clear HO56
  have HO56 := n0_
  clear n0_
  clear HBi
  have HWw_61 := jA HB.out.size
  obtain ⟨Ao64, co65, eo66⟩ := Kd.R_slice ho1.out
  subst eo66
  have HO63 := jA (Kd.R_mono (ok' := fun k_ => w_55.heap.size ≤ k_ ∧ k_ < w_61.heap.size) ho1.out (fun k_ hk_ => hk_))
  clear ho1
  clear HO56
  have hczgb1_0 : w_61.cell? ⟨gb1, 0, none⟩ = some (.bool a0_0) := (jC BK2.out 0).trans rfl
  have hfzgb1_0 := jB BK2.out 0
  have hczgb1_1 : w_61.cell? ⟨gb1, 1, none⟩ = some (.bool a0_1) := (jC BK2.out 1).trans rfl
  have hfzgb1_1 := jB BK2.out 1
  have hczgb1_2 : w_61.cell? ⟨gb1, 2, none⟩ = some (.bool a0_2) := (jC BK2.out 2).trans rfl
  have hfzgb1_2 := jB BK2.out 2
  have hczgb1_3 : w_61.cell? ⟨gb1, 3, none⟩ = some (.bool a0_3) := (jC BK2.out 3).trans rfl
  have hfzgb1_3 := jB BK2.out 3
  have hczgb1_4 : w_61.cell? ⟨gb1, 4, none⟩ = some (.bool a0_4) := (jC BK2.out 4).trans rfl
  have hfzgb1_4 := jB BK2.out 4
  have hczgb1_5 : w_61.cell? ⟨gb1, 5, none⟩ = some (.int .i64 a0_5) := (jC BK2.out 5).trans rfl
  have hfzgb1_5 := jB BK2.out 5
  go_wp2_with (fail)
  clear hczgb1_0 hfzgb1_0 hczgb1_1 hfzgb1_1 hczgb1_2 hfzgb1_2 hczgb1_3 hfzgb1_3 hczgb1_4 hfzgb1_4 hczgb1_5 hfzgb1_5
  go_at_call 44
  (with_reducible refine (laws_eqInt64S.calls k _ _ gs_r1 _ _ ws_r1 true _ ?side1 ?side2 ?side3 ?side4 HE_gs_r1_ws_r1.out).mono ?_)
  (case side1 => repeat (first | exact (Kd.R_reads' HO63.out).2.2 | (with_reducible refine Kd.C_alloc ?_ _) | (with_reducible refine Kd.C_drewN ?_ _) | (with_reducible refine Kd.C_drew ?_)))
  (case side2 => exact (Kd.R_reads' HO63.out).2.1)
  (case side3 => repeat (first | exact (Kd.V_reads' HO15.out).2.2 | (with_reducible refine Kd.C_alloc ?_ _) | (with_reducible refine Kd.C_drewN ?_ _) | (with_reducible refine Kd.C_drew ?_)))
  (case side4 => exact (Kd.V_reads' HO15.out).2.1)
  rintro e w_68 ⟨rfl, hd⟩
  have hb := hd.below
  clear hd
  have HBi := jA (jJ (zy) hb : Below w_61.heap.size w_61 w_68)
  clear hb
  have HBn := jA (jJ HB.out HBi.out)
  clear HB
  have HB := HBn
  clear HBn
  have HS69 := jA HBi.out.size
  have n0_ := jA (jP BK2.out HBi.out)
  clear BK2
  have BK2 := n0_
  clear n0_
  have n0_ := jA (Kd.V_below HO15.out HBi.out)
  clear HO15
  have HO15 := n0_
  clear n0_
  have n0_ := jA (Kd.R_below HO30.out HBi.out)
  clear HO30
  have HO30 := n0_
  clear n0_
  have n0_ := jA (Kd.R_below HO63.out HBi.out)
  clear HO63
  have HO63 := n0_
  clear n0_
  clear HBi
  have HWw_68 := jA HB.out.size
  have hczgb1_0 : w_68.cell? ⟨gb1, 0, none⟩ = some (.bool a0_0) := (jC BK2.out 0).trans rfl
  have hfzgb1_0 := jB BK2.out 0
  have hczgb1_1 : w_68.cell? ⟨gb1, 1, none⟩ = some (.bool a0_1) := (jC BK2.out 1).trans rfl
  have hfzgb1_1 := jB BK2.out 1
  have hczgb1_2 : w_68.cell? ⟨gb1, 2, none⟩ = some (.bool a0_2) := (jC BK2.out 2).trans rfl
  have hfzgb1_2 := jB BK2.out 2
  have hczgb1_3 : w_68.cell? ⟨gb1, 3, none⟩ = some (.bool a0_3) := (jC BK2.out 3).trans rfl
  have hfzgb1_3 := jB BK2.out 3
  have hczgb1_4 : w_68.cell? ⟨gb1, 4, none⟩ = some (.bool a0_4) := (jC BK2.out 4).trans rfl
  have hfzgb1_4 := jB BK2.out 4
  have hczgb1_5 : w_68.cell? ⟨gb1, 5, none⟩ = some (.int .i64 a0_5) := (jC BK2.out 5).trans rfl
  have hfzgb1_5 := jB BK2.out 5
  go_wp2_with (fail)
  clear hczgb1_0 hfzgb1_0 hczgb1_1 hfzgb1_1 hczgb1_2 hfzgb1_2 hczgb1_3 hfzgb1_3 hczgb1_4 hfzgb1_4 hczgb1_5 hfzgb1_5
  go_at_call 46
  (with_reducible refine (laws_heldInt64S.calls k _ _ ml_1 101 mk_1 _ ?side1 ?side2 HH_ml_1.out).mono ?_)
  (case side1 => repeat (first | exact (Kd.R_reads' HO30.out).2.2 | (with_reducible refine Kd.C_alloc ?_ _) | (with_reducible refine Kd.C_drewN ?_ _) | (with_reducible refine Kd.C_drew ?_)))
  (case side2 => exact (Kd.R_reads' HO30.out).2.1)
  rintro e w_70 ⟨rfl, hd⟩
  have hb := hd.below
  clear hd
  have HBi := jA (jJ (zy) hb : Below w_68.heap.size w_68 w_70)
  clear hb
  have HBn := jA (jJ HB.out HBi.out)
  clear HB
  have HB := HBn
  clear HBn
  have HS71 := jA HBi.out.size
  have n0_ := jA (jP BK2.out HBi.out)
  clear BK2
  have BK2 := n0_
  clear n0_
  have n0_ := jA (Kd.V_below HO15.out HBi.out)
  clear HO15
  have HO15 := n0_
  clear n0_
  have n0_ := jA (Kd.R_below HO30.out HBi.out)
  clear HO30
  have HO30 := n0_
  clear n0_
  have n0_ := jA (Kd.R_below HO63.out HBi.out)
  clear HO63
  have HO63 := n0_
  clear n0_
  clear HBi
  have HWw_70 := jA HB.out.size
  have hn_ := HMN1.out
  have hczgb1_0 : w_70.cell? ⟨gb1, 0, none⟩ = some (.bool a0_0) := (jC BK2.out 0).trans rfl
  have hfzgb1_0 := jB BK2.out 0
  have hczgb1_1 : w_70.cell? ⟨gb1, 1, none⟩ = some (.bool a0_1) := (jC BK2.out 1).trans rfl
  have hfzgb1_1 := jB BK2.out 1
  have hczgb1_2 : w_70.cell? ⟨gb1, 2, none⟩ = some (.bool a0_2) := (jC BK2.out 2).trans rfl
  have hfzgb1_2 := jB BK2.out 2
  have hczgb1_3 : w_70.cell? ⟨gb1, 3, none⟩ = some (.bool a0_3) := (jC BK2.out 3).trans rfl
  have hfzgb1_3 := jB BK2.out 3
  have hczgb1_4 : w_70.cell? ⟨gb1, 4, none⟩ = some (.bool a0_4) := (jC BK2.out 4).trans rfl
  have hfzgb1_4 := jB BK2.out 4
  have hczgb1_5 : w_70.cell? ⟨gb1, 5, none⟩ = some (.int .i64 a0_5) := (jC BK2.out 5).trans rfl
  have hfzgb1_5 := jB BK2.out 5
  go_wp2_with (fail)
  clear hczgb1_0 hfzgb1_0 hczgb1_1 hfzgb1_1 hczgb1_2 hfzgb1_2 hczgb1_3 hfzgb1_3 hczgb1_4 hfzgb1_4 hczgb1_5 hfzgb1_5
  clear hn_
  go_wp2
  go_ret
  exact ⟨by first | rfl | (simp; done) | (simp [*]; done), zb0 HB⟩

/-- What is to be told of the answers, for the law to tell true. -/
structure laws_FnExactShortestInputs.Facts (k : Nat) (a0_0 : Bool) (a0_1 : Bool) (a0_2 : Bool) (a0_3 : Bool) (a0_4 : Bool) (a0_5 : Int) (l1 : List Int) (a2 : Int) (xs1 : List Int) (ext1 : List Int) (extb1 : List Int) (rm1 : Int) (ws_r1 : List Int) (res_r2 : Int) (gs_r1 : List Int) (mk_0 : Int) (ml_0 : List Int) (mk_1 : Int) (ml_1 : List Int) : Prop where
  hto1 : laws_toInt64SX.f k l1 false = some ext1
  htob1 : laws_toInt64SX.f k l1 true = some extb1
  hxl1 : xs1.length = l1.length
  hnb1 : extb1 = [] → l1.length = 0
  hne1 : ¬ (ext1 = [])
  hxe1 : xs1 = ext1.take xs1.length
  hxb1 : xs1 = extb1.take xs1.length
  hle1 : xs1.length ≤ ext1.length
  hlb1 : xs1.length ≤ extb1.length
  hrm1 : laws_roomBehind.f (xs1.length : Int) = some rm1
  hj1 : wrap64 ((xs1.length : Int) + rm1) = (ext1.length : Int)
  heqx1 : laws_eqInt64S.f k ext1 ext1 = some true
  hg_l1 : l1.length ≤ 1000000
  hfspec : spec_ShortestInputs.f k a0_0 a0_1 a0_2 a0_3 a0_4 a0_5 xs1 a2 = some (ws_r1, res_r2)
  hvac : laws_toController.f a0_0 a0_1 a0_2 a0_3 a0_4 a0_5 = some (a0_0, a0_1, a0_2, a0_3, a0_4, a0_5)
  hfimpl : impl_ShortestInputs.f k a0_0 a0_1 a0_2 a0_3 a0_4 a0_5 xs1 a2 = some (gs_r1, res_r2)
  he_gs_r1_ws_r1 : laws_eqInt64S.f k gs_r1 ws_r1 = some true
  hm0 : laws_markInt64S.f k xs1 101 = some (mk_0, ml_0)
  hmn0 : decide (mk_0 < 0) = false
  hm1 : laws_markInt64S.f k gs_r1 101 = some (mk_1, ml_1)
  hmn1 : decide (mk_1 < 0) = false
  hml1 : gs_r1.length = ml_1.length
  hh_ml_1 : laws_heldInt64S.f k ml_1 101 = some mk_1
/-- The statement over numbers and lists. -/
def laws_FnExactShortestInputs.Pure : Prop := ∀ (a0_0 : Bool) (a0_1 : Bool) (a0_2 : Bool) (a0_3 : Bool) (a0_4 : Bool) (a0_5 : Int) (l1 : List Int) (a2 : Int), (l1.length ≤ 9223372036854775807) → ((Lit.int .i64 a0_5).wf = true) → ((Lit.int .i64 a2).wf = true) → 
    (1000000 < l1.length) ∨
    (∃ k xs1 ext1 extb1 rm1 ws_r1 res_r2 gs_r1 mk_0 ml_0 mk_1 ml_1, laws_FnExactShortestInputs.Facts k a0_0 a0_1 a0_2 a0_3 a0_4 a0_5 l1 a2 xs1 ext1 extb1 rm1 ws_r1 res_r2 gs_r1 mk_0 ml_0 mk_1 ml_1)

theorem laws_FnExactShortestInputs.walk (P_ : laws_FnExactShortestInputs.Pure) (a0_0 : Bool) (a0_1 : Bool) (a0_2 : Bool) (a0_3 : Bool) (a0_4 : Bool) (a0_5 : Int) (A1 : Option Addr) (c1 : Nat) (l1 : List Int) (a2 : Int) (w : World) (hr1 : Kd.C (Kd.int .i64) w A1 l1.length l1) (hc1 : l1.length ≤ c1) (wa0_5 : (Lit.int .i64 a0_5).wf = true) (wa2 : (Lit.int .i64 a2).wf = true) :
    Calls Try.prog 9 #[.agg #[.bool a0_0, .bool a0_1, .bool a0_2, .bool a0_3, .bool a0_4, .int .i64 a0_5], .slice A1 l1.length c1, .int .i64 a2] w fun e w' => e = .returned (.bool true) ∧ Below w.heap.size w w' := by
  rcases P_ a0_0 a0_1 a0_2 a0_3 a0_4 a0_5 l1 a2 (Kd.C_max hr1) wa0_5 wa2 with h0_ | ⟨k, xs1, ext1, extb1, rm1, ws_r1, res_r2, gs_r1, mk_0, ml_0, mk_1, ml_1, F⟩
  · exact laws_FnExactShortestInputs.skip1_ a0_0 a0_1 a0_2 a0_3 a0_4 a0_5 _ _ l1 a2 w hr1 hc1 h0_
  · exact laws_FnExactShortestInputs.true_ k a0_0 a0_1 a0_2 a0_3 a0_4 a0_5 _ _ l1 a2 w hr1 hc1 xs1 ext1 extb1 rm1 ws_r1 res_r2 gs_r1 mk_0 ml_0 mk_1 ml_1 F.hto1 F.htob1 F.hxl1 F.hnb1 F.hne1 F.hxe1 F.hxb1 F.hle1 F.hlb1 F.hrm1 F.hj1 F.heqx1 F.hg_l1 F.hfspec F.hvac F.hfimpl F.he_gs_r1_ws_r1 F.hm0 F.hmn0 F.hm1 F.hmn1 F.hml1 F.hh_ml_1

end Go.Proofs.Ythieppjmjgijfaa.PFnExactShortestInputs
