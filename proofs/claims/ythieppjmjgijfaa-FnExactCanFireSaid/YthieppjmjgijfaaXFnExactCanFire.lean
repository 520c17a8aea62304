/- FnExactCanFire: the parts of the law that look behind a row's length, and the law's walk: with the answers that the functions give, it tells true. -/
import Derived.Test.YthieppjmjgijfaaQFnExactCanFirex11
namespace Go.Proofs.Ythieppjmjgijfaa.PFnExactCanFire
open Go.RowKit Go.Proofs.YthieppjmjgijfaaW.PrintWords Go.Proofs.YthieppjmjgijfaaW.PrintLast Go.Proofs.YthieppjmjgijfaaW.PrintMore
attribute [local go_sem] max2_int min2_int max_two min_two max_three min_three max_four min_four   -- for this text's walks alone
set_option linter.unusedVariables false
set_option linter.unusedSimpArgs false
open Go.Proofs.YthieppjmjgijfaaX

theorem zy {p : Prop} (h : p := by repeat (first | (with_reducible first | exact Below.refl _ _ | apply below_alloc | apply pw_below_drewN | apply below_drew1) | exact Below.refl _ _)) : p := h

/-! ### laws_intactInt64S, over rows with what lies behind their lengths: function 43 -/
set_option maxHeartbeats 8000000 in
set_option maxRecDepth 100000 in
theorem laws_intactInt64SX.calls (k : Nat) (A0 : Option Addr) (c0 : Nat) (l0 : List Int) (A1 : Option Addr) (c1 : Nat) (l1 : List Int) (n0 : Nat) (rm : Int) (r : Bool) (w : World) (hr0 : Kd.C (Kd.int .i64) w A0 l0.length l0) (hc0 : l0.length ≤ c0) (hr1 : Kd.C (Kd.int .i64) w A1 l1.length l1) (hc1 : l1.length ≤ c1) (hrm : laws_roomBehind.f (n0 : Int) = some rm) (hj : wrap64 ((n0 : Int) + rm) = (l0.length : Int)) (hl : l1.length = l0.length) (h : laws_eqInt64S.f k l0 l1 = some r) :
    Calls Try.prog 43 #[.slice A0 n0 c0, .slice A1 n0 c1] w fun e w' => e = .returned (.bool r) ∧ Below w.heap.size w w' := by
  have HR0 := jA hr0
  have HR1 := jA hr1
  have HC0 := jA hc0
  have HC1 := jA hc1
  have HL := jA hl
  clear hr0 hr1 hc0 hc1 hl
  obtain ⟨ji5, hji5⟩ : ∃ j_ : Int, j_ = (l0.length : Int) := ⟨_, rfl⟩
  rw [← hji5] at hj
  have HJ := jA hji5
  have hji5w : (IntKind.i64.wrap ((n0 : Int) + rm)) = ji5 := (i64_w _).trans hj
  clear hji5
  have A3 := jA hrm
  have A10 := jA h
  clear hrm h
  obtain ⟨i0, hi0, _, hsz0, _⟩ := info_parts info2
  have hcut0 := cut_cap (P := Try.prog) 35 2 .i64 Try.underlying35 hi0 A0 n0 c0 l0.length ji5 HJ.out HC0.out
  have hcut1 := cut_cap (P := Try.prog) 35 2 .i64 Try.underlying35 hi0 A1 n0 c1 l1.length ji5 (HJ.out.trans (by rw [HL.out])) HC1.out
  clear hi0 hsz0
  go_enter Try.func43, Try.ntmps43
  go_wp2_with (first | (go_at_call 77; (with_reducible refine (laws_roomBehind.calls (n0 : Int) rm _ A3.out).mono ?_); rintro e w' ⟨rfl, ⟨nd, rfl⟩⟩; (try first | exact ⟨rfl, _, World.drewN_drewN _ _ _⟩ | exact ⟨rfl, _, Eq.trans (World.drewN_drewN _ _ _) (congrArg (World.drewN _) (Nat.add_assoc _ _ _))⟩)) | (go_at_call 44; (with_reducible refine (laws_eqInt64S.calls k _ _ l0 _ _ l1 r _ ?side1 ?side2 ?side3 ?side4 A10.out).mono ?_); (case side1 => repeat (first | exact HR0.out | (with_reducible refine Kd.C_alloc ?_ _) | (with_reducible refine Kd.C_drewN ?_ _) | (with_reducible refine Kd.C_drew ?_))); (case side2 => exact HC0.out); (case side3 => repeat (first | exact HR1.out | (with_reducible refine Kd.C_alloc ?_ _) | (with_reducible refine Kd.C_drewN ?_ _) | (with_reducible refine Kd.C_drew ?_))); (case side4 => exact HC1.out); rintro e w' ⟨rfl, ⟨nd, rfl⟩⟩; (try first | exact ⟨rfl, _, World.drewN_drewN _ _ _⟩ | exact ⟨rfl, _, Eq.trans (World.drewN_drewN _ _ _) (congrArg (World.drewN _) (Nat.add_assoc _ _ _))⟩)))
  repeat (go_quiet (first | (go_at_call 77; (with_reducible refine (laws_roomBehind.calls (n0 : Int) rm _ A3.out).mono ?_); rintro e w' ⟨rfl, ⟨nd, rfl⟩⟩; (try first | exact ⟨rfl, _, World.drewN_drewN _ _ _⟩ | exact ⟨rfl, _, Eq.trans (World.drewN_drewN _ _ _) (congrArg (World.drewN _) (Nat.add_assoc _ _ _))⟩)) | (go_at_call 44; (with_reducible refine (laws_eqInt64S.calls k _ _ l0 _ _ l1 r _ ?side1 ?side2 ?side3 ?side4 A10.out).mono ?_); (case side1 => repeat (first | exact HR0.out | (with_reducible refine Kd.C_alloc ?_ _) | (with_reducible refine Kd.C_drewN ?_ _) | (with_reducible refine Kd.C_drew ?_))); (case side2 => exact HC0.out); (case side3 => repeat (first | exact HR1.out | (with_reducible refine Kd.C_alloc ?_ _) | (with_reducible refine Kd.C_drewN ?_ _) | (with_reducible refine Kd.C_drew ?_))); (case side4 => exact HC1.out); rintro e w' ⟨rfl, ⟨nd, rfl⟩⟩; (try first | exact ⟨rfl, _, World.drewN_drewN _ _ _⟩ | exact ⟨rfl, _, Eq.trans (World.drewN_drewN _ _ _) (congrArg (World.drewN _) (Nat.add_assoc _ _ _))⟩))); try go_wp2_with (first | (go_at_call 77; (with_reducible refine (laws_roomBehind.calls (n0 : Int) rm _ A3.out).mono ?_); rintro e w' ⟨rfl, ⟨nd, rfl⟩⟩; (try first | exact ⟨rfl, _, World.drewN_drewN _ _ _⟩ | exact ⟨rfl, _, Eq.trans (World.drewN_drewN _ _ _) (congrArg (World.drewN _) (Nat.add_assoc _ _ _))⟩)) | (go_at_call 44; (with_reducible refine (laws_eqInt64S.calls k _ _ l0 _ _ l1 r _ ?side1 ?side2 ?side3 ?side4 A10.out).mono ?_); (case side1 => repeat (first | exact HR0.out | (with_reducible refine Kd.C_alloc ?_ _) | (with_reducible refine Kd.C_drewN ?_ _) | (with_reducible refine Kd.C_drew ?_))); (case side2 => exact HC0.out); (case side3 => repeat (first | exact HR1.out | (with_reducible refine Kd.C_alloc ?_ _) | (with_reducible refine Kd.C_drewN ?_ _) | (with_reducible refine Kd.C_drew ?_))); (case side4 => exact HC1.out); rintro e w' ⟨rfl, ⟨nd, rfl⟩⟩; (try first | exact ⟨rfl, _, World.drewN_drewN _ _ _⟩ | exact ⟨rfl, _, Eq.trans (World.drewN_drewN _ _ _) (congrArg (World.drewN _) (Nat.add_assoc _ _ _))⟩))))
  go_ret
  exact ⟨by first | rfl | (simp; done) | (simp [*]; done), zy⟩

/-! ### the law: function 11 -/
set_option maxHeartbeats 8000000 in
set_option maxRecDepth 100000 in
theorem laws_FnExactCanFire.skip1_ (a0_0 : Bool) (a0_1 : Bool) (a0_2 : Bool) (a0_3 : Bool) (a0_4 : Bool) (a0_5 : Int) (A1 : Option Addr) (c1 : Nat) (l1 : List Int) (w : World) (hr1 : Kd.C (Kd.int .i64) w A1 l1.length l1) (hc1 : l1.length ≤ c1) (hn_ : 1000000 < l1.length) :
    Calls Try.prog 11 #[.agg #[.bool a0_0, .bool a0_1, .bool a0_2, .bool a0_3, .bool a0_4, .int .i64 a0_5], .slice A1 l1.length c1] w fun e w' => e = .returned (.bool true) ∧ Below w.heap.size w w' := by
  have HR1 := jA hr1
  have HC1 := jA hc1
  clear hr1 hc1
  have HN := jA hn_
  clear hn_
  have HB := jA (Below.refl w.heap.size w)
  go_enter Try.func11, Try.ntmps11
  have hn_ : decide (1000000 < (l1.length : Int)) = true := jT (by have := HN.out; omega)
  have hn2_ : decide (1000000 < l1.length) = true := jT (by have := HN.out; omega)
  go_wp2_with (first | ((with_reducible refine jQ (N := 2) rfl ?_); refine jO ?hg (N := 2) ?hd (cs := #[.bool a0_0, .bool a0_1, .bool a0_2, .bool a0_3, .bool a0_4, .int .i64 a0_5]) (t := 28) ?hr ?_; (case hd => rfl); (case hg => rfl); (case hr => first | (go_simp; done) | (go_simp; rfl)); intro gb1 hg_ w_3 hbox hb; have BK2 := jA hbox; have HGgb1 : Aside0 (gb1 < w_3.heap.size) := ⟨blk_lt hbox⟩; have hbA_ := jA hb; clear hbox hg_ hb; have hcz_0 : w_3.cell? ⟨gb1, 0, none⟩ = some (.bool a0_0) := (jC BK2.out 0).trans rfl; have hfz_0 := jB BK2.out 0; have hcz_1 : w_3.cell? ⟨gb1, 1, none⟩ = some (.bool a0_1) := (jC BK2.out 1).trans rfl; have hfz_1 := jB BK2.out 1; have hcz_2 : w_3.cell? ⟨gb1, 2, none⟩ = some (.bool a0_2) := (jC BK2.out 2).trans rfl; have hfz_2 := jB BK2.out 2; have hcz_3 : w_3.cell? ⟨gb1, 3, none⟩ = some (.bool a0_3) := (jC BK2.out 3).trans rfl; have hfz_3 := jB BK2.out 3; have hcz_4 : w_3.cell? ⟨gb1, 4, none⟩ = some (.bool a0_4) := (jC BK2.out 4).trans rfl; have hfz_4 := jB BK2.out 4; have hcz_5 : w_3.cell? ⟨gb1, 5, none⟩ = some (.int .i64 a0_5) := (jC BK2.out 5).trans rfl; have hfz_5 := jB BK2.out 5))
  clear hcz_0 hfz_0 hcz_1 hfz_1 hcz_2 hfz_2 hcz_3 hfz_3 hcz_4 hfz_4 hcz_5 hfz_5
  have hb := hbA_.out
  clear hbA_
  have HBi := jA (jJ (zy) hb : Below w.heap.size w w_3)
  clear hb
  have HBn := jA (jJ HB.out HBi.out)
  clear HB
  have HB := HBn
  clear HBn
  have HS4 := jA HBi.out.size
  clear HBi
  have HWw_3 := jA HB.out.size
  go_wp2
  go_ret
  exact ⟨by first | rfl | (simp; done) | (simp [*]; done), zb0 HB⟩
set_option maxHeartbeats 8000000 in
set_option maxRecDepth 100000 in
theorem laws_FnExactCanFire.true_ (k : Nat) (a0_0 : Bool) (a0_1 : Bool) (a0_2 : Bool) (a0_3 : Bool) (a0_4 : Bool) (a0_5 : Int) (A1 : Option Addr) (c1 : Nat) (l1 : List Int) (w : World) (hr1 : Kd.C (Kd.int .i64) w A1 l1.length l1) (hc1 : l1.length ≤ c1) (xs1 ext1 extb1 : List Int) (rm1 : Int) (res_r1 : Bool) (res_r2 : Int) (hto1_ : laws_toInt64SX.f k l1 false = some ext1) (htob1_ : laws_toInt64SX.f k l1 true = some extb1) (hxl1_ : xs1.length = l1.length) (hnb1_ : extb1 = [] → l1.length = 0) (hne1_ : ¬ (ext1 = [])) (hxe1_ : xs1 = ext1.take xs1.length) (hxb1_ : xs1 = extb1.take xs1.length) (hle1_ : xs1.length ≤ ext1.length) (hlb1_ : xs1.length ≤ extb1.length) (hrm1_ : laws_roomBehind.f (xs1.length : Int) = some rm1) (hj1_ : wrap64 ((xs1.length : Int) + rm1) = (ext1.length : Int)) (heqx1_ : laws_eqInt64S.f k ext1 ext1 = some true) (hg_l1_ : l1.length ≤ 1000000) (hfspec_ : spec_CanFire.f k a0_0 a0_1 a0_2 a0_3 a0_4 a0_5 xs1 = some (res_r1, res_r2)) (hvac_ : laws_toController.f a0_0 a0_1 a0_2 a0_3 a0_4 a0_5 = some (a0_0, a0_1, a0_2, a0_3, a0_4, a0_5)) (hfimpl_ : impl_CanFire.f k a0_0 a0_1 a0_2 a0_3 a0_4 a0_5 xs1 = some (res_r1, res_r2)) :
    Calls Try.prog 11 #[.agg #[.bool a0_0, .bool a0_1, .bool a0_2, .bool a0_3, .bool a0_4, .int .i64 a0_5], .slice A1 l1.length c1] w fun e w' => e = .returned (.bool true) ∧ Below w.heap.size w w' := by
  have HR1 := jA hr1
  have HC1 := jA hc1
  clear hr1 hc1
  have HTO1 := jA hto1_
  have HTOB1 := jA htob1_
  have HXL1 := jA hxl1_
  have HNB1 := jA hnb1_
  have HNE1 := jA hne1_
  have HXE1 := jA hxe1_
  have HXB1 := jA hxb1_
  have HLE1 := jA hle1_
  have HLB1 := jA hlb1_
  have HRM1 := jA hrm1_
  have HJ1 := jA hj1_
  have HEQX1 := jA heqx1_
  have HG_l1 := jA hg_l1_
  have HFspec := jA hfspec_
  have HVaC := jA hvac_
  have HFimpl := jA hfimpl_
  clear hto1_ htob1_ hxl1_ hnb1_ hne1_ hxe1_ hxb1_ hle1_ hlb1_ hrm1_ hj1_ heqx1_ hg_l1_ hfspec_ hvac_ hfimpl_
  have HB := jA (Below.refl w.heap.size w)
  go_enter Try.func11, Try.ntmps11
  have hn_ : decide (1000000 < (l1.length : Int)) = false := jh (by have := HG_l1.out; omega)
  have hn2_ : decide (1000000 < l1.length) = false := jh (by have := HG_l1.out; omega)
  go_wp2_with (first | ((with_reducible refine jQ (N := 2) rfl ?_); refine jO ?hg (N := 2) ?hd (cs := #[.bool a0_0, .bool a0_1, .bool a0_2, .bool a0_3, .bool a0_4, .int .i64 a0_5]) (t := 28) ?hr ?_; (case hd => rfl); (case hg => rfl); (case hr => first | (go_simp; done) | (go_simp; rfl)); intro gb1 hg_ w_3 hbox hb; have BK2 := jA hbox; have HGgb1 : Aside0 (gb1 < w_3.heap.size) := ⟨blk_lt hbox⟩; have hbA_ := jA hb; clear hbox hg_ hb; have hcz_0 : w_3.cell? ⟨gb1, 0, none⟩ = some (.bool a0_0) := (jC BK2.out 0).trans rfl; have hfz_0 := jB BK2.out 0; have hcz_1 : w_3.cell? ⟨gb1, 1, none⟩ = some (.bool a0_1) := (jC BK2.out 1).trans rfl; have hfz_1 := jB BK2.out 1; have hcz_2 : w_3.cell? ⟨gb1, 2, none⟩ = some (.bool a0_2) := (jC BK2.out 2).trans rfl; have hfz_2 := jB BK2.out 2; have hcz_3 : w_3.cell? ⟨gb1, 3, none⟩ = some (.bool a0_3) := (jC BK2.out 3).trans rfl; have hfz_3 := jB BK2.out 3; have hcz_4 : w_3.cell? ⟨gb1, 4, none⟩ = some (.bool a0_4) := (jC BK2.out 4).trans rfl; have hfz_4 := jB BK2.out 4; have hcz_5 : w_3.cell? ⟨gb1, 5, none⟩ = some (.int .i64 a0_5) := (jC BK2.out 5).trans rfl; have hfz_5 := jB BK2.out 5))
  clear hcz_0 hfz_0 hcz_1 hfz_1 hcz_2 hfz_2 hcz_3 hfz_3 hcz_4 hfz_4 hcz_5 hfz_5
  have hb := hbA_.out
  clear hbA_
  have HBi := jA (jJ (zy) hb : Below w.heap.size w w_3)
  clear hb
  have HBn := jA (jJ HB.out HBi.out)
  clear HB
  have HB := HBn
  clear HBn
  have HS4 := jA HBi.out.size
  clear HBi
  have HWw_3 := jA HB.out.size
  clear hn_ hn2_
  have hczgb1_0 : w_3.cell? ⟨gb1, 0, none⟩ = some (.bool a0_0) := (jC BK2.out 0).trans rfl
  have hfzgb1_0 := jB BK2.out 0
  have hczgb1_1 : w_3.cell? ⟨gb1, 1, none⟩ = some (.bool a0_1) := (jC BK2.out 1).trans rfl
  have hfzgb1_1 := jB BK2.out 1
  have hczgb1_2 : w_3.cell? ⟨gb1, 2, none⟩ = some (.bool a0_2) := (jC BK2.out 2).trans rfl
  have hfzgb1_2 := jB BK2.out 2
  have hczgb1_3 : w_3.cell? ⟨gb1, 3, none⟩ = some (.bool a0_3) := (jC BK2.out 3).trans rfl
  have hfzgb1_3 := jB BK2.out 3
  have hczgb1_4 : w_3.cell? ⟨gb1, 4, none⟩ = some (.bool a0_4) := (jC BK2.out 4).trans rfl
  have hfzgb1_4 := jB BK2.out 4
  have hczgb1_5 : w_3.cell? ⟨gb1, 5, none⟩ = some (.int .i64 a0_5) := (jC BK2.out 5).trans rfl
  have hfzgb1_5 := jB BK2.out 5
  go_wp2_with (fail)
  clear hczgb1_0 hfzgb1_0 hczgb1_1 hfzgb1_1 hczgb1_2 hfzgb1_2 hczgb1_3 hfzgb1_3 hczgb1_4 hfzgb1_4 hczgb1_5 hfzgb1_5
  go_at_call 17
  (with_reducible refine (laws_toController.calls a0_0 a0_1 a0_2 a0_3 a0_4 a0_5 a0_0 a0_1 a0_2 a0_3 a0_4 a0_5 _ HVaC.out).mono ?_)
  rintro e w_5 ⟨rfl, hb⟩
  have HBi := jA (jJ (zy) hb : Below w_3.heap.size w_3 w_5)
  clear hb
  have HBn := jA (jJ HB.out HBi.out)
  clear HB
  have HB := HBn
  clear HBn
  have HS6 := jA HBi.out.size
  have n0_ := jA (jS BK2.out HBi.out)
  clear BK2
  have BK2 := n0_
  clear n0_
  clear HBi
  have HWw_5 := jA HB.out.size
  have hczgb1_0 : w_5.cell? ⟨gb1, 0, none⟩ = some (.bool a0_0) := (jC BK2.out 0).trans rfl
  have hfzgb1_0 := jB BK2.out 0
  have hczgb1_1 : w_5.cell? ⟨gb1, 1, none⟩ = some (.bool a0_1) := (jC BK2.out 1).trans rfl
  have hfzgb1_1 := jB BK2.out 1
  have hczgb1_2 : w_5.cell? ⟨gb1, 2, none⟩ = some (.bool a0_2) := (jC BK2.out 2).trans rfl
  have hfzgb1_2 := jB BK2.out 2
  have hczgb1_3 : w_5.cell? ⟨gb1, 3, none⟩ = some (.bool a0_3) := (jC BK2.out 3).trans rfl
  have hfzgb1_3 := jB BK2.out 3
  have hczgb1_4 : w_5.cell? ⟨gb1, 4, none⟩ = some (.bool a0_4) := (jC BK2.out 4).trans rfl
  have hfzgb1_4 := jB BK2.out 4
  have hczgb1_5 : w_5.cell? ⟨gb1, 5, none⟩ = some (.int .i64 a0_5) := (jC BK2.out 5).trans rfl
  have hfzgb1_5 := jB BK2.out 5
  go_wp2_with (fail)
  clear hczgb1_0 hfzgb1_0 hczgb1_1 hfzgb1_1 hczgb1_2 hfzgb1_2 hczgb1_3 hfzgb1_3 hczgb1_4 hfzgb1_4 hczgb1_5 hfzgb1_5
  go_at_call 42
  (with_reducible refine (laws_toInt64SX.calls k _ _ l1 false ext1 _ ?side1 ?side2 HTO1.out).mono ?_)
  (case side1 => exact zs HR1 HB)
  (case side2 => exact HC1.out)
  rintro e w_7 ⟨Ao9, no10, co11, rfl, hn, ho, hb⟩
  obtain rfl : no10 = xs1.length := hn.full HXL1.out HNE1.out
  clear hn
  have ho1 := jA (Kd.R_lower (R_span ho) (Nat.le_trans HB.out.size (zy : Below w_5.heap.size w_5 _).size))
  clear ho
  have HBi := jA (jJ (zy) hb : Below w_5.heap.size w_5 w_7)
  clear hb
  have HBn := jA (jJ HB.out HBi.out)
  clear HB
  have HB := HBn
  clear HBn
  have HS12 := jA HBi.out.size
  have n0_ := jA (jS BK2.out HBi.out)
  clear BK2
  have BK2 := n0_
  clear n0_
  clear HBi
  have HWw_7 := jA HB.out.size
  have HO8 := jA (Kd.R_mono (ok' := fun k_ => w_5.heap.size ≤ k_ ∧ k_ < w_7.heap.size) ho1.out (fun k_ hk_ => hk_))
  clear ho1
  have hczgb1_0 : w_7.cell? ⟨gb1, 0, none⟩ = some (.bool a0_0) := (jC BK2.out 0).trans rfl
  have hfzgb1_0 := jB BK2.out 0
  have hczgb1_1 : w_7.cell? ⟨gb1, 1, none⟩ = some (.bool a0_1) := (jC BK2.out 1).trans rfl
  have hfzgb1_1 := jB BK2.out 1
  have hczgb1_2 : w_7.cell? ⟨gb1, 2, none⟩ = some (.bool a0_2) := (jC BK2.out 2).trans rfl
  have hfzgb1_2 := jB BK2.out 2
  have hczgb1_3 : w_7.cell? ⟨gb1, 3, none⟩ = some (.bool a0_3) := (jC BK2.out 3).trans rfl
  have hfzgb1_3 := jB BK2.out 3
  have hczgb1_4 : w_7.cell? ⟨gb1, 4, none⟩ = some (.bool a0_4) := (jC BK2.out 4).trans rfl
  have hfzgb1_4 := jB BK2.out 4
  have hczgb1_5 : w_7.cell? ⟨gb1, 5, none⟩ = some (.int .i64 a0_5) := (jC BK2.out 5).trans rfl
  have hfzgb1_5 := jB BK2.out 5
  go_wp2_with (fail)
  clear hczgb1_0 hfzgb1_0 hczgb1_1 hfzgb1_1 hczgb1_2 hfzgb1_2 hczgb1_3 hfzgb1_3 hczgb1_4 hfzgb1_4 hczgb1_5 hfzgb1_5
  go_at_call 38
  (with_reducible refine (spec_CanFire.calls k a0_0 a0_1 a0_2 a0_3 a0_4 a0_5 _ _ xs1 res_r1 res_r2 _ ?side1 ?side2 HFspec.out).mono ?_)
  (case side1 => repeat (first | exact C_ext (je HO8.out).2.2 HXE1.out HLE1.out | (with_reducible refine Kd.C_alloc ?_ _) | (with_reducible refine Kd.C_drewN ?_ _) | (with_reducible refine Kd.C_drew ?_)))
  (case side2 => exact Nat.le_trans HLE1.out (je HO8.out).2.1)
  rintro e w_13 ⟨rfl, hb⟩
  have HBi := jA (jJ (zy) hb : Below w_7.heap.size w_7 w_13)
  clear hb
  have HBn := jA (jJ HB.out HBi.out)
  clear HB
  have HB := HBn
  clear HBn
  have HS14 := jA HBi.out.size
  have n0_ := jA (jS BK2.out HBi.out)
  clear BK2
  have BK2 := n0_
  clear n0_
  have n0_ := jA (ji HO8.out HBi.out)
  clear HO8
  have HO8 := n0_
  clear n0_
  clear HBi
  have HWw_13 := jA HB.out.size
  clear HO8
  have hczgb1_0 : w_13.cell? ⟨gb1, 0, none⟩ = some (.bool a0_0) := (jC BK2.out 0).trans rfl
  have hfzgb1_0 := jB BK2.out 0
  have hczgb1_1 : w_13.cell? ⟨gb1, 1, none⟩ = some (.bool a0_1) := (jC BK2.out 1).trans rfl
  have hfzgb1_1 := jB BK2.out 1
  have hczgb1_2 : w_13.cell? ⟨gb1, 2, none⟩ = some (.bool a0_2) := (jC BK2.out 2).trans rfl
  have hfzgb1_2 := jB BK2.out 2
  have hczgb1_3 : w_13.cell? ⟨gb1, 3, none⟩ = some (.bool a0_3) := (jC BK2.out 3).trans rfl
  have hfzgb1_3 := jB BK2.out 3
  have hczgb1_4 : w_13.cell? ⟨gb1, 4, none⟩ = some (.bool a0_4) := (jC BK2.out 4).trans rfl
  have hfzgb1_4 := jB BK2.out 4
  have hczgb1_5 : w_13.cell? ⟨gb1, 5, none⟩ = some (.int .i64 a0_5) := (jC BK2.out 5).trans rfl
  have hfzgb1_5 := jB BK2.out 5
  go_wp2_with (fail)
  clear hczgb1_0 hfzgb1_0 hczgb1_1 hfzgb1_1 hczgb1_2 hfzgb1_2 hczgb1_3 hfzgb1_3 hczgb1_4 hfzgb1_4 hczgb1_5 hfzgb1_5
  go_at_call 42
  (with_reducible refine (laws_toInt64SX.calls k _ _ l1 false ext1 _ ?side1 ?side2 HTO1.out).mono ?_)
  (case side1 => exact zs HR1 HB)
  (case side2 => exact HC1.out)
  rintro e w_15 ⟨Ao17, no18, co19, rfl, hn, ho, hb⟩
  obtain rfl : no18 = xs1.length := hn.full HXL1.out HNE1.out
  clear hn
  have ho1 := jA (Kd.R_lower (R_span ho) (Nat.le_trans HB.out.size (zy : Below w_13.heap.size w_13 _).size))
  clear ho
  have HBi := jA (jJ (zy) hb : Below w_13.heap.size w_13 w_15)
  clear hb
  have HBn := jA (jJ HB.out HBi.out)
  clear HB
  have HB := HBn
  clear HBn
  have HS20 := jA HBi.out.size
  have n0_ := jA (jS BK2.out HBi.out)
  clear BK2
  have BK2 := n0_
  clear n0_
  clear HBi
  have HWw_15 := jA HB.out.size
  have HO16 := jA (Kd.R_mono (ok' := fun k_ => w_13.heap.size ≤ k_ ∧ k_ < w_15.heap.size) ho1.out (fun k_ hk_ => hk_))
  clear ho1
  have hczgb1_0 : w_15.cell? ⟨gb1, 0, none⟩ = some (.bool a0_0) := (jC BK2.out 0).trans rfl
  have hfzgb1_0 := jB BK2.out 0
  have hczgb1_1 : w_15.cell? ⟨gb1, 1, none⟩ = some (.bool a0_1) := (jC BK2.out 1).trans rfl
  have hfzgb1_1 := jB BK2.out 1
  have hczgb1_2 : w_15.cell? ⟨gb1, 2, none⟩ = some (.bool a0_2) := (jC BK2.out 2).trans rfl
  have hfzgb1_2 := jB BK2.out 2
  have hczgb1_3 : w_15.cell? ⟨gb1, 3, none⟩ = some (.bool a0_3) := (jC BK2.out 3).trans rfl
  have hfzgb1_3 := jB BK2.out 3
  have hczgb1_4 : w_15.cell? ⟨gb1, 4, none⟩ = some (.bool a0_4) := (jC BK2.out 4).trans rfl
  have hfzgb1_4 := jB BK2.out 4
  have hczgb1_5 : w_15.cell? ⟨gb1, 5, none⟩ = some (.int .i64 a0_5) := (jC BK2.out 5).trans rfl
  have hfzgb1_5 := jB BK2.out 5
  go_wp2_with (fail)
  clear hczgb1_0 hfzgb1_0 hczgb1_1 hfzgb1_1 hczgb1_2 hfzgb1_2 hczgb1_3 hfzgb1_3 hczgb1_4 hfzgb1_4 hczgb1_5 hfzgb1_5
  go_at_call 17
  (with_reducible refine (laws_toController.calls a0_0 a0_1 a0_2 a0_3 a0_4 a0_5 a0_0 a0_1 a0_2 a0_3 a0_4 a0_5 _ HVaC.out).mono ?_)
  rintro e w_21 ⟨rfl, hb⟩
  have HBi := jA (jJ (zy) hb : Below w_15.heap.size w_15 w_21)
  clear hb
  have HBn := jA (jJ HB.out HBi.out)
  clear HB
  have HB := HBn
  clear HBn
  have HS22 := jA HBi.out.size
  have n0_ := jA (jS BK2.out HBi.out)
  clear BK2
  have BK2 := n0_
  clear n0_
  have n0_ := jA (ji HO16.out HBi.out)
  clear HO16
  have HO16 := n0_
  clear n0_
  clear HBi
  have HWw_21 := jA HB.out.size
  have hczgb1_0 : w_21.cell? ⟨gb1, 0, none⟩ = some (.bool a0_0) := (jC BK2.out 0).trans rfl
  have hfzgb1_0 := jB BK2.out 0
  have hczgb1_1 : w_21.cell? ⟨gb1, 1, none⟩ = some (.bool a0_1) := (jC BK2.out 1).trans rfl
  have hfzgb1_1 := jB BK2.out 1
  have hczgb1_2 : w_21.cell? ⟨gb1, 2, none⟩ = some (.bool a0_2) := (jC BK2.out 2).trans rfl
  have hfzgb1_2 := jB BK2.out 2
  have hczgb1_3 : w_21.cell? ⟨gb1, 3, none⟩ = some (.bool a0_3) := (jC BK2.out 3).trans rfl
  have hfzgb1_3 := jB BK2.out 3
  have hczgb1_4 : w_21.cell? ⟨gb1, 4, none⟩ = some (.bool a0_4) := (jC BK2.out 4).trans rfl
  have hfzgb1_4 := jB BK2.out 4
  have hczgb1_5 : w_21.cell? ⟨gb1, 5, none⟩ = some (.int .i64 a0_5) := (jC BK2.out 5).trans rfl
  have hfzgb1_5 := jB BK2.out 5
  go_wp2_with (fail)
  clear hczgb1_0 hfzgb1_0 hczgb1_1 hfzgb1_1 hczgb1_2 hfzgb1_2 hczgb1_3 hfzgb1_3 hczgb1_4 hfzgb1_4 hczgb1_5 hfzgb1_5
  go_at_call 37
  (with_reducible refine (impl_CanFire.calls k a0_0 a0_1 a0_2 a0_3 a0_4 a0_5 _ _ xs1 res_r1 res_r2 _ ?side1 ?side2 HFimpl.out).mono ?_)
  (case side1 => repeat (first | exact C_ext (je HO16.out).2.2 HXE1.out HLE1.out | (with_reducible refine Kd.C_alloc ?_ _) | (with_reducible refine Kd.C_drewN ?_ _) | (with_reducible refine Kd.C_drew ?_)))
  (case side2 => exact Nat.le_trans HLE1.out (je HO16.out).2.1)
  rintro e w_23 ⟨rfl, hb⟩
  have HBi := jA (jJ (zy) hb : Below w_21.heap.size w_21 w_23)
  clear hb
  have HBn := jA (jJ HB.out HBi.out)
  clear HB
  have HB := HBn
  clear HBn
  have HS24 := jA HBi.out.size
  have n0_ := jA (jS BK2.out HBi.out)
  clear BK2
  have BK2 := n0_
  clear n0_
  have n0_ := jA (ji HO16.out HBi.out)
  clear HO16
  have HO16 := n0_
  clear n0_
  clear HBi
  have HWw_23 := jA HB.out.size
  have hczgb1_0 : w_23.cell? ⟨gb1, 0, none⟩ = some (.bool a0_0) := (jC BK2.out 0).trans rfl
  have hfzgb1_0 := jB BK2.out 0
  have hczgb1_1 : w_23.cell? ⟨gb1, 1, none⟩ = some (.bool a0_1) := (jC BK2.out 1).trans rfl
  have hfzgb1_1 := jB BK2.out 1
  have hczgb1_2 : w_23.cell? ⟨gb1, 2, none⟩ = some (.bool a0_2) := (jC BK2.out 2).trans rfl
  have hfzgb1_2 := jB BK2.out 2
  have hczgb1_3 : w_23.cell? ⟨gb1, 3, none⟩ = some (.bool a0_3) := (jC BK2.out 3).trans rfl
  have hfzgb1_3 := jB BK2.out 3
  have hczgb1_4 : w_23.cell? ⟨gb1, 4, none⟩ = some (.bool a0_4) := (jC BK2.out 4).trans rfl
  have hfzgb1_4 := jB BK2.out 4
  have hczgb1_5 : w_23.cell? ⟨gb1, 5, none⟩ = some (.int .i64 a0_5) := (jC BK2.out 5).trans rfl
  have hfzgb1_5 := jB BK2.out 5
  go_wp2_with (fail)
  clear hczgb1_0 hfzgb1_0 hczgb1_1 hfzgb1_1 hczgb1_2 hfzgb1_2 hczgb1_3 hfzgb1_3 hczgb1_4 hfzgb1_4 hczgb1_5 hfzgb1_5
  go_at_call 42
  (with_reducible refine (laws_toInt64SX.calls k _ _ l1 false ext1 _ ?side1 ?side2 HTO1.out).mono ?_)
  (case side1 => exact zs HR1 HB)
  (case side2 => exact HC1.out)
  rintro e w_25 ⟨Ao27, no28, co29, rfl, hn, ho, hb⟩
  obtain rfl : no28 = xs1.length := hn.full HXL1.out HNE1.out
  clear hn
  have ho1 := jA (Kd.R_lower (R_span ho) (Nat.le_trans HB.out.size (zy : Below w_23.heap.size w_23 _).size))
  clear ho
  have HBi := jA (jJ (zy) hb : Below w_23.heap.size w_23 w_25)
  clear hb
  have HBn := jA (jJ HB.out HBi.out)
  clear HB
  have HB := HBn
  clear HBn
  have HS30 := jA HBi.out.size
  have n0_ := jA (jS BK2.out HBi.out)
  clear BK2
  have BK2 := n0_
  clear n0_
  have n0_ := jA (ji HO16.out HBi.out)
  clear HO16
  have HO16 := n0_
  clear n0_
  clear HBi
  have HWw_25 := jA HB.out.size
  have HO26 := jA (Kd.R_mono (ok' := fun k_ => w_23.heap.size ≤ k_ ∧ k_ < w_25.heap.size) ho1.out (fun k_ hk_ => hk_))
  clear ho1
  have hczgb1_0 : w_25.cell? ⟨gb1, 0, none⟩ = some (.bool a0_0) := (jC BK2.out 0).trans rfl
  have hfzgb1_0 := jB BK2.out 0
  have hczgb1_1 : w_25.cell? ⟨gb1, 1, none⟩ = some (.bool a0_1) := (jC BK2.out 1).trans rfl
  have hfzgb1_1 := jB BK2.out 1
  have hczgb1_2 : w_25.cell? ⟨gb1, 2, none⟩ = some (.bool a0_2) := (jC BK2.out 2).trans rfl
  have hfzgb1_2 := jB BK2.out 2
  have hczgb1_3 : w_25.cell? ⟨gb1, 3, none⟩ = some (.bool a0_3) := (jC BK2.out 3).trans rfl
  have hfzgb1_3 := jB BK2.out 3
  have hczgb1_4 : w_25.cell? ⟨gb1, 4, none⟩ = some (.bool a0_4) := (jC BK2.out 4).trans rfl
  have hfzgb1_4 := jB BK2.out 4
  have hczgb1_5 : w_25.cell? ⟨gb1, 5, none⟩ = some (.int .i64 a0_5) := (jC BK2.out 5).trans rfl
  have hfzgb1_5 := jB BK2.out 5
  go_wp2_with (fail)
  clear hczgb1_0 hfzgb1_0 hczgb1_1 hfzgb1_1 hczgb1_2 hfzgb1_2 hczgb1_3 hfzgb1_3 hczgb1_4 hfzgb1_4 hczgb1_5 hfzgb1_5
  go_at_call 43
  (with_reducible refine (laws_intactInt64SX.calls k _ _ ext1 _ _ ext1 xs1.length rm1 true _ ?side1 ?side2 ?side3 ?side4 HRM1.out HJ1.out rfl HEQX1.out).mono ?_)
  (case side1 => repeat (first | exact (je HO16.out).2.2 | (with_reducible refine Kd.C_alloc ?_ _) | (with_reducible refine Kd.C_drewN ?_ _) | (with_reducible refine Kd.C_drew ?_)))
  (case side2 => exact (je HO16.out).2.1)
  (case side3 => repeat (first | exact (je HO26.out).2.2 | (with_reducible refine Kd.C_alloc ?_ _) | (with_reducible refine Kd.C_drewN ?_ _) | (with_reducible refine Kd.C_drew ?_)))
  (case side4 => exact (je HO26.out).2.1)
  rintro e w_31 ⟨rfl, hb⟩
  have HBi := jA (jJ (zy) hb : Below w_25.heap.size w_25 w_31)
  clear hb
  have HBn := jA (jJ HB.out HBi.out)
  clear HB
  have HB := HBn
  clear HBn
  have HS32 := jA HBi.out.size
  have n0_ := jA (jS BK2.out HBi.out)
  clear BK2
  have BK2 := n0_
  clear n0_
  have n0_ := jA (ji HO16.out HBi.out)
  clear HO16
  have HO16 := n0_
  clear n0_
  have n0_ := jA (ji HO26.out HBi.out)
  clear HO26
  have HO26 := n0_
  clear n0_
  clear HBi
  have HWw_31 := jA HB.out.size
  clear HO26
  have hczgb1_0 : w_31.cell? ⟨gb1, 0, none⟩ = some (.bool a0_0) := (jC BK2.out 0).trans rfl
  have hfzgb1_0 := jB BK2.out 0
  have hczgb1_1 : w_31.cell? ⟨gb1, 1, none⟩ = some (.bool a0_1) := (jC BK2.out 1).trans rfl
  have hfzgb1_1 := jB BK2.out 1
  have hczgb1_2 : w_31.cell? ⟨gb1, 2, none⟩ = some (.bool a0_2) := (jC BK2.out 2).trans rfl
  have hfzgb1_2 := jB BK2.out 2
  have hczgb1_3 : w_31.cell? ⟨gb1, 3, none⟩ = some (.bool a0_3) := (jC BK2.out 3).trans rfl
  have hfzgb1_3 := jB BK2.out 3
  have hczgb1_4 : w_31.cell? ⟨gb1, 4, none⟩ = some (.bool a0_4) := (jC BK2.out 4).trans rfl
  have hfzgb1_4 := jB BK2.out 4
  have hczgb1_5 : w_31.cell? ⟨gb1, 5, none⟩ = some (.int .i64 a0_5) := (jC BK2.out 5).trans rfl
  have hfzgb1_5 := jB BK2.out 5
  go_wp2_with (fail)
  clear hczgb1_0 hfzgb1_0 hczgb1_1 hfzgb1_1 hczgb1_2 hfzgb1_2 hczgb1_3 hfzgb1_3 hczgb1_4 hfzgb1_4 hczgb1_5 hfzgb1_5
  go_at_call 17
  (with_reducible refine (laws_toController.calls a0_0 a0_1 a0_2 a0_3 a0_4 a0_5 a0_0 a0_1 a0_2 a0_3 a0_4 a0_5 _ HVaC.out).mono ?_)
  rintro e w_33 ⟨rfl, hb⟩
  have HBi := jA (jJ (zy) hb : Below w_31.heap.size w_31 w_33)
  clear hb
  have HBn := jA (jJ HB.out HBi.out)
  clear HB
  have HB := HBn
  clear HBn
  have HS34 := jA HBi.out.size
  have n0_ := jA (jS BK2.out HBi.out)
  clear BK2
  have BK2 := n0_
  clear n0_
  have n0_ := jA (ji HO16.out HBi.out)
  clear HO16
  have HO16 := n0_
  clear n0_
  clear HBi
  have HWw_33 := jA HB.out.size
  have hczgb1_0 : w_33.cell? ⟨gb1, 0, none⟩ = some (.bool a0_0) := (jC BK2.out 0).trans rfl
  have hfzgb1_0 := jB BK2.out 0
  have hczgb1_1 : w_33.cell? ⟨gb1, 1, none⟩ = some (.bool a0_1) := (jC BK2.out 1).trans rfl
  have hfzgb1_1 := jB BK2.out 1
  have hczgb1_2 : w_33.cell? ⟨gb1, 2, none⟩ = some (.bool a0_2) := (jC BK2.out 2).trans rfl
  have hfzgb1_2 := jB BK2.out 2
  have hczgb1_3 : w_33.cell? ⟨gb1, 3, none⟩ = some (.bool a0_3) := (jC BK2.out 3).trans rfl
  have hfzgb1_3 := jB BK2.out 3
  have hczgb1_4 : w_33.cell? ⟨gb1, 4, none⟩ = some (.bool a0_4) := (jC BK2.out 4).trans rfl
  have hfzgb1_4 := jB BK2.out 4
  have hczgb1_5 : w_33.cell? ⟨gb1, 5, none⟩ = some (.int .i64 a0_5) := (jC BK2.out 5).trans rfl
  have hfzgb1_5 := jB BK2.out 5
  go_wp2_with (fail)
  clear hczgb1_0 hfzgb1_0 hczgb1_1 hfzgb1_1 hczgb1_2 hfzgb1_2 hczgb1_3 hfzgb1_3 hczgb1_4 hfzgb1_4 hczgb1_5 hfzgb1_5
  go_at_call 42
  (with_reducible refine (laws_toInt64SX.calls k _ _ l1 true extb1 _ ?side1 ?side2 HTOB1.out).mono ?_)
  (case side1 => exact zs HR1 HB)
  (case side2 => exact HC1.out)
  rintro e w_35 ⟨Ao37, no38, co39, rfl, hn, ho, hb⟩
  obtain rfl : no38 = xs1.length := hn.bare HXL1.out HNB1.out
  clear hn
  have ho1 := jA (Kd.R_lower (R_span ho) (Nat.le_trans HB.out.size (zy : Below w_33.heap.size w_33 _).size))
  clear ho
  have HBi := jA (jJ (zy) hb : Below w_33.heap.size w_33 w_35)
  clear hb
  have HBn := jA (jJ HB.out HBi.out)
  clear HB
  have HB := HBn
  clear HBn
  have HS40 := jA HBi.out.size
  have n0_ := jA (jS BK2.out HBi.out)
  clear BK2
  have BK2 := n0_
  clear n0_
  have n0_ := jA (ji HO16.out HBi.out)
  clear HO16
  have HO16 := n0_
  clear n0_
  clear HBi
  have HWw_35 := jA HB.out.size
  have HO36 := jA (Kd.R_mono (ok' := fun k_ => w_33.heap.size ≤ k_ ∧ k_ < w_35.heap.size) ho1.out (fun k_ hk_ => hk_))
  clear ho1
  have hczgb1_0 : w_35.cell? ⟨gb1, 0, none⟩ = some (.bool a0_0) := (jC BK2.out 0).trans rfl
  have hfzgb1_0 := jB BK2.out 0
  have hczgb1_1 : w_35.cell? ⟨gb1, 1, none⟩ = some (.bool a0_1) := (jC BK2.out 1).trans rfl
  have hfzgb1_1 := jB BK2.out 1
  have hczgb1_2 : w_35.cell? ⟨gb1, 2, none⟩ = some (.bool a0_2) := (jC BK2.out 2).trans rfl
  have hfzgb1_2 := jB BK2.out 2
  have hczgb1_3 : w_35.cell? ⟨gb1, 3, none⟩ = some (.bool a0_3) := (jC BK2.out 3).trans rfl
  have hfzgb1_3 := jB BK2.out 3
  have hczgb1_4 : w_35.cell? ⟨gb1, 4, none⟩ = some (.bool a0_4) := (jC BK2.out 4).trans rfl
  have hfzgb1_4 := jB BK2.out 4
  have hczgb1_5 : w_35.cell? ⟨gb1, 5, none⟩ = some (.int .i64 a0_5) := (jC BK2.out 5).trans rfl
  have hfzgb1_5 := jB BK2.out 5
  go_wp2_with (fail)
  clear hczgb1_0 hfzgb1_0 hczgb1_1 hfzgb1_1 hczgb1_2 hfzgb1_2 hczgb1_3 hfzgb1_3 hczgb1_4 hfzgb1_4 hczgb1_5 hfzgb1_5
  go_at_call 37
  (with_reducible refine (impl_CanFire.calls k a0_0 a0_1 a0_2 a0_3 a0_4 a0_5 _ _ xs1 res_r1 res_r2 _ ?side1 ?side2 HFimpl.out).mono ?_)
  (case side1 => repeat (first | exact C_ext (je HO36.out).2.2 HXB1.out HLB1.out | (with_reducible refine Kd.C_alloc ?_ _) | (with_reducible refine Kd.C_drewN ?_ _) | (with_reducible refine Kd.C_drew ?_)))
  (case side2 => exact Nat.le_trans HLB1.out (je HO36.out).2.1)
  rintro e w_41 ⟨rfl, hb⟩
  have HBi := jA (jJ (zy) hb : Below w_35.heap.size w_35 w_41)
  clear hb
  have HBn := jA (jJ HB.out HBi.out)
  clear HB
  have HB := HBn
  clear HBn
  have HS42 := jA HBi.out.size
  have n0_ := jA (jS BK2.out HBi.out)
  clear BK2
  have BK2 := n0_
  clear n0_
  have n0_ := jA (ji HO16.out HBi.out)
  clear HO16
  have HO16 := n0_
  clear n0_
  have n0_ := jA (ji HO36.out HBi.out)
  clear HO36
  have HO36 := n0_
  clear n0_
  clear HBi
  have HWw_41 := jA HB.out.size
  clear HO36
  go_wp2
  go_ret
  exact ⟨by first | rfl | (simp; done) | (simp [*]; done), zb0 HB⟩

/-- What is to be told of the answers, for the law to tell true. -/
structure laws_FnExactCanFire.Facts (k : Nat) (a0_0 : Bool) (a0_1 : Bool) (a0_2 : Bool) (a0_3 : Bool) (a0_4 : Bool) (a0_5 : Int) (l1 : List Int) (xs1 : List Int) (ext1 : List Int) (extb1 : List Int) (rm1 : Int) (res_r1 : Bool) (res_r2 : Int) : Prop where
  hto1 : laws_toInt64SX.f k l1 false = some ext1
  htob1 : laws_toInt64SX.f k l1 true = some extb1
  hxl1 : xs1.length = l1.length
  hnb1 : extb1 = [] → l1.length = 0
  hne1 : ¬ (ext1 = [])
  hxe1 : xs1 = ext1.take xs1.length
  hxb1 : xs1 = extb1.take xs1.length
  hle1 : xs1.length ≤ ext1.length
  hlb1 : xs1.length ≤ extb1.length
  hrm1 : laws_roomBehind.f (xs1.length : Int) = some rm1
  hj1 : wrap64 ((xs1.length : Int) + rm1) = (ext1.length : Int)
  heqx1 : laws_eqInt64S.f k ext1 ext1 = some true
  hg_l1 : l1.length ≤ 1000000
  hfspec : spec_CanFire.f k a0_0 a0_1 a0_2 a0_3 a0_4 a0_5 xs1 = some (res_r1, res_r2)
  hvac : laws_toController.f a0_0 a0_1 a0_2 a0_3 a0_4 a0_5 = some (a0_0, a0_1, a0_2, a0_3, a0_4, a0_5)
  hfimpl : impl_CanFire.f k a0_0 a0_1 a0_2 a0_3 a0_4 a0_5 xs1 = some (res_r1, res_r2)
/-- The statement over numbers and lists. -/
def laws_FnExactCanFire.Pure : Prop := ∀ (a0_0 : Bool) (a0_1 : Bool) (a0_2 : Bool) (a0_3 : Bool) (a0_4 : Bool) (a0_5 : Int) (l1 : List Int), (l1.length ≤ 9223372036854775807) → ((Lit.int .i64 a0_5).wf = true) → 
    (1000000 < l1.length) ∨
    (∃ k xs1 ext1 extb1 rm1 res_r1 res_r2, laws_FnExactCanFire.Facts k a0_0 a0_1 a0_2 a0_3 a0_4 a0_5 l1 xs1 ext1 extb1 rm1 res_r1 res_r2)

theorem laws_FnExactCanFire.walk (P_ : laws_FnExactCanFire.Pure) (a0_0 : Bool) (a0_1 : Bool) (a0_2 : Bool) (a0_3 : Bool) (a0_4 : Bool) (a0_5 : Int) (A1 : Option Addr) (c1 : Nat) (l1 : List Int) (w : World) (hr1 : Kd.C (Kd.int .i64) w A1 l1.length l1) (hc1 : l1.length ≤ c1) (wa0_5 : (Lit.int .i64 a0_5).wf = true) :
    Calls Try.prog 11 #[.agg #[.bool a0_0, .bool a0_1, .bool a0_2, .bool a0_3, .bool a0_4, .int .i64 a0_5], .slice A1 l1.length c1] w fun e w' => e = .returned (.bool true) ∧ Below w.heap.size w w' := by
  rcases P_ a0_0 a0_1 a0_2 a0_3 a0_4 a0_5 l1 (Kd.C_max hr1) wa0_5 with h0_ | ⟨k, xs1, ext1, extb1, rm1, res_r1, res_r2, F⟩
  · exact laws_FnExactCanFire.skip1_ a0_0 a0_1 a0_2 a0_3 a0_4 a0_5 _ _ l1 w hr1 hc1 h0_
  · exact laws_FnExactCanFire.true_ k a0_0 a0_1 a0_2 a0_3 a0_4 a0_5 _ _ l1 w hr1 hc1 xs1 ext1 extb1 rm1 res_r1 res_r2 F.hto1 F.htob1 F.hxl1 F.hnb1 F.hne1 F.hxe1 F.hxb1 F.hle1 F.hlb1 F.hrm1 F.hj1 F.heqx1 F.hg_l1 F.hfspec F.hvac F.hfimpl

end Go.Proofs.Ythieppjmjgijfaa.PFnExactCanFire
