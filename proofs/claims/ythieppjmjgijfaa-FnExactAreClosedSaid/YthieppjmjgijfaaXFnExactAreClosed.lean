/- FnExactAreClosed: the parts of the law that look behind a row's length, and the law's walk: with the answers that the functions give, it tells true. -/
import Derived.Test.YthieppjmjgijfaaQFnExactAreClosedx9
namespace Go.Proofs.Ythieppjmjgijfaa.PFnExactAreClosed
open Go.RowKit Go.Proofs.YthieppjmjgijfaaW.PrintWords Go.Proofs.YthieppjmjgijfaaW.PrintLast Go.Proofs.YthieppjmjgijfaaW.PrintMore
attribute [local go_sem] max2_int min2_int max_two min_two max_three min_three max_four min_four   -- for this text's walks alone
set_option linter.unusedVariables false
set_option linter.unusedSimpArgs false
open Go.Proofs.YthieppjmjgijfaaX

theorem zy {p : Prop} (h : p := by repeat (first | (with_reducible first | exact Below.refl _ _ | apply below_alloc | apply pw_below_drewN | apply below_drew1) | exact Below.refl _ _)) : p := h

/-! ### laws_intactInt64S, over rows with what lies behind their lengths: function 43 -/
set_option maxHeartbeats 8000000 in
set_option maxRecDepth 100000 in
theorem laws_intactInt64SX.calls (k : Nat) (A0 : Option Addr) (c0 : Nat) (l0 : List Int) (A1 : Option Addr) (c1 : Nat) (l1 : List Int) (n0 : Nat) (rm : Int) (r : Bool) (w : World) (hr0 : Kd.C (Kd.int .i64) w A0 l0.length l0) (hc0 : l0.length ≤ c0) (hr1 : Kd.C (Kd.int .i64) w A1 l1.length l1) (hc1 : l1.length ≤ c1) (hrm : laws_roomBehind.f (n0 : Int) = some rm) (hj : wrap64 ((n0 : Int) + rm) = (l0.length : Int)) (hl : l1.length = l0.length) (h : laws_eqInt64S.f k l0 l1 = some r) :
    Calls Try.prog 43 #[.slice A0 n0 c0, .slice A1 n0 c1] w fun e w' => e = .returned (.bool r) ∧ Below w.heap.size w w' := by
  have HR0 := jA hr0
  have HR1 := jA hr1
  have HC0 := jA hc0
  have HC1 := jA hc1
  have HL := jA hl
  clear hr0 hr1 hc0 hc1 hl
  obtain ⟨ji5, hji5⟩ : ∃ j_ : Int, j_ = (l0.length : Int) := ⟨_, rfl⟩
  rw [← hji5] at hj
  have HJ := jA hji5
  have hji5w : (IntKind.i64.wrap ((n0 : Int) + rm)) = ji5 := (i64_w _).trans hj
  clear hji5
  have A3 := jA hrm
  have A10 := jA h
  clear hrm h
  obtain ⟨i0, hi0, _, hsz0, _⟩ := info_parts info2
  have hcut0 := cut_cap (P := Try.prog) 35 2 .i64 Try.underlying35 hi0 A0 n0 c0 l0.length ji5 HJ.out HC0.out
  have hcut1 := cut_cap (P := Try.prog) 35 2 .i64 Try.underlying35 hi0 A1 n0 c1 l1.length ji5 (HJ.out.trans (by rw [HL.out])) HC1.out
  clear hi0 hsz0
  go_enter Try.func43, Try.ntmps43
  go_wp2_with (first | (go_at_call 77; (with_reducible refine (laws_roomBehind.calls (n0 : Int) rm _ A3.out).mono ?_); rintro e w' ⟨rfl, ⟨nd, rfl⟩⟩; (try first | exact ⟨rfl, _, World.drewN_drewN _ _ _⟩ | exact ⟨rfl, _, Eq.trans (World.drewN_drewN _ _ _) (congrArg (World.drewN _) (Nat.add_assoc _ _ _))⟩)) | (go_at_call 44; (with_reducible refine (laws_eqInt64S.calls k _ _ l0 _ _ l1 r _ ?side1 ?side2 ?side3 ?side4 A10.out).mono ?_); (case side1 => repeat (first | exact HR0.out | (with_reducible refine Kd.C_alloc ?_ _) | (with_reducible refine Kd.C_drewN ?_ _) | (with_reducible refine Kd.C_drew ?_))); (case side2 => exact HC0.out); (case side3 => repeat (first | exact HR1.out | (with_reducible refine Kd.C_alloc ?_ _) | (with_reducible refine Kd.C_drewN ?_ _) | (with_reducible refine Kd.C_drew ?_))); (case side4 => exact HC1.out); rintro e w' ⟨rfl, ⟨nd, rfl⟩⟩; (try first | exact ⟨rfl, _, World.drewN_drewN _ _ _⟩ | exact ⟨rfl, _, Eq.trans (World.drewN_drewN _ _ _) (congrArg (World.drewN _) (Nat.add_assoc _ _ _))⟩)))
  repeat (go_quiet (first | (go_at_call 77; (with_reducible refine (laws_roomBehind.calls (n0 : Int) rm _ A3.out).mono ?_); rintro e w' ⟨rfl, ⟨nd, rfl⟩⟩; (try first | exact ⟨rfl, _, World.drewN_drewN _ _ _⟩ | exact ⟨rfl, _, Eq.trans (World.drewN_drewN _ _ _) (congrArg (World.drewN _) (Nat.add_assoc _ _ _))⟩)) | (go_at_call 44; (with_reducible refine (laws_eqInt64S.calls k _ _ l0 _ _ l1 r _ ?side1 ?side2 ?side3 ?side4 A10.out).mono ?_); (case side1 => repeat (first | exact HR0.out | (with_reducible refine Kd.C_alloc ?_ _) | (with_reducible refine Kd.C_drewN ?_ _) | (with_reducible refine Kd.C_drew ?_))); (case side2 => exact HC0.out); (case side3 => repeat (first | exact HR1.out | (with_reducible refine Kd.C_alloc ?_ _) | (with_reducible refine Kd.C_drewN ?_ _) | (with_reducible refine Kd.C_drew ?_))); (case side4 => exact HC1.out); rintro e w' ⟨rfl, ⟨nd, rfl⟩⟩; (try first | exact ⟨rfl, _, World.drewN_drewN _ _ _⟩ | exact ⟨rfl, _, Eq.trans (World.drewN_drewN _ _ _) (congrArg (World.drewN _) (Nat.add_assoc _ _ _))⟩))); try go_wp2_with (first | (go_at_call 77; (with_reducible refine (laws_roomBehind.calls (n0 : Int) rm _ A3.out).mono ?_); rintro e w' ⟨rfl, ⟨nd, rfl⟩⟩; (try first | exact ⟨rfl, _, World.drewN_drewN _ _ _⟩ | exact ⟨rfl, _, Eq.trans (World.drewN_drewN _ _ _) (congrArg (World.drewN _) (Nat.add_assoc _ _ _))⟩)) | (go_at_call 44; (with_reducible refine (laws_eqInt64S.calls k _ _ l0 _ _ l1 r _ ?side1 ?side2 ?side3 ?side4 A10.out).mono ?_); (case side1 => repeat (first | exact HR0.out | (with_reducible refine Kd.C_alloc ?_ _) | (with_reducible refine Kd.C_drewN ?_ _) | (with_reducible refine Kd.C_drew ?_))); (case side2 => exact HC0.out); (case side3 => repeat (first | exact HR1.out | (with_reducible refine Kd.C_alloc ?_ _) | (with_reducible refine Kd.C_drewN ?_ _) | (with_reducible refine Kd.C_drew ?_))); (case side4 => exact HC1.out); rintro e w' ⟨rfl, ⟨nd, rfl⟩⟩; (try first | exact ⟨rfl, _, World.drewN_drewN _ _ _⟩ | exact ⟨rfl, _, Eq.trans (World.drewN_drewN _ _ _) (congrArg (World.drewN _) (Nat.add_assoc _ _ _))⟩))))
  go_ret
  exact ⟨by first | rfl | (simp; done) | (simp [*]; done), zy⟩

/-! ### the law: function 7 -/
set_option maxHeartbeats 8000000 in
set_option maxRecDepth 100000 in
theorem laws_FnExactAreClosed.skip1_ (A0 : Option Addr) (c0 : Nat) (l0 : List Int) (A1 : Option Addr) (c1 : Nat) (l1 : List Int) (w : World) (hr0 : Kd.C (Kd.int .i64) w A0 l0.length l0) (hc0 : l0.length ≤ c0) (hr1 : Kd.C (Kd.int .i64) w A1 l1.length l1) (hc1 : l1.length ≤ c1) (hn_ : 1000000 < wrap64 ((l0.length : Int) + (l1.length : Int))) :
    Calls Try.prog 7 #[.slice A0 l0.length c0, .slice A1 l1.length c1] w fun e w' => e = .returned (.bool true) ∧ Below w.heap.size w w' := by
  have HR0 := jA hr0
  have HC0 := jA hc0
  have HR1 := jA hr1
  have HC1 := jA hc1
  clear hr0 hc0 hr1 hc1
  have HN := jA hn_
  clear hn_
  have HB := jA (Below.refl w.heap.size w)
  go_enter Try.func7, Try.ntmps7
  have hn_ : decide (1000000 < wrap64 ((l0.length : Int) + (l1.length : Int))) = true := jP (by have := HN.out; omega)
  go_wp2
  go_ret
  exact ⟨by first | rfl | (simp; done) | (simp [*]; done), zb0 HB⟩
set_option maxHeartbeats 8000000 in
set_option maxRecDepth 100000 in
theorem laws_FnExactAreClosed.true_ (k : Nat) (A0 : Option Addr) (c0 : Nat) (l0 : List Int) (A1 : Option Addr) (c1 : Nat) (l1 : List Int) (w : World) (hr0 : Kd.C (Kd.int .i64) w A0 l0.length l0) (hc0 : l0.length ≤ c0) (hr1 : Kd.C (Kd.int .i64) w A1 l1.length l1) (hc1 : l1.length ≤ c1) (xs0 ext0 extb0 : List Int) (rm0 : Int) (xs1 ext1 extb1 : List Int) (rm1 : Int) (res_r1 : Bool) (res_r2 : Int) (hto0_ : laws_toInt64SX.f k l0 false = some ext0) (htob0_ : laws_toInt64SX.f k l0 true = some extb0) (hxl0_ : xs0.length = l0.length) (hnb0_ : extb0 = [] → l0.length = 0) (hne0_ : ¬ (ext0 = [])) (hxe0_ : xs0 = ext0.take xs0.length) (hxb0_ : xs0 = extb0.take xs0.length) (hle0_ : xs0.length ≤ ext0.length) (hlb0_ : xs0.length ≤ extb0.length) (hrm0_ : laws_roomBehind.f (xs0.length : Int) = some rm0) (hj0_ : wrap64 ((xs0.length : Int) + rm0) = (ext0.length : Int)) (heqx0_ : laws_eqInt64S.f k ext0 ext0 = some true) (hto1_ : laws_toInt64SX.f k l1 false = some ext1) (htob1_ : laws_toInt64SX.f k l1 true = some extb1) (hxl1_ : xs1.length = l1.length) (hnb1_ : extb1 = [] → l1.length = 0) (hne1_ : ¬ (ext1 = [])) (hxe1_ : xs1 = ext1.take xs1.length) (hxb1_ : xs1 = extb1.take xs1.length) (hle1_ : xs1.length ≤ ext1.length) (hlb1_ : xs1.length ≤ extb1.length) (hrm1_ : laws_roomBehind.f (xs1.length : Int) = some rm1) (hj1_ : wrap64 ((xs1.length : Int) + rm1) = (ext1.length : Int)) (heqx1_ : laws_eqInt64S.f k ext1 ext1 = some true) (hg_l0_l1_ : wrap64 ((l0.length : Int) + (l1.length : Int)) ≤ 1000000) (hfspec_ : spec_AreClosed.f k xs0 xs1 = some (res_r1, res_r2)) (hfimpl_ : impl_AreClosed.f k xs0 xs1 = some (res_r1, res_r2)) :
    Calls Try.prog 7 #[.slice A0 l0.length c0, .slice A1 l1.length c1] w fun e w' => e = .returned (.bool true) ∧ Below w.heap.size w w' := by
  have HR0 := jA hr0
  have HC0 := jA hc0
  have HR1 := jA hr1
  have HC1 := jA hc1
  clear hr0 hc0 hr1 hc1
  have HTO0 := jA hto0_
  have HTOB0 := jA htob0_
  have HXL0 := jA hxl0_
  have HNB0 := jA hnb0_
  have HNE0 := jA hne0_
  have HXE0 := jA hxe0_
  have HXB0 := jA hxb0_
  have HLE0 := jA hle0_
  have HLB0 := jA hlb0_
  have HRM0 := jA hrm0_
  have HJ0 := jA hj0_
  have HEQX0 := jA heqx0_
  have HTO1 := jA hto1_
  have HTOB1 := jA htob1_
  have HXL1 := jA hxl1_
  have HNB1 := jA hnb1_
  have HNE1 := jA hne1_
  have HXE1 := jA hxe1_
  have HXB1 := jA hxb1_
  have HLE1 := jA hle1_
  have HLB1 := jA hlb1_
  have HRM1 := jA hrm1_
  have HJ1 := jA hj1_
  have HEQX1 := jA heqx1_
  have HG_l0_l1 := jA hg_l0_l1_
  have HFspec := jA hfspec_
  have HFimpl := jA hfimpl_
  clear hto0_ htob0_ hxl0_ hnb0_ hne0_ hxe0_ hxb0_ hle0_ hlb0_ hrm0_ hj0_ heqx0_ hto1_ htob1_ hxl1_ hnb1_ hne1_ hxe1_ hxb1_ hle1_ hlb1_ hrm1_ hj1_ heqx1_ hg_l0_l1_ hfspec_ hfimpl_
  have HB := jA (Below.refl w.heap.size w)
  go_enter Try.func7, Try.ntmps7
  have hn_ : decide (1000000 < wrap64 ((l0.length : Int) + (l1.length : Int))) = false := jd (by have := HG_l0_l1.out; omega)
  go_wp2_with (fail)
  clear hn_
  go_wp2_with (fail)
  go_at_call 42
  (with_reducible refine (laws_toInt64SX.calls k _ _ l0 false ext0 _ ?side1 ?side2 HTO0.out).mono ?_)
  (case side1 => exact zs HR0 HB)
  (case side2 => exact HC0.out)
  rintro e w_1 ⟨Ao3, no4, co5, rfl, hn, ho, hb⟩
  obtain rfl : no4 = xs0.length := hn.full HXL0.out HNE0.out
  clear hn
  have ho1 := jA (Kd.R_lower (R_span ho) (Nat.le_trans HB.out.size (zy : Below w.heap.size w _).size))
  clear ho
  have HBi := jA (jK (zy) hb : Below w.heap.size w w_1)
  clear hb
  have HBn := jA (jK HB.out HBi.out)
  clear HB
  have HB := HBn
  clear HBn
  have HS6 := jA HBi.out.size
  clear HBi
  have HO2 := jA (Kd.R_mono (ok' := fun k_ => w.heap.size ≤ k_ ∧ k_ < w_1.heap.size) ho1.out (fun k_ hk_ => hk_))
  clear ho1
  go_wp2_with (fail)
  go_at_call 42
  (with_reducible refine (laws_toInt64SX.calls k _ _ l1 false ext1 _ ?side1 ?side2 HTO1.out).mono ?_)
  (case side1 => exact zs HR1 HB)
  (case side2 => exact HC1.out)
  rintro e w_7 ⟨Ao9, no10, co11, rfl, hn, ho, hb⟩
  obtain rfl : no10 = xs1.length := hn.full HXL1.out HNE1.out
  clear hn
  have ho1 := jA (Kd.R_lower (R_span ho) (Nat.le_trans HB.out.size (zy : Below w_1.heap.size w_1 _).size))
  clear ho
  have HBi := jA (jK (zy) hb : Below w_1.heap.size w_1 w_7)
  clear hb
  have HBn := jA (jK HB.out HBi.out)
  clear HB
  have HB := HBn
  clear HBn
  have HS12 := jA HBi.out.size
  have n0_ := jA (Kd.R_below HO2.out HBi.out)
  clear HO2
  have HO2 := n0_
  clear n0_
  clear HBi
  have HO8 := jA (Kd.R_mono (ok' := fun k_ => w_1.heap.size ≤ k_ ∧ k_ < w_7.heap.size) ho1.out (fun k_ hk_ => hk_))
  clear ho1
  go_wp2_with (fail)
  go_at_call 24
  (with_reducible refine (spec_AreClosed.calls k _ _ xs0 _ _ xs1 res_r1 res_r2 _ ?side1 ?side2 ?side3 ?side4 HFspec.out).mono ?_)
  (case side1 => repeat (first | exact C_ext (Kd.R_reads' HO2.out).2.2 HXE0.out HLE0.out | (with_reducible refine Kd.C_alloc ?_ _) | (with_reducible refine Kd.C_drewN ?_ _) | (with_reducible refine Kd.C_drew ?_)))
  (case side2 => exact Nat.le_trans HLE0.out (Kd.R_reads' HO2.out).2.1)
  (case side3 => repeat (first | exact C_ext (Kd.R_reads' HO8.out).2.2 HXE1.out HLE1.out | (with_reducible refine Kd.C_alloc ?_ _) | (with_reducible refine Kd.C_drewN ?_ _) | (with_reducible refine Kd.C_drew ?_)))
  (case side4 => exact Nat.le_trans HLE1.out (Kd.R_reads' HO8.out).2.1)
  rintro e w_13 ⟨rfl, hb⟩
  have HBi := jA (jK (zy) hb : Below w_7.heap.size w_7 w_13)
  clear hb
  have HBn := jA (jK HB.out HBi.out)
  clear HB
  have HB := HBn
  clear HBn
  have HS14 := jA HBi.out.size
  have n0_ := jA (Kd.R_below HO2.out HBi.out)
  clear HO2
  have HO2 := n0_
  clear n0_
  have n0_ := jA (Kd.R_below HO8.out HBi.out)
  clear HO8
  have HO8 := n0_
  clear n0_
  clear HBi
  clear HO2
  clear HO8
  go_wp2_with (fail)
  go_at_call 42
  (with_reducible refine (laws_toInt64SX.calls k _ _ l0 false ext0 _ ?side1 ?side2 HTO0.out).mono ?_)
  (case side1 => exact zs HR0 HB)
  (case side2 => exact HC0.out)
  rintro e w_15 ⟨Ao17, no18, co19, rfl, hn, ho, hb⟩
  obtain rfl : no18 = xs0.length := hn.full HXL0.out HNE0.out
  clear hn
  have ho1 := jA (Kd.R_lower (R_span ho) (Nat.le_trans HB.out.size (zy : Below w_13.heap.size w_13 _).size))
  clear ho
  have HBi := jA (jK (zy) hb : Below w_13.heap.size w_13 w_15)
  clear hb
  have HBn := jA (jK HB.out HBi.out)
  clear HB
  have HB := HBn
  clear HBn
  have HS20 := jA HBi.out.size
  clear HBi
  have HO16 := jA (Kd.R_mono (ok' := fun k_ => w_13.heap.size ≤ k_ ∧ k_ < w_15.heap.size) ho1.out (fun k_ hk_ => hk_))
  clear ho1
  go_wp2_with (fail)
  go_at_call 42
  (with_reducible refine (laws_toInt64SX.calls k _ _ l1 false ext1 _ ?side1 ?side2 HTO1.out).mono ?_)
  (case side1 => exact zs HR1 HB)
  (case side2 => exact HC1.out)
  rintro e w_21 ⟨Ao23, no24, co25, rfl, hn, ho, hb⟩
  obtain rfl : no24 = xs1.length := hn.full HXL1.out HNE1.out
  clear hn
  have ho1 := jA (Kd.R_lower (R_span ho) (Nat.le_trans HB.out.size (zy : Below w_15.heap.size w_15 _).size))
  clear ho
  have HBi := jA (jK (zy) hb : Below w_15.heap.size w_15 w_21)
  clear hb
  have HBn := jA (jK HB.out HBi.out)
  clear HB
  have HB := HBn
  clear HBn
  have HS26 := jA HBi.out.size
  have n0_ := jA (Kd.R_below HO16.out HBi.out)
  clear HO16
  have HO16 := n0_
  clear n0_
  clear HBi
  have HO22 := jA (Kd.R_mono (ok' := fun k_ => w_15.heap.size ≤ k_ ∧ k_ < w_21.heap.size) ho1.out (fun k_ hk_ => hk_))
  clear ho1
  go_wp2_with (fail)
  go_at_call 23
  (with_reducible refine (impl_AreClosed.calls k _ _ xs0 _ _ xs1 res_r1 res_r2 _ ?side1 ?side2 ?side3 ?side4 HFimpl.out).mono ?_)
  (case side1 => repeat (first | exact C_ext (Kd.R_reads' HO16.out).2.2 HXE0.out HLE0.out | (with_reducible refine Kd.C_alloc ?_ _) | (with_reducible refine Kd.C_drewN ?_ _) | (with_reducible refine Kd.C_drew ?_)))
  (case side2 => exact Nat.le_trans HLE0.out (Kd.R_reads' HO16.out).2.1)
  (case side3 => repeat (first | exact C_ext (Kd.R_reads' HO22.out).2.2 HXE1.out HLE1.out | (with_reducible refine Kd.C_alloc ?_ _) | (with_reducible refine Kd.C_drewN ?_ _) | (with_reducible refine Kd.C_drew ?_)))
  (case side4 => exact Nat.le_trans HLE1.out (Kd.R_reads' HO22.out).2.1)
  rintro e w_27 ⟨rfl, hb⟩
  have HBi := jA (jK (zy) hb : Below w_21.heap.size w_21 w_27)
  clear hb
  have HBn := jA (jK HB.out HBi.out)
  clear HB
  have HB := HBn
  clear HBn
  have HS28 := jA HBi.out.size
  have n0_ := jA (Kd.R_below HO16.out HBi.out)
  clear HO16
  have HO16 := n0_
  clear n0_
  have n0_ := jA (Kd.R_below HO22.out HBi.out)
  clear HO22
  have HO22 := n0_
  clear n0_
  clear HBi
  go_wp2_with (fail)
  go_at_call 42
  (with_reducible refine (laws_toInt64SX.calls k _ _ l0 false ext0 _ ?side1 ?side2 HTO0.out).mono ?_)
  (case side1 => exact zs HR0 HB)
  (case side2 => exact HC0.out)
  rintro e w_29 ⟨Ao31, no32, co33, rfl, hn, ho, hb⟩
  obtain rfl : no32 = xs0.length := hn.full HXL0.out HNE0.out
  clear hn
  have ho1 := jA (Kd.R_lower (R_span ho) (Nat.le_trans HB.out.size (zy : Below w_27.heap.size w_27 _).size))
  clear ho
  have HBi := jA (jK (zy) hb : Below w_27.heap.size w_27 w_29)
  clear hb
  have HBn := jA (jK HB.out HBi.out)
  clear HB
  have HB := HBn
  clear HBn
  have HS34 := jA HBi.out.size
  have n0_ := jA (Kd.R_below HO16.out HBi.out)
  clear HO16
  have HO16 := n0_
  clear n0_
  have n0_ := jA (Kd.R_below HO22.out HBi.out)
  clear HO22
  have HO22 := n0_
  clear n0_
  clear HBi
  have HO30 := jA (Kd.R_mono (ok' := fun k_ => w_27.heap.size ≤ k_ ∧ k_ < w_29.heap.size) ho1.out (fun k_ hk_ => hk_))
  clear ho1
  go_wp2_with (fail)
  go_at_call 43
  (with_reducible refine (laws_intactInt64SX.calls k _ _ ext0 _ _ ext0 xs0.length rm0 true _ ?side1 ?side2 ?side3 ?side4 HRM0.out HJ0.out rfl HEQX0.out).mono ?_)
  (case side1 => repeat (first | exact (Kd.R_reads' HO16.out).2.2 | (with_reducible refine Kd.C_alloc ?_ _) | (with_reducible refine Kd.C_drewN ?_ _) | (with_reducible refine Kd.C_drew ?_)))
  (case side2 => exact (Kd.R_reads' HO16.out).2.1)
  (case side3 => repeat (first | exact (Kd.R_reads' HO30.out).2.2 | (with_reducible refine Kd.C_alloc ?_ _) | (with_reducible refine Kd.C_drewN ?_ _) | (with_reducible refine Kd.C_drew ?_)))
  (case side4 => exact (Kd.R_reads' HO30.out).2.1)
  rintro e w_35 ⟨rfl, hb⟩
  have HBi := jA (jK (zy) hb : Below w_29.heap.size w_29 w_35)
  clear hb
  have HBn := jA (jK HB.out HBi.out)
  clear HB
  have HB := HBn
  clear HBn
  have HS36 := jA HBi.out.size
  have n0_ := jA (Kd.R_below HO16.out HBi.out)
  clear HO16
  have HO16 := n0_
  clear n0_
  have n0_ := jA (Kd.R_below HO22.out HBi.out)
  clear HO22
  have HO22 := n0_
  clear n0_
  have n0_ := jA (Kd.R_below HO30.out HBi.out)
  clear HO30
  have HO30 := n0_
  clear n0_
  clear HBi
  clear HO30
  go_wp2_with (fail)
  go_at_call 42
  (with_reducible refine (laws_toInt64SX.calls k _ _ l1 false ext1 _ ?side1 ?side2 HTO1.out).mono ?_)
  (case side1 => exact zs HR1 HB)
  (case side2 => exact HC1.out)
  rintro e w_37 ⟨Ao39, no40, co41, rfl, hn, ho, hb⟩
  obtain rfl : no40 = xs1.length := hn.full HXL1.out HNE1.out
  clear hn
  have ho1 := jA (Kd.R_lower (R_span ho) (Nat.le_trans HB.out.size (zy : Below w_35.heap.size w_35 _).size))
  clear ho
  have HBi := jA (jK (zy) hb : Below w_35.heap.size w_35 w_37)
  clear hb
  have HBn := jA (jK HB.out HBi.out)
  clear HB
  have HB := HBn
  clear HBn
  have HS42 := jA HBi.out.size
  have n0_ := jA (Kd.R_below HO16.out HBi.out)
  clear HO16
  have HO16 := n0_
  clear n0_
  have n0_ := jA (Kd.R_below HO22.out HBi.out)
  clear HO22
  have HO22 := n0_
  clear n0_
  clear HBi
  have HO38 := jA (Kd.R_mono (ok' := fun k_ => w_35.heap.size ≤ k_ ∧ k_ < w_37.heap.size) ho1.out (fun k_ hk_ => hk_))
  clear ho1
  go_wp2_with (fail)
  go_at_call 43
  (with_reducible refine (laws_intactInt64SX.calls k _ _ ext1 _ _ ext1 xs1.length rm1 true _ ?side1 ?side2 ?side3 ?side4 HRM1.out HJ1.out rfl HEQX1.out).mono ?_)
  (case side1 => repeat (first | exact (Kd.R_reads' HO22.out).2.2 | (with_reducible refine Kd.C_alloc ?_ _) | (with_reducible refine Kd.C_drewN ?_ _) | (with_reducible refine Kd.C_drew ?_)))
  (case side2 => exact (Kd.R_reads' HO22.out).2.1)
  (case side3 => repeat (first | exact (Kd.R_reads' HO38.out).2.2 | (with_reducible refine Kd.C_alloc ?_ _) | (with_reducible refine Kd.C_drewN ?_ _) | (with_reducible refine Kd.C_drew ?_)))
  (case side4 => exact (Kd.R_reads' HO38.out).2.1)
  rintro e w_43 ⟨rfl, hb⟩
  have HBi := jA (jK (zy) hb : Below w_37.heap.size w_37 w_43)
  clear hb
  have HBn := jA (jK HB.out HBi.out)
  clear HB
  have HB := HBn
  clear HBn
  have HS44 := jA HBi.out.size
  have n0_ := jA (Kd.R_below HO16.out HBi.out)
  clear HO16
  have HO16 := n0_
  clear n0_
  have n0_ := jA (Kd.R_below HO22.out HBi.out)
  clear HO22
  have HO22 := n0_
  clear n0_
  have n0_ := jA (Kd.R_below HO38.out HBi.out)
  clear HO38
  have HO38 := n0_
  clear n0_
  clear HBi
  clear HO38
  go_wp2_with (fail)
  go_at_call 42
  (with_reducible refine (laws_toInt64SX.calls k _ _ l0 true extb0 _ ?side1 ?side2 HTOB0.out).mono ?_)
  (case side1 => exact zs HR0 HB)
  (case side2 => exact HC0.out)
  rintro e w_45 ⟨Ao47, no48, co49, rfl, hn, ho, hb⟩
  obtain rfl : no48 = xs0.length := hn.bare HXL0.out HNB0.out
  clear hn
  have ho1 := jA (Kd.R_lower (R_span ho) (Nat.le_trans HB.out.size (zy : Below w_43.heap.size w_43 _).size))
  clear ho
  have HBi := jA (jK (zy) hb : Below w_43.heap.size w_43 w_45)
  clear hb
  have HBn := jA (jK HB.out HBi.out)
  clear HB
  have HB := HBn
  clear HBn
  have HS50 := jA HBi.out.size
  have n0_ := jA (Kd.R_below HO16.out HBi.out)
  clear HO16
  have HO16 := n0_
  clear n0_
  have n0_ := jA (Kd.R_below HO22.out HBi.out)
  clear HO22
  have HO22 := n0_
  clear n0_
  clear HBi
  have HO46 := jA (Kd.R_mono (ok' := fun k_ => w_43.heap.size ≤ k_ ∧ k_ < w_45.heap.size) ho1.out (fun k_ hk_ => hk_))
  clear ho1
  go_wp2_with (fail)
  go_at_call 42
  (with_reducible refine (laws_toInt64SX.calls k _ _ l1 true extb1 _ ?side1 ?side2 HTOB1.out).mono ?_)
  (case side1 => exact zs HR1 HB)
  (case side2 => exact HC1.out)
  rintro e w_51 ⟨Ao53, no54, co55, rfl, hn, ho, hb⟩
  obtain rfl : no54 = xs1.length := hn.bare HXL1.out HNB1.out
  clear hn
  have ho1 := jA (Kd.R_lower (R_span ho) (Nat.le_trans HB.out.size (zy : Below w_45.heap.size w_45 _).size))
  clear ho
  have HBi := jA (jK (zy) hb : Below w_45.heap.size w_45 w_51)
  clear hb
  have HBn := jA (jK HB.out HBi.out)
  clear HB
  have HB := HBn
  clear HBn
  have HS56 := jA HBi.out.size
  have n0_ := jA (Kd.R_below HO16.out HBi.out)
  clear HO16
  have HO16 := n0_
  clear n0_
  have n0_ := jA (Kd.R_below HO22.out HBi.out)
  clear HO22
  have HO22 := n0_
  clear n0_
  have n0_ := jA (Kd.R_below HO46.out HBi.out)
  clear HO46
  have HO46 := n0_
  clear n0_
  clear HBi
  have HO52 := jA (Kd.R_mono (ok' := fun k_ => w_45.heap.size ≤ k_ ∧ k_ < w_51.heap.size) ho1.out (fun k_ hk_ => hk_))
  clear ho1
  go_wp2_with (fail)
  go_at_call 23
  (with_reducible refine (impl_AreClosed.calls k _ _ xs0 _ _ xs1 res_r1 res_r2 _ ?side1 ?side2 ?side3 ?side4 HFimpl.out).mono ?_)
  (case side1 => repeat (first | exact C_ext (Kd.R_reads' HO46.out).2.2 HXB0.out HLB0.out | (with_reducible refine Kd.C_alloc ?_ _) | (with_reducible refine Kd.C_drewN ?_ _) | (with_reducible refine Kd.C_drew ?_)))
  (case side2 => exact Nat.le_trans HLB0.out (Kd.R_reads' HO46.out).2.1)
  (case side3 => repeat (first | exact C_ext (Kd.R_reads' HO52.out).2.2 HXB1.out HLB1.out | (with_reducible refine Kd.C_alloc ?_ _) | (with_reducible refine Kd.C_drewN ?_ _) | (with_reducible refine Kd.C_drew ?_)))
  (case side4 => exact Nat.le_trans HLB1.out (Kd.R_reads' HO52.out).2.1)
  rintro e w_57 ⟨rfl, hb⟩
  have HBi := jA (jK (zy) hb : Below w_51.heap.size w_51 w_57)
  clear hb
  have HBn := jA (jK HB.out HBi.out)
  clear HB
  have HB := HBn
  clear HBn
  have HS58 := jA HBi.out.size
  have n0_ := jA (Kd.R_below HO16.out HBi.out)
  clear HO16
  have HO16 := n0_
  clear n0_
  have n0_ := jA (Kd.R_below HO22.out HBi.out)
  clear HO22
  have HO22 := n0_
  clear n0_
  have n0_ := jA (Kd.R_below HO46.out HBi.out)
  clear HO46
  have HO46 := n0_
  clear n0_
  have n0_ := jA (Kd.R_below HO52.out HBi.out)
  clear HO52
  have HO52 := n0_
  clear n0_
  clear HBi
  clear HO46
  clear HO52
  go_wp2
  go_ret
  exact ⟨by first | rfl | (simp; done) | (simp [*]; done), zb0 HB⟩

/-- What is to be told of the answers, for the law to tell true. -/
structure laws_FnExactAreClosed.Facts (k : Nat) (l0 : List Int) (l1 : List Int) (xs0 : List Int) (ext0 : List Int) (extb0 : List Int) (rm0 : Int) (xs1 : List Int) (ext1 : List Int) (extb1 : List Int) (rm1 : Int) (res_r1 : Bool) (res_r2 : Int) : Prop where
  hto0 : laws_toInt64SX.f k l0 false = some ext0
  htob0 : laws_toInt64SX.f k l0 true = some extb0
  hxl0 : xs0.length = l0.length
  hnb0 : extb0 = [] → l0.length = 0
  hne0 : ¬ (ext0 = [])
  hxe0 : xs0 = ext0.take xs0.length
  hxb0 : xs0 = extb0.take xs0.length
  hle0 : xs0.length ≤ ext0.length
  hlb0 : xs0.length ≤ extb0.length
  hrm0 : laws_roomBehind.f (xs0.length : Int) = some rm0
  hj0 : wrap64 ((xs0.length : Int) + rm0) = (ext0.length : Int)
  heqx0 : laws_eqInt64S.f k ext0 ext0 = some true
  hto1 : laws_toInt64SX.f k l1 false = some ext1
  htob1 : laws_toInt64SX.f k l1 true = some extb1
  hxl1 : xs1.length = l1.length
  hnb1 : extb1 = [] → l1.length = 0
  hne1 : ¬ (ext1 = [])
  hxe1 : xs1 = ext1.take xs1.length
  hxb1 : xs1 = extb1.take xs1.length
  hle1 : xs1.length ≤ ext1.length
  hlb1 : xs1.length ≤ extb1.length
  hrm1 : laws_roomBehind.f (xs1.length : Int) = some rm1
  hj1 : wrap64 ((xs1.length : Int) + rm1) = (ext1.length : Int)
  heqx1 : laws_eqInt64S.f k ext1 ext1 = some true
  hg_l0_l1 : wrap64 ((l0.length : Int) + (l1.length : Int)) ≤ 1000000
  hfspec : spec_AreClosed.f k xs0 xs1 = some (res_r1, res_r2)
  hfimpl : impl_AreClosed.f k xs0 xs1 = some (res_r1, res_r2)
/-- The statement over numbers and lists. -/
def laws_FnExactAreClosed.Pure : Prop := ∀ (l0 : List Int) (l1 : List Int), l0.length ≤ 140737488351232 → l1.length ≤ 140737488351232 → 
    (1000000 < wrap64 ((l0.length : Int) + (l1.length : Int))) ∨
    (∃ k xs0 ext0 extb0 rm0 xs1 ext1 extb1 rm1 res_r1 res_r2, laws_FnExactAreClosed.Facts k l0 l1 xs0 ext0 extb0 rm0 xs1 ext1 extb1 rm1 res_r1 res_r2)

theorem laws_FnExactAreClosed.walk (P_ : laws_FnExactAreClosed.Pure) (A0 : Option Addr) (c0 : Nat) (l0 : List Int) (A1 : Option Addr) (c1 : Nat) (l1 : List Int) (w : World) (hr0 : Kd.C (Kd.int .i64) w A0 l0.length l0) (hc0 : l0.length ≤ c0) (hr1 : Kd.C (Kd.int .i64) w A1 l1.length l1) (hc1 : l1.length ≤ c1) (wl0 : l0.length ≤ 140737488351232) (wl1 : l1.length ≤ 140737488351232) :
    Calls Try.prog 7 #[.slice A0 l0.length c0, .slice A1 l1.length c1] w fun e w' => e = .returned (.bool true) ∧ Below w.heap.size w w' := by
  rcases P_ l0 l1 wl0 wl1 with h0_ | ⟨k, xs0, ext0, extb0, rm0, xs1, ext1, extb1, rm1, res_r1, res_r2, F⟩
  · exact laws_FnExactAreClosed.skip1_ _ _ l0 _ _ l1 w hr0 hc0 hr1 hc1 h0_
  · exact laws_FnExactAreClosed.true_ k _ _ l0 _ _ l1 w hr0 hc0 hr1 hc1 xs0 ext0 extb0 rm0 xs1 ext1 extb1 rm1 res_r1 res_r2 F.hto0 F.htob0 F.hxl0 F.hnb0 F.hne0 F.hxe0 F.hxb0 F.hle0 F.hlb0 F.hrm0 F.hj0 F.heqx0 F.hto1 F.htob1 F.hxl1 F.hnb1 F.hne1 F.hxe1 F.hxb1 F.hle1 F.hlb1 F.hrm1 F.hj1 F.heqx1 F.hg_l0_l1 F.hfspec F.hfimpl

end Go.Proofs.Ythieppjmjgijfaa.PFnExactAreClosed
