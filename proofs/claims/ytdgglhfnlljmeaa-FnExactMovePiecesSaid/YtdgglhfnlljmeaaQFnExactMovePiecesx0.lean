/- Functions and contracts that FnExactMovePieces reaches (1 of 24). -/
import Derived.Test.YtdgglhfnlljmeaaProg
import Derived.Below
import Derived.Deep.Draws
import Derived.Deep.AppendLies
import Derived.Maps.AppendAt
import Derived.OwnWalk
import Derived.Laws.BytesArg
import Derived.Laws.MakeOwn
import Derived.Laws.OwnMore
import Derived.Deep.OwnRows
import Derived.Tactics
import Derived.Lib.ConvBytes
import Derived.Laws.Slices
import Derived.WalkKit
import Derived.KernelRfl
import Derived.RowKit3
import Derived.Deep.LoopGhost
import Derived.Deep.QuietTactic
import Derived.BigQuiet
import Derived.WideLaws
import Derived.Deep.DeepCutAuto
import Derived.Deep.CutBlock
import Derived.Deep.RegionHeld3
import Derived.Laws.Rows
import Derived.Lib.AppendStr
import Derived.ArgAppend
import Derived.Laws.IdiomCopy
import Derived.OrdersHeld
import Derived.Laws.BitsLemmas
import Derived.RowKit
import Derived.Test.YtdgglhfnlljmeaaVFnExactMovePiecesWords
import Derived.Test.YtdgglhfnlljmeaaVFnExactMovePiecesLast
import Derived.Test.YtdgglhfnlljmeaaVFnExactMovePiecesTab
import Derived.Test.YtdgglhfnlljmeaaVFnExactMovePiecesFour
import Derived.Test.YtdgglhfnlljmeaaVFnExactMovePiecesQPut
import Derived.Test.YtdgglhfnlljmeaaVFnExactMovePiecesApart
import Derived.Test.YtdgglhfnlljmeaaVFnExactMovePiecesArr
import Derived.Test.YtdgglhfnlljmeaaVFnExactMovePiecesZeros
import Derived.Test.YtdgglhfnlljmeaaVFnExactMovePiecesFoot
import Derived.Test.YtdgglhfnlljmeaaVFnExactMovePiecesKept
import Derived.Test.YtdgglhfnlljmeaaVFnExactMovePiecesShare
import Derived.Test.YtdgglhfnlljmeaaVFnExactMovePiecesN
import Derived.Test.YtdgglhfnlljmeaaVFnExactMovePiecesFootNe
import Derived.Test.YtdgglhfnlljmeaaVFnExactMovePiecesAt
import Derived.Test.YtdgglhfnlljmeaaVFnExactMovePiecesEqStruct
import Derived.Test.YtdgglhfnlljmeaaVFnExactMovePiecesRepsOne
import Derived.Test.YtdgglhfnlljmeaaVFnExactMovePiecesInv
import Derived.Test.YtdgglhfnlljmeaaVFnExactMovePiecesInvWords
import Derived.Test.YtdgglhfnlljmeaaVFnExactMovePiecesGuard
import Derived.Test.YtdgglhfnlljmeaaVFnExactMovePiecesNEv
import Derived.Test.YtdgglhfnlljmeaaVFnExactMovePiecesMore
import Derived.Laws.Cover1
import Derived.Test.YtdgglhfnlljmeaaVFnExactMovePiecesXWords
namespace Go.Proofs.Ytdgglhfnlljmeaa.PFnExactMovePieces
open Go.RowKit Go.Proofs.YtdgglhfnlljmeaaW.PrintWords Go.Proofs.YtdgglhfnlljmeaaW.PrintLast Go.Proofs.YtdgglhfnlljmeaaW.PrintMore
attribute [local go_sem] max2_int min2_int max_two min_two max_three min_three max_four min_four   -- for this text's walks alone
set_option linter.unusedVariables false
set_option linter.unusedSimpArgs false
def m24_0 : Array Bool := #[false, false, false, false, false, false, false, false, false, false, false, false, false, false, false, false, false, false, false, false, false, false, false, false]
def m18_0 : Array Bool := #[false, false, false, false, false, false, false, false, false, false, false, false, false, false, false, false, false, false]
def m13_0 : Array Bool := #[false, false, false, false, false, false, false, false, false, false, false, false, false]
def m10_0 : Array Bool := #[false, false, false, false, false, false, false, false, false, false]
def m9_0 : Array Bool := #[false, false, false, false, false, false, false, false, false]
def m8_0 : Array Bool := #[false, false, false, false, false, false, false, false]
def m9_80 : Array Bool := #[false, true, false, false, false, false, false, false, false]
def m8_40 : Array Bool := #[false, true, false, false, false, false, false, false]
def m9_c0 : Array Bool := #[false, true, true, false, false, false, false, false, false]
def m8_60 : Array Bool := #[false, true, true, false, false, false, false, false]
def m9_d0 : Array Bool := #[false, true, true, false, true, false, false, false, false]
def m8_68 : Array Bool := #[false, true, true, false, true, false, false, false]
def m9_d8 : Array Bool := #[false, true, true, false, true, true, false, false, false]
def m24_800000 : Array Bool := #[true, false, false, false, false, false, false, false, false, false, false, false, false, false, false, false, false, false, false, false, false, false, false, false]
def m18_20000 : Array Bool := #[true, false, false, false, false, false, false, false, false, false, false, false, false, false, false, false, false, false]
def m13_1000 : Array Bool := #[true, false, false, false, false, false, false, false, false, false, false, false, false]
def m10_200 : Array Bool := #[true, false, false, false, false, false, false, false, false, false]
def m8_80 : Array Bool := #[true, false, false, false, false, false, false, false]
def m13_1200 : Array Bool := #[true, false, false, true, false, false, false, false, false, false, false, false, false]
def m8_a0 : Array Bool := #[true, false, true, false, false, false, false, false]
def m24_c00000 : Array Bool := #[true, true, false, false, false, false, false, false, false, false, false, false, false, false, false, false, false, false, false, false, false, false, false, false]
def m18_30000 : Array Bool := #[true, true, false, false, false, false, false, false, false, false, false, false, false, false, false, false, false, false]
def m10_300 : Array Bool := #[true, true, false, false, false, false, false, false, false, false]
def m13_1a00 : Array Bool := #[true, true, false, true, false, false, false, false, false, false, false, false, false]
def m13_1b00 : Array Bool := #[true, true, false, true, true, false, false, false, false, false, false, false, false]
def m24_e00000 : Array Bool := #[true, true, true, false, false, false, false, false, false, false, false, false, false, false, false, false, false, false, false, false, false, false, false, false]
def m18_38000 : Array Bool := #[true, true, true, false, false, false, false, false, false, false, false, false, false, false, false, false, false, false]
def m10_380 : Array Bool := #[true, true, true, false, false, false, false, false, false, false]
def m8_e0 : Array Bool := #[true, true, true, false, false, false, false, false]
def m10_3a0 : Array Bool := #[true, true, true, false, true, false, false, false, false, false]
def m8_e8 : Array Bool := #[true, true, true, false, true, false, false, false]
def m8_ea : Array Bool := #[true, true, true, false, true, false, true, false]
def m10_3b0 : Array Bool := #[true, true, true, false, true, true, false, false, false, false]
def m9_1d8 : Array Bool := #[true, true, true, false, true, true, false, false, false]
def m9_1da : Array Bool := #[true, true, true, false, true, true, false, true, false]
def m10_3b8 : Array Bool := #[true, true, true, false, true, true, true, false, false, false]
def m24_f00000 : Array Bool := #[true, true, true, true, false, false, false, false, false, false, false, false, false, false, false, false, false, false, false, false, false, false, false, false]
def m18_3c000 : Array Bool := #[true, true, true, true, false, false, false, false, false, false, false, false, false, false, false, false, false, false]
def m8_f0 : Array Bool := #[true, true, true, true, false, false, false, false]
def m8_f2 : Array Bool := #[true, true, true, true, false, false, true, false]
def m24_f80000 : Array Bool := #[true, true, true, true, true, false, false, false, false, false, false, false, false, false, false, false, false, false, false, false, false, false, false, false]
def m18_3e000 : Array Bool := #[true, true, true, true, true, false, false, false, false, false, false, false, false, false, false, false, false, false]
def m13_1f00 : Array Bool := #[true, true, true, true, true, false, false, false, false, false, false, false, false]
def m8_f8 : Array Bool := #[true, true, true, true, true, false, false, false]
def m8_fa : Array Bool := #[true, true, true, true, true, false, true, false]
def m24_fc0000 : Array Bool := #[true, true, true, true, true, true, false, false, false, false, false, false, false, false, false, false, false, false, false, false, false, false, false, false]
def m18_3f000 : Array Bool := #[true, true, true, true, true, true, false, false, false, false, false, false, false, false, false, false, false, false]
def m13_1f80 : Array Bool := #[true, true, true, true, true, true, false, false, false, false, false, false, false]
def m9_1f8 : Array Bool := #[true, true, true, true, true, true, false, false, false]
def m8_fc : Array Bool := #[true, true, true, true, true, true, false, false]
def m9_1fa : Array Bool := #[true, true, true, true, true, true, false, true, false]
def m24_fe0000 : Array Bool := #[true, true, true, true, true, true, true, false, false, false, false, false, false, false, false, false, false, false, false, false, false, false, false, false]
def m18_3f800 : Array Bool := #[true, true, true, true, true, true, true, false, false, false, false, false, false, false, false, false, false, false]
def m13_1fc0 : Array Bool := #[true, true, true, true, true, true, true, false, false, false, false, false, false]
def m10_3f8 : Array Bool := #[true, true, true, true, true, true, true, false, false, false]
def m9_1fc : Array Bool := #[true, true, true, true, true, true, true, false, false]
def m8_fe : Array Bool := #[true, true, true, true, true, true, true, false]
def m24_ff0000 : Array Bool := #[true, true, true, true, true, true, true, true, false, false, false, false, false, false, false, false, false, false, false, false, false, false, false, false]
def m18_3fc00 : Array Bool := #[true, true, true, true, true, true, true, true, false, false, false, false, false, false, false, false, false, false]
def m13_1fe0 : Array Bool := #[true, true, true, true, true, true, true, true, false, false, false, false, false]
def m10_3fc : Array Bool := #[true, true, true, true, true, true, true, true, false, false]
def m9_1fe : Array Bool := #[true, true, true, true, true, true, true, true, false]
def m24_ff8000 : Array Bool := #[true, true, true, true, true, true, true, true, true, false, false, false, false, false, false, false, false, false, false, false, false, false, false, false]
def m18_3fe00 : Array Bool := #[true, true, true, true, true, true, true, true, true, false, false, false, false, false, false, false, false, false]
def m13_1ff0 : Array Bool := #[true, true, true, true, true, true, true, true, true, false, false, false, false]
def m10_3fe : Array Bool := #[true, true, true, true, true, true, true, true, true, false]
def m24_ffc000 : Array Bool := #[true, true, true, true, true, true, true, true, true, true, false, false, false, false, false, false, false, false, false, false, false, false, false, false]
def m18_3ff00 : Array Bool := #[true, true, true, true, true, true, true, true, true, true, false, false, false, false, false, false, false, false]
def m13_1ff8 : Array Bool := #[true, true, true, true, true, true, true, true, true, true, false, false, false]
def m24_ffe000 : Array Bool := #[true, true, true, true, true, true, true, true, true, true, true, false, false, false, false, false, false, false, false, false, false, false, false, false]
def m18_3ff80 : Array Bool := #[true, true, true, true, true, true, true, true, true, true, true, false, false, false, false, false, false, false]
def m13_1ffc : Array Bool := #[true, true, true, true, true, true, true, true, true, true, true, false, false]
def m24_fff000 : Array Bool := #[true, true, true, true, true, true, true, true, true, true, true, true, false, false, false, false, false, false, false, false, false, false, false, false]
def m18_3ffc0 : Array Bool := #[true, true, true, true, true, true, true, true, true, true, true, true, false, false, false, false, false, false]
def m18_3ffd0 : Array Bool := #[true, true, true, true, true, true, true, true, true, true, true, true, false, true, false, false, false, false]
def m13_1ffe : Array Bool := #[true, true, true, true, true, true, true, true, true, true, true, true, false]
def m24_fff800 : Array Bool := #[true, true, true, true, true, true, true, true, true, true, true, true, true, false, false, false, false, false, false, false, false, false, false, false]
def m18_3ffe0 : Array Bool := #[true, true, true, true, true, true, true, true, true, true, true, true, true, false, false, false, false, false]
def m24_fffc00 : Array Bool := #[true, true, true, true, true, true, true, true, true, true, true, true, true, true, false, false, false, false, false, false, false, false, false, false]
def m18_3fff0 : Array Bool := #[true, true, true, true, true, true, true, true, true, true, true, true, true, true, false, false, false, false]
def m24_fffe00 : Array Bool := #[true, true, true, true, true, true, true, true, true, true, true, true, true, true, true, false, false, false, false, false, false, false, false, false]
def m18_3fff8 : Array Bool := #[true, true, true, true, true, true, true, true, true, true, true, true, true, true, true, false, false, false]
def m24_fffe80 : Array Bool := #[true, true, true, true, true, true, true, true, true, true, true, true, true, true, true, false, true, false, false, false, false, false, false, false]
def m24_fffec0 : Array Bool := #[true, true, true, true, true, true, true, true, true, true, true, true, true, true, true, false, true, true, false, false, false, false, false, false]
def m24_fffee0 : Array Bool := #[true, true, true, true, true, true, true, true, true, true, true, true, true, true, true, false, true, true, true, false, false, false, false, false]
def m24_fffef0 : Array Bool := #[true, true, true, true, true, true, true, true, true, true, true, true, true, true, true, false, true, true, true, true, false, false, false, false]
def m24_ffff00 : Array Bool := #[true, true, true, true, true, true, true, true, true, true, true, true, true, true, true, true, false, false, false, false, false, false, false, false]
def m18_3fffc : Array Bool := #[true, true, true, true, true, true, true, true, true, true, true, true, true, true, true, true, false, false]
def m24_ffff80 : Array Bool := #[true, true, true, true, true, true, true, true, true, true, true, true, true, true, true, true, true, false, false, false, false, false, false, false]
def m18_3fffe : Array Bool := #[true, true, true, true, true, true, true, true, true, true, true, true, true, true, true, true, true, false]
def m24_ffffc0 : Array Bool := #[true, true, true, true, true, true, true, true, true, true, true, true, true, true, true, true, true, true, false, false, false, false, false, false]
def m24_ffffe0 : Array Bool := #[true, true, true, true, true, true, true, true, true, true, true, true, true, true, true, true, true, true, true, false, false, false, false, false]
def m24_fffff0 : Array Bool := #[true, true, true, true, true, true, true, true, true, true, true, true, true, true, true, true, true, true, true, true, false, false, false, false]
def m24_fffff8 : Array Bool := #[true, true, true, true, true, true, true, true, true, true, true, true, true, true, true, true, true, true, true, true, true, false, false, false]
def m24_fffffc : Array Bool := #[true, true, true, true, true, true, true, true, true, true, true, true, true, true, true, true, true, true, true, true, true, true, false, false]
def m24_fffffe : Array Bool := #[true, true, true, true, true, true, true, true, true, true, true, true, true, true, true, true, true, true, true, true, true, true, true, false]
def m24_ffffff : Array Bool := #[true, true, true, true, true, true, true, true, true, true, true, true, true, true, true, true, true, true, true, true, true, true, true, true]
def m18_3ffff : Array Bool := #[true, true, true, true, true, true, true, true, true, true, true, true, true, true, true, true, true, true]
def m13_1fff : Array Bool := #[true, true, true, true, true, true, true, true, true, true, true, true, true]
def m10_3ff : Array Bool := #[true, true, true, true, true, true, true, true, true, true]
def m9_1ff : Array Bool := #[true, true, true, true, true, true, true, true, true]
def m8_ff : Array Bool := #[true, true, true, true, true, true, true, true]
theorem jA : type_of% @Aside0.mk := @Aside0.mk
theorem jB : type_of% @of_decide_eq_true := @of_decide_eq_true
theorem jC : type_of% @List.setIfInBounds_toArray.{0} := @List.setIfInBounds_toArray.{0}
theorem jD : type_of% @blk_cell := @blk_cell
theorem jE : type_of% @List.set_cons_zero.{0} := @List.set_cons_zero.{0}
theorem jF : type_of% @List.set_cons_succ.{0} := @List.set_cons_succ.{0}
theorem jG : type_of% @Option.bind_eq_some_iff.{0, 0} := @Option.bind_eq_some_iff.{0, 0}
theorem jH : type_of% @Option.some.inj.{0} := @Option.some.inj.{0}
theorem jI : type_of% @decide_eq_true := @decide_eq_true
theorem jJ : type_of% @gate_dst := @gate_dst
theorem jK : type_of% @gate_callee := @gate_callee
theorem jL : type_of% @cell_far := @cell_far
theorem jM : type_of% @decide_eq_false := @decide_eq_false
theorem jN : type_of% @Option.some.injEq.{0} := @Option.some.injEq.{0}
theorem jO : type_of% @blk_below := @blk_below
theorem jP : type_of% @Kd.R_reads' := @Kd.R_reads'
theorem jQ : type_of% @Prod.mk.injEq.{0, 0} := @Prod.mk.injEq.{0, 0}
theorem jR : type_of% @below_drew1 := @below_drew1
theorem za {p : Prop} (h : p := by first | (with_reducible assumption) | assumption) : p := h
theorem zb0 {p q : Prop} (H : Aside0 q) (h : q → p := by intro h_; repeat (first | (with_reducible first | exact h_ | apply below_alloc | apply pw_below_drewN | apply below_drew1) | exact h_)) : p := h H.out
theorem zb1 {p q r0 : Prop} (H : Aside0 q) (G0 : Aside0 r0) (h : q → r0 → p := by intro h_ g0_; repeat (first | (with_reducible first | exact h_ | apply below_alloc | apply pw_below_drewN | apply below_drew1 | refine below_set ?_ g0_) | exact h_)) : p := h H.out G0.out
theorem zb2 {p q r0 r1 : Prop} (H : Aside0 q) (G0 : Aside0 r0) (G1 : Aside0 r1) (h : q → r0 → r1 → p := by intro h_ g0_ g1_; repeat (first | (with_reducible first | exact h_ | apply below_alloc | apply pw_below_drewN | apply below_drew1 | refine below_set ?_ g0_ | refine below_set ?_ g1_) | exact h_)) : p := h H.out G0.out G1.out
theorem zb3 {p q r0 r1 r2 : Prop} (H : Aside0 q) (G0 : Aside0 r0) (G1 : Aside0 r1) (G2 : Aside0 r2) (h : q → r0 → r1 → r2 → p := by intro h_ g0_ g1_ g2_; repeat (first | (with_reducible first | exact h_ | apply below_alloc | apply pw_below_drewN | apply below_drew1 | refine below_set ?_ g0_ | refine below_set ?_ g1_ | refine below_set ?_ g2_) | exact h_)) : p := h H.out G0.out G1.out G2.out
theorem zb4 {p q r0 r1 r2 r3 : Prop} (H : Aside0 q) (G0 : Aside0 r0) (G1 : Aside0 r1) (G2 : Aside0 r2) (G3 : Aside0 r3) (h : q → r0 → r1 → r2 → r3 → p := by intro h_ g0_ g1_ g2_ g3_; repeat (first | (with_reducible first | exact h_ | apply below_alloc | apply pw_below_drewN | apply below_drew1 | refine below_set ?_ g0_ | refine below_set ?_ g1_ | refine below_set ?_ g2_ | refine below_set ?_ g3_) | exact h_)) : p := h H.out G0.out G1.out G2.out G3.out
theorem zb5 {p q r0 r1 r2 r3 r4 : Prop} (H : Aside0 q) (G0 : Aside0 r0) (G1 : Aside0 r1) (G2 : Aside0 r2) (G3 : Aside0 r3) (G4 : Aside0 r4) (h : q → r0 → r1 → r2 → r3 → r4 → p := by intro h_ g0_ g1_ g2_ g3_ g4_; repeat (first | (with_reducible first | exact h_ | apply below_alloc | apply pw_below_drewN | apply below_drew1 | refine below_set ?_ g0_ | refine below_set ?_ g1_ | refine below_set ?_ g2_ | refine below_set ?_ g3_ | refine below_set ?_ g4_) | exact h_)) : p := h H.out G0.out G1.out G2.out G3.out G4.out
theorem zb6 {p q r0 r1 r2 r3 r4 r5 : Prop} (H : Aside0 q) (G0 : Aside0 r0) (G1 : Aside0 r1) (G2 : Aside0 r2) (G3 : Aside0 r3) (G4 : Aside0 r4) (G5 : Aside0 r5) (h : q → r0 → r1 → r2 → r3 → r4 → r5 → p := by intro h_ g0_ g1_ g2_ g3_ g4_ g5_; repeat (first | (with_reducible first | exact h_ | apply below_alloc | apply pw_below_drewN | apply below_drew1 | refine below_set ?_ g0_ | refine below_set ?_ g1_ | refine below_set ?_ g2_ | refine below_set ?_ g3_ | refine below_set ?_ g4_ | refine below_set ?_ g5_) | exact h_)) : p := h H.out G0.out G1.out G2.out G3.out G4.out G5.out
theorem zk {p q : Prop} (H : Aside0 q) (h : q → p := by intro h_; (with_reducible repeat (first | refine blk_drewN ?_ _ | refine blk_drew ?_ | refine blk_alloc ?_ _)); exact h_) : p := h H.out
theorem zm {p : Prop} (h : p := by (try simp only [List.map_toArray, List.map_cons, List.map_nil]); first | done | rfl | (simp only [List.length_drop, List.length_take]; rfl)) : p := h
theorem zo {p q : Prop} (H : Aside0 q) (h : q → p := by intro h_; (with_reducible repeat (first | apply Kd.R_alloc | apply Kd.R_drewN | apply Kd.R_drew)); exact h_) : p := h H.out
theorem zp {P : Program} {ops : Array Oper} {Q : Exit → Act → World → Prop} {md : Region.Mode} {S : World → Prop} {ds : List Nat} {T : Bool × List (List Nat × List Nat)} {oi : Oper} {v : Value} {fuel : Nat} {l : Array Bool} {a a' : Act} {w : World} (HT : Aside0 (rtab md ops = T)) (i : Nat) (N : Tmp) (l' : Array Bool) (h : wpAnyLast P md ops Q S ds fuel l' a' w) (hi : ops[i]? = some oi := by rfl) (hN : oi.dst = some N := by rfl) (hc : anyT T l.toList l'.toList i = true := by kernel_rfl) (hQ : ∀ c a w, Q (.panic c) (a.put oi.dst v) w → Q (.panic c) a w := by exact fun _ _ _ h => h) (hy : Yields P ops oi v a := by exact Or.inl ⟨by rfl, by intro w'; go_simp; with_reducible rfl⟩) (ha : a.put (some N) v = a' := by simp only [Act.put, List.setIfInBounds_toArray, List.set_cons_zero, List.set_cons_succ, i64_w, i32_w]; rfl) : wpAnyLast P md ops Q S ds (fuel + 1) l a w := pure_ l' hi hN (any_of HT.out hc) hQ hy ha h
theorem zq {P : Program} {ops : Array Oper} {Q : Exit → Act → World → Prop} {md : Region.Mode} {S : World → Prop} {ds : List Nat} {T : Bool × List (List Nat × List Nat)} {oi : Oper} {fuel : Nat} {l : Array Bool} {a a' : Act} {w : World} (HT : Aside0 (rtab md ops = T)) (i : Nat) (N : Tmp) (l' : Array Bool) (h : wpAnyLast P md ops Q S ds fuel l' a' w) (hi : ops[i]? = some oi := by rfl) (hN : oi.dst = some N := by rfl) (hc : anyT T l.toList l'.toList i = true := by kernel_rfl) (hQ : ∀ c a w, Q (.panic c) (a.put oi.dst undef) w → Q (.panic c) a w := by exact fun _ _ _ h => h) (hy : Yields P ops oi undef a := by exact Or.inr ⟨by rfl, rfl⟩) (ha : a.put (some N) undef = a' := by simp only [Act.put, List.setIfInBounds_toArray, List.set_cons_zero, List.set_cons_succ, i64_w, i32_w]; rfl) : wpAnyLast P md ops Q S ds (fuel + 1) l a w := pure_ l' hi hN (any_of HT.out hc) hQ hy ha h
theorem zr {p : Prop} (h : p := by kernel_rfl) : p := h
theorem zs {p q r : Prop} (H : Aside0 q) (B : Aside0 r) (h : q → r → p := by intro h_ b_; repeat (first | exact h_ | exact (Kd.C_below h_ b_) | (with_reducible refine Kd.C_alloc ?_ _) | (with_reducible refine Kd.C_drewN ?_ _) | (with_reducible refine Kd.C_drew ?_))) : p := h H.out B.out
theorem zt10 {P : Program} {ops : Array Oper} {Q : Exit → Act → World → Prop} {md : Region.Mode} {S : World → Prop} {ds : List Nat} {T : Bool × List (List Nat × List Nat)} {oi : Oper} {v : Value} {fuel : Nat} {l : Array Bool} {a a' : Act} {w : World} {B : List Nat} (HT : Aside0 (rtab md ops = T)) (HW : Aside0 (waitsOk T.2 B = true)) (hS : S w) (i : Nat) (N : Tmp) (l' : Array Bool) (h : wpAnyLast P md ops Q S ds fuel l' a' w) (hi : ops[i]? = some oi := by rfl) (hN : oi.dst = some N := by rfl) (hc : takeW T B ds l.toList l'.toList i = true := by kernel_rfl) (hQ : ∀ c a w, Q (.panic c) (a.put oi.dst v) w → Q (.panic c) a w := by exact fun _ _ _ h => h) (hy : YieldsIf P ops S oi v a := by exact Or.inl ⟨by rfl, by rintro w' ⟨s0, s1, s2, s3, s4, s5, s6, s7, s8, s9⟩; go_simp; with_reducible rfl⟩) (ha : a.put (some N) v = a' := by simp only [Act.put, List.setIfInBounds_toArray, List.set_cons_zero, List.set_cons_succ, i64_w, i32_w]; rfl) : wpAnyLast P md ops Q S ds (fuel + 1) l a w := take_ l' hi hN (take_ofW HT.out HW.out hc) hQ hy hS ha h
theorem zt18 {P : Program} {ops : Array Oper} {Q : Exit → Act → World → Prop} {md : Region.Mode} {S : World → Prop} {ds : List Nat} {T : Bool × List (List Nat × List Nat)} {oi : Oper} {v : Value} {fuel : Nat} {l : Array Bool} {a a' : Act} {w : World} {B : List Nat} (HT : Aside0 (rtab md ops = T)) (HW : Aside0 (waitsOk T.2 B = true)) (hS : S w) (i : Nat) (N : Tmp) (l' : Array Bool) (h : wpAnyLast P md ops Q S ds fuel l' a' w) (hi : ops[i]? = some oi := by rfl) (hN : oi.dst = some N := by rfl) (hc : takeW T B ds l.toList l'.toList i = true := by kernel_rfl) (hQ : ∀ c a w, Q (.panic c) (a.put oi.dst v) w → Q (.panic c) a w := by exact fun _ _ _ h => h) (hy : YieldsIf P ops S oi v a := by exact Or.inl ⟨by rfl, by rintro w' ⟨s0, s1, s2, s3, s4, s5, s6, s7, s8, s9, s10, s11, s12, s13, s14, s15, s16, s17⟩; go_simp; with_reducible rfl⟩) (ha : a.put (some N) v = a' := by simp only [Act.put, List.setIfInBounds_toArray, List.set_cons_zero, List.set_cons_succ, i64_w, i32_w]; rfl) : wpAnyLast P md ops Q S ds (fuel + 1) l a w := take_ l' hi hN (take_ofW HT.out HW.out hc) hQ hy hS ha h
theorem zt2 {P : Program} {ops : Array Oper} {Q : Exit → Act → World → Prop} {md : Region.Mode} {S : World → Prop} {ds : List Nat} {T : Bool × List (List Nat × List Nat)} {oi : Oper} {v : Value} {fuel : Nat} {l : Array Bool} {a a' : Act} {w : World} {B : List Nat} (HT : Aside0 (rtab md ops = T)) (HW : Aside0 (waitsOk T.2 B = true)) (hS : S w) (i : Nat) (N : Tmp) (l' : Array Bool) (h : wpAnyLast P md ops Q S ds fuel l' a' w) (hi : ops[i]? = some oi := by rfl) (hN : oi.dst = some N := by rfl) (hc : takeW T B ds l.toList l'.toList i = true := by kernel_rfl) (hQ : ∀ c a w, Q (.panic c) (a.put oi.dst v) w → Q (.panic c) a w := by exact fun _ _ _ h => h) (hy : YieldsIf P ops S oi v a := by exact Or.inl ⟨by rfl, by rintro w' ⟨s0, s1⟩; go_simp; with_reducible rfl⟩) (ha : a.put (some N) v = a' := by simp only [Act.put, List.setIfInBounds_toArray, List.set_cons_zero, List.set_cons_succ, i64_w, i32_w]; rfl) : wpAnyLast P md ops Q S ds (fuel + 1) l a w := take_ l' hi hN (take_ofW HT.out HW.out hc) hQ hy hS ha h
theorem zt3 {P : Program} {ops : Array Oper} {Q : Exit → Act → World → Prop} {md : Region.Mode} {S : World → Prop} {ds : List Nat} {T : Bool × List (List Nat × List Nat)} {oi : Oper} {v : Value} {fuel : Nat} {l : Array Bool} {a a' : Act} {w : World} {B : List Nat} (HT : Aside0 (rtab md ops = T)) (HW : Aside0 (waitsOk T.2 B = true)) (hS : S w) (i : Nat) (N : Tmp) (l' : Array Bool) (h : wpAnyLast P md ops Q S ds fuel l' a' w) (hi : ops[i]? = some oi := by rfl) (hN : oi.dst = some N := by rfl) (hc : takeW T B ds l.toList l'.toList i = true := by kernel_rfl) (hQ : ∀ c a w, Q (.panic c) (a.put oi.dst v) w → Q (.panic c) a w := by exact fun _ _ _ h => h) (hy : YieldsIf P ops S oi v a := by exact Or.inl ⟨by rfl, by rintro w' ⟨s0, s1, s2⟩; go_simp; with_reducible rfl⟩) (ha : a.put (some N) v = a' := by simp only [Act.put, List.setIfInBounds_toArray, List.set_cons_zero, List.set_cons_succ, i64_w, i32_w]; rfl) : wpAnyLast P md ops Q S ds (fuel + 1) l a w := take_ l' hi hN (take_ofW HT.out HW.out hc) hQ hy hS ha h
theorem zt9 {P : Program} {ops : Array Oper} {Q : Exit → Act → World → Prop} {md : Region.Mode} {S : World → Prop} {ds : List Nat} {T : Bool × List (List Nat × List Nat)} {oi : Oper} {v : Value} {fuel : Nat} {l : Array Bool} {a a' : Act} {w : World} {B : List Nat} (HT : Aside0 (rtab md ops = T)) (HW : Aside0 (waitsOk T.2 B = true)) (hS : S w) (i : Nat) (N : Tmp) (l' : Array Bool) (h : wpAnyLast P md ops Q S ds fuel l' a' w) (hi : ops[i]? = some oi := by rfl) (hN : oi.dst = some N := by rfl) (hc : takeW T B ds l.toList l'.toList i = true := by kernel_rfl) (hQ : ∀ c a w, Q (.panic c) (a.put oi.dst v) w → Q (.panic c) a w := by exact fun _ _ _ h => h) (hy : YieldsIf P ops S oi v a := by exact Or.inl ⟨by rfl, by rintro w' ⟨s0, s1, s2, s3, s4, s5, s6, s7, s8⟩; go_simp; with_reducible rfl⟩) (ha : a.put (some N) v = a' := by simp only [Act.put, List.setIfInBounds_toArray, List.set_cons_zero, List.set_cons_succ, i64_w, i32_w]; rfl) : wpAnyLast P md ops Q S ds (fuel + 1) l a w := take_ l' hi hN (take_ofW HT.out HW.out hc) hQ hy hS ha h
theorem zz {p : Prop} (h : p := by first | rfl | (simp; done) | (simp [*]; done)) : p := h
theorem zput {w : World} {g : Nat} {t : TypeId} {cs cs' : Array Value} (h : w.heap[g]? = some (.cells cs t (0, 0))) (e : cs = cs') : w.heap[g]? = some (.cells cs' t (0, 0)) := e ▸ h
theorem zB {u W w1 : World} {g : Nat} {o : Obj} (H : Aside0 (u.heap[g]? = some o)) (hb : Below W.heap.size W w1) (h : u.heap[g]? = some o → W.heap[g]? = some o := by intro h_; (with_reducible repeat (first | refine blk_drewN ?_ _ | refine blk_drew ?_ | refine blk_alloc ?_ _)); exact h_) : Aside0 (w1.heap[g]? = some o) := ⟨blk_below (h H.out) hb⟩
theorem zE {P : Program} {ops : Array Oper} {rest : List Oper} {o : Oper} {a : Act} {Q : Exit → Act → World → Prop} {W : World} (N : Tmp) (cs : Array Value) (t : TypeId) (h : ∀ g, g = W.heap.size → ∀ w1, w1.heap[g]? = some (.cells cs t (0, 0)) → Below W.heap.size W w1 → wpList P ops Q rest (a.put o.dst (.pointer (some ⟨g, 0, none⟩))) w1) (hd : o.dst = some N := by rfl) (hg : o.guard = none := by rfl) (hr : (execOp a.eval o).run P W = .ok (.value (.pointer (some ⟨W.heap.size, 0, none⟩))) (W.alloc (.cells cs t (0, 0))) := by first | (go_simp; done) | (go_simp; rfl)) : wpList P ops Q (o :: rest) a W := box_event hg hd hr h
theorem zL {P : Program} {ops : Array Oper} {Q : Exit → Act → World → Prop} {rest : List Oper} {oi : Oper} {a : Act} {w : World} (N : Option Tmp) {f : FuncId} {fn : Func} {xs : Array Operand} {ts : Array TypeId} (hf : P.funcs[f]? = some fn) (args : Array Value) (h : Calls P f args w fun e w' => ∃ v, e = .returned v ∧ wpList P ops Q rest (a.put N v) w') (hop : oi.op = .call { callee := .value (.func f), args := xs, argTypes := ts } := by exact rfl) (hd : oi.dst = N := by rfl) (hg : oi.guard = none := by rfl) (hname : (fn.name == "runtime.NumGoroutine") = false := by kernel_rfl) (hb : fn.body.isSome = true := by rfl) (hargs : xs.map a.eval = args := by (try simp only [List.map_toArray, List.map_cons, List.map_nil]); first | done | rfl | (simp only [List.length_drop, List.length_take]; rfl)) : wpList P ops Q (oi :: rest) a w := goesL_ N hd hg hf hname hb args hop hargs h
theorem zN {u W : World} {g g0 : Nat} {o : Obj} (hg : g0 = W.heap.size) (H : Aside0 (u.heap[g]? = some o)) (h : u.heap[g]? = some o → W.heap[g]? = some o := by intro h_; (with_reducible repeat (first | refine blk_drewN ?_ _ | refine blk_drew ?_ | refine blk_alloc ?_ _)); exact h_) : Aside0 (g0 ≠ g) := ⟨by rw [hg]; exact Nat.ne_of_gt (blk_lt (h H.out))⟩
theorem zP0 {p q : Prop} (H : Aside0 q) (h : q → p := by intro h_; apply zput; (· repeat (first | (with_reducible first | exact h_ | refine blk_drewN ?_ _ | refine blk_drew ?_ | refine blk_alloc ?_ _ | apply blk_set))); (· first | (simp only [List.setIfInBounds_toArray, List.set_cons_zero, List.set_cons_succ]; done) | rfl)) : p := h H.out
theorem zP1 {p q r0 : Prop} (H : Aside0 q) (G0 : Aside0 r0) (h : q → r0 → p := by intro h_ g0_; apply zput; (· repeat (first | (with_reducible first | exact h_ | refine blk_drewN ?_ _ | refine blk_drew ?_ | refine blk_alloc ?_ _ | apply blk_set) | apply blk_far (hp := g0_))); (· first | (simp only [List.setIfInBounds_toArray, List.set_cons_zero, List.set_cons_succ]; done) | rfl)) : p := h H.out G0.out
theorem zP2 {p q r0 r1 : Prop} (H : Aside0 q) (G0 : Aside0 r0) (G1 : Aside0 r1) (h : q → r0 → r1 → p := by intro h_ g0_ g1_; apply zput; (· repeat (first | (with_reducible first | exact h_ | refine blk_drewN ?_ _ | refine blk_drew ?_ | refine blk_alloc ?_ _ | apply blk_set) | apply blk_far (hp := g0_) | apply blk_far (hp := g1_))); (· first | (simp only [List.setIfInBounds_toArray, List.set_cons_zero, List.set_cons_succ]; done) | rfl)) : p := h H.out G0.out G1.out
theorem zQ1 {p q r0 : Prop} (H : Aside0 q) (G0 : Aside0 r0) (h : q → r0 → p := by intro h_ g0_; (repeat (first | (with_reducible first | exact h_ | refine blk_drewN ?_ _ | refine blk_drew ?_ | refine blk_alloc ?_ _) | refine blk_far ?_ g0_ _ | exact h_))) : p := h H.out G0.out
theorem zS0 {v u W w2 : World} (H : Aside0 (Below v.heap.size v u)) (k : Below W.heap.size W w2) (h : Below v.heap.size v u → Below v.heap.size v W := by intro h_; repeat (first | (with_reducible first | exact h_ | apply below_alloc | apply pw_below_drewN | apply below_drew1) | exact h_)) : Aside0 (Below v.heap.size v w2) := ⟨below_step (h H.out) k⟩
theorem zS1 {v u W w2 : World} {r0 : Prop} (H : Aside0 (Below v.heap.size v u)) (G0 : Aside0 r0) (k : Below W.heap.size W w2) (h : Below v.heap.size v u → r0 → Below v.heap.size v W := by intro h_ g0_; repeat (first | (with_reducible first | exact h_ | apply below_alloc | apply pw_below_drewN | apply below_drew1 | refine below_set ?_ g0_) | exact h_)) : Aside0 (Below v.heap.size v w2) := ⟨below_step (h H.out G0.out) k⟩
theorem zS2 {v u W w2 : World} {r0 r1 : Prop} (H : Aside0 (Below v.heap.size v u)) (G0 : Aside0 r0) (G1 : Aside0 r1) (k : Below W.heap.size W w2) (h : Below v.heap.size v u → r0 → r1 → Below v.heap.size v W := by intro h_ g0_ g1_; repeat (first | (with_reducible first | exact h_ | apply below_alloc | apply pw_below_drewN | apply below_drew1 | refine below_set ?_ g0_ | refine below_set ?_ g1_) | exact h_)) : Aside0 (Below v.heap.size v w2) := ⟨below_step (h H.out G0.out G1.out) k⟩
theorem zS3 {v u W w2 : World} {r0 r1 r2 : Prop} (H : Aside0 (Below v.heap.size v u)) (G0 : Aside0 r0) (G1 : Aside0 r1) (G2 : Aside0 r2) (k : Below W.heap.size W w2) (h : Below v.heap.size v u → r0 → r1 → r2 → Below v.heap.size v W := by intro h_ g0_ g1_ g2_; repeat (first | (with_reducible first | exact h_ | apply below_alloc | apply pw_below_drewN | apply below_drew1 | refine below_set ?_ g0_ | refine below_set ?_ g1_ | refine below_set ?_ g2_) | exact h_)) : Aside0 (Below v.heap.size v w2) := ⟨below_step (h H.out G0.out G1.out G2.out) k⟩
theorem zS4 {v u W w2 : World} {r0 r1 r2 r3 : Prop} (H : Aside0 (Below v.heap.size v u)) (G0 : Aside0 r0) (G1 : Aside0 r1) (G2 : Aside0 r2) (G3 : Aside0 r3) (k : Below W.heap.size W w2) (h : Below v.heap.size v u → r0 → r1 → r2 → r3 → Below v.heap.size v W := by intro h_ g0_ g1_ g2_ g3_; repeat (first | (with_reducible first | exact h_ | apply below_alloc | apply pw_below_drewN | apply below_drew1 | refine below_set ?_ g0_ | refine below_set ?_ g1_ | refine below_set ?_ g2_ | refine below_set ?_ g3_) | exact h_)) : Aside0 (Below v.heap.size v w2) := ⟨below_step (h H.out G0.out G1.out G2.out G3.out) k⟩
theorem zS5 {v u W w2 : World} {r0 r1 r2 r3 r4 : Prop} (H : Aside0 (Below v.heap.size v u)) (G0 : Aside0 r0) (G1 : Aside0 r1) (G2 : Aside0 r2) (G3 : Aside0 r3) (G4 : Aside0 r4) (k : Below W.heap.size W w2) (h : Below v.heap.size v u → r0 → r1 → r2 → r3 → r4 → Below v.heap.size v W := by intro h_ g0_ g1_ g2_ g3_ g4_; repeat (first | (with_reducible first | exact h_ | apply below_alloc | apply pw_below_drewN | apply below_drew1 | refine below_set ?_ g0_ | refine below_set ?_ g1_ | refine below_set ?_ g2_ | refine below_set ?_ g3_ | refine below_set ?_ g4_) | exact h_)) : Aside0 (Below v.heap.size v w2) := ⟨below_step (h H.out G0.out G1.out G2.out G3.out G4.out) k⟩
theorem zT {p q r : Prop} (H : Aside0 q) (B : Aside0 r) (h : q → r → p := by intro h_ b_; (with_reducible repeat (first | apply Kd.R_alloc | apply Kd.R_drewN | apply Kd.R_drew)); apply Kd.R_mono; (repeat (first | (with_reducible apply Kd.R_far) | exact Kd.R_types h_ b_ (by decide))); all_goals (intro _ hk; first | exact trivial | exact hk.2)) : p := h H.out B.out
theorem zU {p q r : Prop} (H : Aside0 q) (B : Aside0 r) (h : q → r → p := by intro h_ b_; (with_reducible repeat (first | apply Kd.R_alloc | apply Kd.R_drewN | apply Kd.R_drew)); apply Kd.R_mono; (repeat (first | (with_reducible apply Kd.R_far) | exact Kd.R_types h_ b_ (by decide))); all_goals (intro _ hk; first | exact hk.1 | exact hk.2)) : p := h H.out B.out
theorem zc2 {W : World} {g : Nat} {t : TypeId} {a0 a1 : Value} (h : Aside0 (W.heap[g]? = some (.cells #[a0, a1] t (0, 0)))) : W.cell? ⟨g, 0, none⟩ = some a0 ∧ W.cell? ⟨g, 1, none⟩ = some a1 ∧ W.frozen? ⟨g, 0, none⟩ = false ∧ W.frozen? ⟨g, 1, none⟩ = false := ⟨(blk_cell h.out 0).trans rfl, (blk_cell h.out 1).trans rfl, blk_frozen h.out 0, blk_frozen h.out 1⟩
theorem zc9 {W : World} {g : Nat} {t : TypeId} {a0 a1 a2 a3 a4 a5 a6 a7 a8 : Value} (h : Aside0 (W.heap[g]? = some (.cells #[a0, a1, a2, a3, a4, a5, a6, a7, a8] t (0, 0)))) : W.cell? ⟨g, 0, none⟩ = some a0 ∧ W.cell? ⟨g, 1, none⟩ = some a1 ∧ W.cell? ⟨g, 2, none⟩ = some a2 ∧ W.cell? ⟨g, 3, none⟩ = some a3 ∧ W.cell? ⟨g, 4, none⟩ = some a4 ∧ W.cell? ⟨g, 5, none⟩ = some a5 ∧ W.cell? ⟨g, 6, none⟩ = some a6 ∧ W.cell? ⟨g, 7, none⟩ = some a7 ∧ W.cell? ⟨g, 8, none⟩ = some a8 ∧ W.frozen? ⟨g, 0, none⟩ = false ∧ W.frozen? ⟨g, 1, none⟩ = false ∧ W.frozen? ⟨g, 2, none⟩ = false ∧ W.frozen? ⟨g, 3, none⟩ = false ∧ W.frozen? ⟨g, 4, none⟩ = false ∧ W.frozen? ⟨g, 5, none⟩ = false ∧ W.frozen? ⟨g, 6, none⟩ = false ∧ W.frozen? ⟨g, 7, none⟩ = false ∧ W.frozen? ⟨g, 8, none⟩ = false := ⟨(blk_cell h.out 0).trans rfl, (blk_cell h.out 1).trans rfl, (blk_cell h.out 2).trans rfl, (blk_cell h.out 3).trans rfl, (blk_cell h.out 4).trans rfl, (blk_cell h.out 5).trans rfl, (blk_cell h.out 6).trans rfl, (blk_cell h.out 7).trans rfl, (blk_cell h.out 8).trans rfl, blk_frozen h.out 0, blk_frozen h.out 1, blk_frozen h.out 2, blk_frozen h.out 3, blk_frozen h.out 4, blk_frozen h.out 5, blk_frozen h.out 6, blk_frozen h.out 7, blk_frozen h.out 8⟩
theorem zd {W : World} {p : Addr} {v : Value} {g b : Nat} (h : W.cell? p = some v) (G : Aside0 (W.heap.size ≤ g)) (hb : p.block = b := by first | rfl | exact add_block _ _) : b ≠ g := hb ▸ Nat.ne_of_lt (Nat.lt_of_lt_of_le (World.block_lt_of_cell? _ _ h) G.out)
theorem ze {p : Prop} (h : p := by first | rfl | (simp [errW_none, errW_some] <;> rfl) | (simp [*, errW_none, errW_some] <;> rfl)) : p := h
theorem zf {a b c : Nat} (h : a ≠ b) (e : c = a := by first | rfl | exact add_block _ _) : c ≠ b := e ▸ h
theorem zfalse : ¬ (false = true) := by decide
theorem zg0 {v u W : World} {g : Nat} (hg : g = W.heap.size) (H : Aside0 (Below v.heap.size v u)) (h : Below v.heap.size v u → Below v.heap.size v W := by intro h_; repeat (first | (with_reducible first | exact h_ | apply below_alloc | apply pw_below_drewN | apply below_drew1) | exact h_)) : Aside0 (v.heap.size ≤ g) := ⟨by rw [hg]; exact below_size (h H.out)⟩
theorem zg1 {v u W : World} {g : Nat} {r0 : Prop} (hg : g = W.heap.size) (H : Aside0 (Below v.heap.size v u)) (G0 : Aside0 r0) (h : Below v.heap.size v u → r0 → Below v.heap.size v W := by intro h_ g0_; repeat (first | (with_reducible first | exact h_ | apply below_alloc | apply pw_below_drewN | apply below_drew1 | refine below_set ?_ g0_) | exact h_)) : Aside0 (v.heap.size ≤ g) := ⟨by rw [hg]; exact below_size (h H.out G0.out)⟩
theorem zg2 {v u W : World} {g : Nat} {r0 r1 : Prop} (hg : g = W.heap.size) (H : Aside0 (Below v.heap.size v u)) (G0 : Aside0 r0) (G1 : Aside0 r1) (h : Below v.heap.size v u → r0 → r1 → Below v.heap.size v W := by intro h_ g0_ g1_; repeat (first | (with_reducible first | exact h_ | apply below_alloc | apply pw_below_drewN | apply below_drew1 | refine below_set ?_ g0_ | refine below_set ?_ g1_) | exact h_)) : Aside0 (v.heap.size ≤ g) := ⟨by rw [hg]; exact below_size (h H.out G0.out G1.out)⟩
theorem zg3 {v u W : World} {g : Nat} {r0 r1 r2 : Prop} (hg : g = W.heap.size) (H : Aside0 (Below v.heap.size v u)) (G0 : Aside0 r0) (G1 : Aside0 r1) (G2 : Aside0 r2) (h : Below v.heap.size v u → r0 → r1 → r2 → Below v.heap.size v W := by intro h_ g0_ g1_ g2_; repeat (first | (with_reducible first | exact h_ | apply below_alloc | apply pw_below_drewN | apply below_drew1 | refine below_set ?_ g0_ | refine below_set ?_ g1_ | refine below_set ?_ g2_) | exact h_)) : Aside0 (v.heap.size ≤ g) := ⟨by rw [hg]; exact below_size (h H.out G0.out G1.out G2.out)⟩
theorem zg4 {v u W : World} {g : Nat} {r0 r1 r2 r3 : Prop} (hg : g = W.heap.size) (H : Aside0 (Below v.heap.size v u)) (G0 : Aside0 r0) (G1 : Aside0 r1) (G2 : Aside0 r2) (G3 : Aside0 r3) (h : Below v.heap.size v u → r0 → r1 → r2 → r3 → Below v.heap.size v W := by intro h_ g0_ g1_ g2_ g3_; repeat (first | (with_reducible first | exact h_ | apply below_alloc | apply pw_below_drewN | apply below_drew1 | refine below_set ?_ g0_ | refine below_set ?_ g1_ | refine below_set ?_ g2_ | refine below_set ?_ g3_) | exact h_)) : Aside0 (v.heap.size ≤ g) := ⟨by rw [hg]; exact below_size (h H.out G0.out G1.out G2.out G3.out)⟩
theorem zg5 {v u W : World} {g : Nat} {r0 r1 r2 r3 r4 : Prop} (hg : g = W.heap.size) (H : Aside0 (Below v.heap.size v u)) (G0 : Aside0 r0) (G1 : Aside0 r1) (G2 : Aside0 r2) (G3 : Aside0 r3) (G4 : Aside0 r4) (h : Below v.heap.size v u → r0 → r1 → r2 → r3 → r4 → Below v.heap.size v W := by intro h_ g0_ g1_ g2_ g3_ g4_; repeat (first | (with_reducible first | exact h_ | apply below_alloc | apply pw_below_drewN | apply below_drew1 | refine below_set ?_ g0_ | refine below_set ?_ g1_ | refine below_set ?_ g2_ | refine below_set ?_ g3_ | refine below_set ?_ g4_) | exact h_)) : Aside0 (v.heap.size ≤ g) := ⟨by rw [hg]; exact below_size (h H.out G0.out G1.out G2.out G3.out G4.out)⟩
theorem zn {u W : World} {g g0 : Nat} {o : Obj} (hg : g0 = W.heap.size) (H : Aside0 (u.heap[g]? = some o)) (h : u.heap[g]? = some o → W.heap[g]? = some o := by intro h_; (with_reducible repeat (first | refine blk_drewN ?_ _ | refine blk_drew ?_ | refine blk_alloc ?_ _)); exact h_) : Aside0 (g ≠ g0) := ⟨by rw [hg]; exact Nat.ne_of_lt (blk_lt (h H.out))⟩
theorem zv {p q : Prop} (H : Aside0 q) (h : q → p := by intro h_; repeat (first | exact (Kd.R_reads' h_).2.2 | (with_reducible refine Kd.C_alloc ?_ _) | (with_reducible refine Kd.C_drewN ?_ _) | (with_reducible refine Kd.C_drew ?_))) : p := h H.out
theorem zx {a b : World} {p : Addr} {v : Value} (B : Aside0 (Below a.heap.size a b)) (h : a.cell? p = some v) : b.cell? p = some v := (B.out.cell (World.block_lt_of_cell? a _ h)).trans h
theorem zr0 {p q r0 r1 r2 r3 : Prop} (H : Aside0 q) (G0 : Aside0 r0) (G1 : Aside0 r1) (G2 : Aside0 r2) (G3 : Aside0 r3) (h : q → r0 → r1 → r2 → r3 → p := by intro h_ g0_ g1_ g2_ g3_; repeat (first | (with_reducible first | exact h_ | apply below_alloc | apply pw_below_drewN | apply below_drew1 | refine below_set ?_ g0_ | refine below_set ?_ g1_ | refine below_set ?_ g2_ | refine below_set ?_ g3_) | exact h_)) : p := h H.out G0.out G1.out G2.out G3.out
theorem zr1 {p q : Prop} (H : Aside0 q) (h : q → p := by intro h_; repeat (first | (with_reducible first | exact h_ | apply Kept.alloc | apply Kept.drewN | apply Kept.drew) | exact h_)) : p := h H.out
theorem zr2 {p q r0 : Prop} (H : Aside0 q) (G0 : Aside0 r0) (h : q → r0 → p := by intro h_ g0_; repeat (first | (with_reducible first | exact h_ | apply Kept.alloc | apply Kept.drewN | apply Kept.drew | refine Kept.setCell ?_ (.inr g0_) _) | exact h_)) : p := h H.out G0.out
theorem zr3 {p q r0 : Prop} (H : Aside0 q) (G0 : Aside0 r0) (h : q → r0 → p := by intro h_ g0_; repeat (first | (with_reducible first | exact h_ | apply below_alloc | apply pw_below_drewN | apply below_drew1 | refine below_set ?_ g0_) | exact h_)) : p := h H.out G0.out
theorem zr4 {p q : Prop} (H : Aside0 q) (h : q → p := by intro h_; repeat (first | (with_reducible first | exact h_ | exact Below.refl _ _ | apply below_alloc | apply pw_below_drewN | apply below_drew1) | exact h_)) : p := h H.out
open Go.Proofs.YtdgglhfnlljmeaaX



def errW : Option Int → Value
 | none => .nilIface
 | some c => .iface 0 (.int .i64 c)
theorem errW_none : errW none = .nilIface := rfl
theorem errW_some (c : Int) : errW (some c) = .iface 0 (.int .i64 c) := rfl

theorem info2 : (Try.prog.info? 2).map (fun i => (i.zero, i.size, i.bytes)) = some (some (.int .i64 0), 1, 8) := by kernel_rfl
theorem info5 : (Try.prog.info? 5).map (fun i => (i.zero, i.size, i.bytes)) = some (some (.int .u8 0), 1, 1) := by kernel_rfl
theorem info65 : (Try.prog.info? 65).map (fun i => (i.zero, i.size, i.bytes)) = some (some (.agg #[(.string ⟨#[]⟩), (.int .i64 0), (.int .i64 0), (.int .i64 0), (.int .i64 0), (.int .i64 0), (.int .i64 0), (.int .i64 0), (.int .i64 0)]), 9, 80) := by kernel_rfl
-- the values' own types
/-! #### struct type 62 -/
structure S62 where
 f0 : ByteArray
 f1 : Int
 f2 : Int
 f3 : Int
 f4 : Int
 f5 : Int
 f6 : Int
 f7 : Int
 f8 : Int
def z62 : S62 := ⟨(⟨#[]⟩ : ByteArray), (0 : Int), (0 : Int), (0 : Int), (0 : Int), (0 : Int), (0 : Int), (0 : Int), (0 : Int)⟩
def k62 : Kd S62 := Kd.iso (Kd.pair Kd.string (Kd.pair (Kd.int .i64) (Kd.pair (Kd.int .i64) (Kd.pair (Kd.int .i64) (Kd.pair (Kd.int .i64) (Kd.pair (Kd.int .i64) (Kd.pair (Kd.int .i64) (Kd.pair (Kd.int .i64) (Kd.int .i64))))))))) (fun x : S62 => (x.f0, x.f1, x.f2, x.f3, x.f4, x.f5, x.f6, x.f7, x.f8))
theorem k62_open {w : World} {x : S62} {cs : List Value} (h : k62.K w x cs) : cs = [.string x.f0, .int .i64 x.f1, .int .i64 x.f2, .int .i64 x.f3, .int .i64 x.f4, .int .i64 x.f5, .int .i64 x.f6, .int .i64 x.f7, .int .i64 x.f8] := by
 obtain ⟨_, _, rfl, rfl, ⟨_, _, rfl, rfl, ⟨_, _, rfl, rfl, ⟨_, _, rfl, rfl, ⟨_, _, rfl, rfl, ⟨_, _, rfl, rfl, ⟨_, _, rfl, rfl, ⟨_, _, rfl, rfl, rfl⟩⟩⟩⟩⟩⟩⟩⟩ := h
 exact rfl
theorem k62_openM {w : World} {base : Nat} {ok : Nat → Prop} {x : S62} {cs : List Value} (h : k62.M w base ok x cs) : cs = [.string x.f0, .int .i64 x.f1, .int .i64 x.f2, .int .i64 x.f3, .int .i64 x.f4, .int .i64 x.f5, .int .i64 x.f6, .int .i64 x.f7, .int .i64 x.f8] := by
 obtain ⟨_, _, rfl, rfl, ⟨_, _, rfl, rfl, ⟨_, _, rfl, rfl, ⟨_, _, rfl, rfl, ⟨_, _, rfl, rfl, ⟨_, _, rfl, rfl, ⟨_, _, rfl, rfl, ⟨_, _, rfl, rfl, rfl⟩⟩⟩⟩⟩⟩⟩⟩ := h
 exact rfl
theorem k62_mk (w : World) (x : S62)  : k62.K w x [.string x.f0, .int .i64 x.f1, .int .i64 x.f2, .int .i64 x.f3, .int .i64 x.f4, .int .i64 x.f5, .int .i64 x.f6, .int .i64 x.f7, .int .i64 x.f8] := ⟨[.string x.f0], [.int .i64 x.f1, .int .i64 x.f2, .int .i64 x.f3, .int .i64 x.f4, .int .i64 x.f5, .int .i64 x.f6, .int .i64 x.f7, .int .i64 x.f8], rfl, rfl, ⟨[.int .i64 x.f1], [.int .i64 x.f2, .int .i64 x.f3, .int .i64 x.f4, .int .i64 x.f5, .int .i64 x.f6, .int .i64 x.f7, .int .i64 x.f8], rfl, rfl, ⟨[.int .i64 x.f2], [.int .i64 x.f3, .int .i64 x.f4, .int .i64 x.f5, .int .i64 x.f6, .int .i64 x.f7, .int .i64 x.f8], rfl, rfl, ⟨[.int .i64 x.f3], [.int .i64 x.f4, .int .i64 x.f5, .int .i64 x.f6, .int .i64 x.f7, .int .i64 x.f8], rfl, rfl, ⟨[.int .i64 x.f4], [.int .i64 x.f5, .int .i64 x.f6, .int .i64 x.f7, .int .i64 x.f8], rfl, rfl, ⟨[.int .i64 x.f5], [.int .i64 x.f6, .int .i64 x.f7, .int .i64 x.f8], rfl, rfl, ⟨[.int .i64 x.f6], [.int .i64 x.f7, .int .i64 x.f8], rfl, rfl, ⟨[.int .i64 x.f7], [.int .i64 x.f8], rfl, rfl, rfl⟩⟩⟩⟩⟩⟩⟩⟩
theorem k62_mkM (w : World) (base : Nat) (ok : Nat → Prop) (x : S62)  : k62.M w base ok x [.string x.f0, .int .i64 x.f1, .int .i64 x.f2, .int .i64 x.f3, .int .i64 x.f4, .int .i64 x.f5, .int .i64 x.f6, .int .i64 x.f7, .int .i64 x.f8] := ⟨[.string x.f0], [.int .i64 x.f1, .int .i64 x.f2, .int .i64 x.f3, .int .i64 x.f4, .int .i64 x.f5, .int .i64 x.f6, .int .i64 x.f7, .int .i64 x.f8], rfl, rfl, ⟨[.int .i64 x.f1], [.int .i64 x.f2, .int .i64 x.f3, .int .i64 x.f4, .int .i64 x.f5, .int .i64 x.f6, .int .i64 x.f7, .int .i64 x.f8], rfl, rfl, ⟨[.int .i64 x.f2], [.int .i64 x.f3, .int .i64 x.f4, .int .i64 x.f5, .int .i64 x.f6, .int .i64 x.f7, .int .i64 x.f8], rfl, rfl, ⟨[.int .i64 x.f3], [.int .i64 x.f4, .int .i64 x.f5, .int .i64 x.f6, .int .i64 x.f7, .int .i64 x.f8], rfl, rfl, ⟨[.int .i64 x.f4], [.int .i64 x.f5, .int .i64 x.f6, .int .i64 x.f7, .int .i64 x.f8], rfl, rfl, ⟨[.int .i64 x.f5], [.int .i64 x.f6, .int .i64 x.f7, .int .i64 x.f8], rfl, rfl, ⟨[.int .i64 x.f6], [.int .i64 x.f7, .int .i64 x.f8], rfl, rfl, ⟨[.int .i64 x.f7], [.int .i64 x.f8], rfl, rfl, rfl⟩⟩⟩⟩⟩⟩⟩⟩
def rd_T62 (xs : List S62) (i : Int) : S62 := xs.getD i.toNat z62
theorem at_T62 {w : World} {A : Option Addr} {n : Nat} {xs : List S62} (h : Kd.C k62 w A n xs) (i : Int) (h0 : 0 ≤ i) (h1 : i < n) : ∃ ad , A = some ad ∧ w.cell? (ad.add (i.toNat * 9)) = some (.string (rd_T62 xs i).f0) ∧ w.cell? ⟨(ad.add (i.toNat * 9)).block, (ad.add (i.toNat * 9)).off + 1, none⟩ = some (.int .i64 (rd_T62 xs i).f1) ∧ w.cell? ⟨(ad.add (i.toNat * 9)).block, (ad.add (i.toNat * 9)).off + 2, none⟩ = some (.int .i64 (rd_T62 xs i).f2) ∧ w.cell? ⟨(ad.add (i.toNat * 9)).block, (ad.add (i.toNat * 9)).off + 3, none⟩ = some (.int .i64 (rd_T62 xs i).f3) ∧ w.cell? ⟨(ad.add (i.toNat * 9)).block, (ad.add (i.toNat * 9)).off + 4, none⟩ = some (.int .i64 (rd_T62 xs i).f4) ∧ w.cell? ⟨(ad.add (i.toNat * 9)).block, (ad.add (i.toNat * 9)).off + 5, none⟩ = some (.int .i64 (rd_T62 xs i).f5) ∧ w.cell? ⟨(ad.add (i.toNat * 9)).block, (ad.add (i.toNat * 9)).off + 6, none⟩ = some (.int .i64 (rd_T62 xs i).f6) ∧ w.cell? ⟨(ad.add (i.toNat * 9)).block, (ad.add (i.toNat * 9)).off + 7, none⟩ = some (.int .i64 (rd_T62 xs i).f7) ∧ w.cell? ⟨(ad.add (i.toNat * 9)).block, (ad.add (i.toNat * 9)).off + 8, none⟩ = some (.int .i64 (rd_T62 xs i).f8) := by
 obtain ⟨ad, c, e, _, hK, hc0⟩ := Kd.C_get h z62 i h0 h1
 have hc : ∀ j u, c[j]? = some u → w.cell? (ad.add (i.toNat * 9 + j)) = some u := hc0
 obtain rfl := k62_open hK
 exact ⟨ad, e, hc 0 _ rfl, by rw [← add_field _ _ 1 (by omega)]; exact hc 1 _ rfl, by rw [← add_field _ _ 2 (by omega)]; exact hc 2 _ rfl, by rw [← add_field _ _ 3 (by omega)]; exact hc 3 _ rfl, by rw [← add_field _ _ 4 (by omega)]; exact hc 4 _ rfl, by rw [← add_field _ _ 5 (by omega)]; exact hc 5 _ rfl, by rw [← add_field _ _ 6 (by omega)]; exact hc 6 _ rfl, by rw [← add_field _ _ 7 (by omega)]; exact hc 7 _ rfl, by rw [← add_field _ _ 8 (by omega)]; exact hc 8 _ rfl⟩

/-! #### struct type 65 -/
structure S65 where
 f0 : ByteArray
 f1 : Int
 f2 : Int
 f3 : Int
 f4 : Int
 f5 : Int
 f6 : Int
 f7 : Int
 f8 : Int
def z65 : S65 := ⟨(⟨#[]⟩ : ByteArray), (0 : Int), (0 : Int), (0 : Int), (0 : Int), (0 : Int), (0 : Int), (0 : Int), (0 : Int)⟩
def k65 : Kd S65 := Kd.iso (Kd.pair Kd.string (Kd.pair (Kd.int .i64) (Kd.pair (Kd.int .i64) (Kd.pair (Kd.int .i64) (Kd.pair (Kd.int .i64) (Kd.pair (Kd.int .i64) (Kd.pair (Kd.int .i64) (Kd.pair (Kd.int .i64) (Kd.int .i64))))))))) (fun x : S65 => (x.f0, x.f1, x.f2, x.f3, x.f4, x.f5, x.f6, x.f7, x.f8))
theorem k65_open {w : World} {x : S65} {cs : List Value} (h : k65.K w x cs) : cs = [.string x.f0, .int .i64 x.f1, .int .i64 x.f2, .int .i64 x.f3, .int .i64 x.f4, .int .i64 x.f5, .int .i64 x.f6, .int .i64 x.f7, .int .i64 x.f8] := by
 obtain ⟨_, _, rfl, rfl, ⟨_, _, rfl, rfl, ⟨_, _, rfl, rfl, ⟨_, _, rfl, rfl, ⟨_, _, rfl, rfl, ⟨_, _, rfl, rfl, ⟨_, _, rfl, rfl, ⟨_, _, rfl, rfl, rfl⟩⟩⟩⟩⟩⟩⟩⟩ := h
 exact rfl
theorem k65_openM {w : World} {base : Nat} {ok : Nat → Prop} {x : S65} {cs : List Value} (h : k65.M w base ok x cs) : cs = [.string x.f0, .int .i64 x.f1, .int .i64 x.f2, .int .i64 x.f3, .int .i64 x.f4, .int .i64 x.f5, .int .i64 x.f6, .int .i64 x.f7, .int .i64 x.f8] := by
 obtain ⟨_, _, rfl, rfl, ⟨_, _, rfl, rfl, ⟨_, _, rfl, rfl, ⟨_, _, rfl, rfl, ⟨_, _, rfl, rfl, ⟨_, _, rfl, rfl, ⟨_, _, rfl, rfl, ⟨_, _, rfl, rfl, rfl⟩⟩⟩⟩⟩⟩⟩⟩ := h
 exact rfl
theorem k65_mk (w : World) (x : S65)  : k65.K w x [.string x.f0, .int .i64 x.f1, .int .i64 x.f2, .int .i64 x.f3, .int .i64 x.f4, .int .i64 x.f5, .int .i64 x.f6, .int .i64 x.f7, .int .i64 x.f8] := ⟨[.string x.f0], [.int .i64 x.f1, .int .i64 x.f2, .int .i64 x.f3, .int .i64 x.f4, .int .i64 x.f5, .int .i64 x.f6, .int .i64 x.f7, .int .i64 x.f8], rfl, rfl, ⟨[.int .i64 x.f1], [.int .i64 x.f2, .int .i64 x.f3, .int .i64 x.f4, .int .i64 x.f5, .int .i64 x.f6, .int .i64 x.f7, .int .i64 x.f8], rfl, rfl, ⟨[.int .i64 x.f2], [.int .i64 x.f3, .int .i64 x.f4, .int .i64 x.f5, .int .i64 x.f6, .int .i64 x.f7, .int .i64 x.f8], rfl, rfl, ⟨[.int .i64 x.f3], [.int .i64 x.f4, .int .i64 x.f5, .int .i64 x.f6, .int .i64 x.f7, .int .i64 x.f8], rfl, rfl, ⟨[.int .i64 x.f4], [.int .i64 x.f5, .int .i64 x.f6, .int .i64 x.f7, .int .i64 x.f8], rfl, rfl, ⟨[.int .i64 x.f5], [.int .i64 x.f6, .int .i64 x.f7, .int .i64 x.f8], rfl, rfl, ⟨[.int .i64 x.f6], [.int .i64 x.f7, .int .i64 x.f8], rfl, rfl, ⟨[.int .i64 x.f7], [.int .i64 x.f8], rfl, rfl, rfl⟩⟩⟩⟩⟩⟩⟩⟩
theorem k65_mkM (w : World) (base : Nat) (ok : Nat → Prop) (x : S65)  : k65.M w base ok x [.string x.f0, .int .i64 x.f1, .int .i64 x.f2, .int .i64 x.f3, .int .i64 x.f4, .int .i64 x.f5, .int .i64 x.f6, .int .i64 x.f7, .int .i64 x.f8] := ⟨[.string x.f0], [.int .i64 x.f1, .int .i64 x.f2, .int .i64 x.f3, .int .i64 x.f4, .int .i64 x.f5, .int .i64 x.f6, .int .i64 x.f7, .int .i64 x.f8], rfl, rfl, ⟨[.int .i64 x.f1], [.int .i64 x.f2, .int .i64 x.f3, .int .i64 x.f4, .int .i64 x.f5, .int .i64 x.f6, .int .i64 x.f7, .int .i64 x.f8], rfl, rfl, ⟨[.int .i64 x.f2], [.int .i64 x.f3, .int .i64 x.f4, .int .i64 x.f5, .int .i64 x.f6, .int .i64 x.f7, .int .i64 x.f8], rfl, rfl, ⟨[.int .i64 x.f3], [.int .i64 x.f4, .int .i64 x.f5, .int .i64 x.f6, .int .i64 x.f7, .int .i64 x.f8], rfl, rfl, ⟨[.int .i64 x.f4], [.int .i64 x.f5, .int .i64 x.f6, .int .i64 x.f7, .int .i64 x.f8], rfl, rfl, ⟨[.int .i64 x.f5], [.int .i64 x.f6, .int .i64 x.f7, .int .i64 x.f8], rfl, rfl, ⟨[.int .i64 x.f6], [.int .i64 x.f7, .int .i64 x.f8], rfl, rfl, ⟨[.int .i64 x.f7], [.int .i64 x.f8], rfl, rfl, rfl⟩⟩⟩⟩⟩⟩⟩⟩
def rd_T65 (xs : List S65) (i : Int) : S65 := xs.getD i.toNat z65
theorem at_T65 {w : World} {A : Option Addr} {n : Nat} {xs : List S65} (h : Kd.C k65 w A n xs) (i : Int) (h0 : 0 ≤ i) (h1 : i < n) : ∃ ad , A = some ad ∧ w.cell? (ad.add (i.toNat * 9)) = some (.string (rd_T65 xs i).f0) ∧ w.cell? ⟨(ad.add (i.toNat * 9)).block, (ad.add (i.toNat * 9)).off + 1, none⟩ = some (.int .i64 (rd_T65 xs i).f1) ∧ w.cell? ⟨(ad.add (i.toNat * 9)).block, (ad.add (i.toNat * 9)).off + 2, none⟩ = some (.int .i64 (rd_T65 xs i).f2) ∧ w.cell? ⟨(ad.add (i.toNat * 9)).block, (ad.add (i.toNat * 9)).off + 3, none⟩ = some (.int .i64 (rd_T65 xs i).f3) ∧ w.cell? ⟨(ad.add (i.toNat * 9)).block, (ad.add (i.toNat * 9)).off + 4, none⟩ = some (.int .i64 (rd_T65 xs i).f4) ∧ w.cell? ⟨(ad.add (i.toNat * 9)).block, (ad.add (i.toNat * 9)).off + 5, none⟩ = some (.int .i64 (rd_T65 xs i).f5) ∧ w.cell? ⟨(ad.add (i.toNat * 9)).block, (ad.add (i.toNat * 9)).off + 6, none⟩ = some (.int .i64 (rd_T65 xs i).f6) ∧ w.cell? ⟨(ad.add (i.toNat * 9)).block, (ad.add (i.toNat * 9)).off + 7, none⟩ = some (.int .i64 (rd_T65 xs i).f7) ∧ w.cell? ⟨(ad.add (i.toNat * 9)).block, (ad.add (i.toNat * 9)).off + 8, none⟩ = some (.int .i64 (rd_T65 xs i).f8) := by
 obtain ⟨ad, c, e, _, hK, hc0⟩ := Kd.C_get h z65 i h0 h1
 have hc : ∀ j u, c[j]? = some u → w.cell? (ad.add (i.toNat * 9 + j)) = some u := hc0
 obtain rfl := k65_open hK
 exact ⟨ad, e, hc 0 _ rfl, by rw [← add_field _ _ 1 (by omega)]; exact hc 1 _ rfl, by rw [← add_field _ _ 2 (by omega)]; exact hc 2 _ rfl, by rw [← add_field _ _ 3 (by omega)]; exact hc 3 _ rfl, by rw [← add_field _ _ 4 (by omega)]; exact hc 4 _ rfl, by rw [← add_field _ _ 5 (by omega)]; exact hc 5 _ rfl, by rw [← add_field _ _ 6 (by omega)]; exact hc 6 _ rfl, by rw [← add_field _ _ 7 (by omega)]; exact hc 7 _ rfl, by rw [← add_field _ _ 8 (by omega)]; exact hc 8 _ rfl⟩


















/-! ### laws_szArticle: function 46 -/
def laws_szArticle.f (a0_0 : ByteArray) (a0_1 : Int) (a0_2 : Int) (a0_3 : Int) (a0_4 : Int) (a0_5 : Int) (a0_6 : Int) (a0_7 : Int) (a0_8 : Int) (a1 : Int) : Option (Int) := if (wrap64 (a1 - (a0_0.size : Int))) < 0 then (some (-1)) else (some (wrap64 (a1 - (a0_0.size : Int))))
set_option maxHeartbeats 8000000 in
set_option maxRecDepth 100000 in
theorem laws_szArticle.calls (a0_0 : ByteArray) (a0_1 : Int) (a0_2 : Int) (a0_3 : Int) (a0_4 : Int) (a0_5 : Int) (a0_6 : Int) (a0_7 : Int) (a0_8 : Int) (a1 : Int) (r : Int) (w : World) (h : laws_szArticle.f a0_0 a0_1 a0_2 a0_3 a0_4 a0_5 a0_6 a0_7 a0_8 a1 = some r) :
  Calls Try.prog 46 #[.agg #[.string a0_0, .int .i64 a0_1, .int .i64 a0_2, .int .i64 a0_3, .int .i64 a0_4, .int .i64 a0_5, .int .i64 a0_6, .int .i64 a0_7, .int .i64 a0_8], .int .i64 a1] w fun e w' => e = .returned (.int .i64 r) ∧ Below w.heap.size w w' := by
 have hu62 := Try.underlying62
 have HB := jA (Below.refl w.heap.size w)
 have H := h
 unfold laws_szArticle.f at H
 clear h
 by_cases c3 : (wrap64 (a1 - (a0_0.size : Int))) < 0
 ·rw [if_pos c3] at H
  have c3b0 : decide ((wrap64 (a1 - (a0_0.size : Int))) < 0) = true := jI c3
  clear c3
  obtain rfl := jH H
  go_enter Try.func46, Try.ntmps46
  go_wp2_with (first | ((with_reducible refine jJ (N := 2) rfl ?_); refine zE 2 #[.string a0_0, .int .i64 a0_1, .int .i64 a0_2, .int .i64 a0_3, .int .i64 a0_4, .int .i64 a0_5, .int .i64 a0_6, .int .i64 a0_7, .int .i64 a0_8] 62 ?_; intro gb101 hg w4 hbox hb; have BK101 := jA (hbox); have GW101 := zg0 hg HB; have GE101 := zg0 hg HB; replace HB := zS0 HB hb; clear hb hbox hg; have hcz5 := zc9 BK101))
  go_ret
  exact ⟨ze, zb1 HB GE101⟩
 ·rw [if_neg c3] at H
  have c3b0 : decide ((wrap64 (a1 - (a0_0.size : Int))) < 0) = false := jM c3
  clear c3
  obtain rfl := jH H
  go_enter Try.func46, Try.ntmps46
  go_wp2_with (first | ((with_reducible refine jJ (N := 2) rfl ?_); refine zE 2 #[.string a0_0, .int .i64 a0_1, .int .i64 a0_2, .int .i64 a0_3, .int .i64 a0_4, .int .i64 a0_5, .int .i64 a0_6, .int .i64 a0_7, .int .i64 a0_8] 62 ?_; intro gb101 hg w6 hbox hb; have BK101 := jA (hbox); have GW101 := zg0 hg HB; have GE101 := zg0 hg HB; replace HB := zS0 HB hb; clear hb hbox hg; have hcz7 := zc9 BK101))
  go_ret
  exact ⟨ze, zb1 HB GE101⟩

/-! ### laws_szArticleS: function 13 -/
def laws_szArticleS.l0 : Nat → List (S62) → Int → Int → Option (Int)
 | 0, _, _, _ => none
 | k + 1, x0, x1, x5 => if x5 < (x0.length : Int) then (if 0 ≤ x5 then ((laws_szArticle.f ((rd_T62 x0 x5).f0) ((rd_T62 x0 x5).f1) ((rd_T62 x0 x5).f2) ((rd_T62 x0 x5).f3) ((rd_T62 x0 x5).f4) ((rd_T62 x0 x5).f5) ((rd_T62 x0 x5).f6) ((rd_T62 x0 x5).f7) ((rd_T62 x0 x5).f8) x1).bind fun t103 => (if t103 < 0 then (some (-1)) else (laws_szArticleS.l0 k x0 t103 (wrap64 (x5 + 1))))) else (none)) else (some x1)
def laws_szArticleS.f (k : Nat) (l0 : List (S62)) (a1 : Int) : Option (Int) := if (wrap64 (a1 - (l0.length : Int))) < 0 then (some (-1)) else (laws_szArticleS.l0 k l0 (wrap64 (a1 - (l0.length : Int))) 0)
theorem laws_szArticleS.mono_l : ∀ k, (∀ y0 y1 y2, LeO (laws_szArticleS.l0 k y0 y1 y2) (laws_szArticleS.l0 (k + 1) y0 y1 y2))
 | 0 => fun _ _ _ r h => by simp [laws_szArticleS.l0] at h
 | k + 1 => by
  have ih0 := laws_szArticleS.mono_l k
  ·intro y0 y1 y2
   unfold laws_szArticleS.l0
   repeat' first
   | (with_reducible exact ih0 _ _ _)
   | (with_reducible exact LeO.refl _)
   | (with_reducible exact LeO.none _)
   | (with_reducible refine LeO.ite ?_ ?_)
   | (with_reducible refine LeO.bind ?_ (fun _ => ?_))
   | exact ih0 _ _ _
   | exact LeO.none _
   | refine LeO.ite ?_ ?_
   | refine LeO.bind ?_ (fun _ => ?_)
theorem laws_szArticleS.mono : ∀ a0 a1 k, LeO (laws_szArticleS.f k a0 a1) (laws_szArticleS.f (k + 1) a0 a1) := by
 intro a0 a1 k
 have ih0 := laws_szArticleS.mono_l k
 unfold laws_szArticleS.f
 repeat' first
   | (with_reducible exact ih0 _ _ _)
   | (with_reducible exact LeO.refl _)
   | (with_reducible exact LeO.none _)
   | (with_reducible refine LeO.ite ?_ ?_)
   | (with_reducible refine LeO.bind ?_ (fun _ => ?_))
   | exact ih0 _ _ _
   | exact LeO.none _
   | refine LeO.ite ?_ ?_
   | refine LeO.bind ?_ (fun _ => ?_)
set_option maxHeartbeats 8000000 in
set_option maxRecDepth 100000 in
theorem laws_szArticleS.calls (k : Nat) (A0 : Option Addr) (c0 : Nat) (l0 : List (S62)) (a1 : Int) (r : Int) (w : World) (hr0 : Kd.C k62 w A0 l0.length l0) (hc0 : l0.length ≤ c0) (h : laws_szArticleS.f k l0 a1 = some r) :
  Calls Try.prog 13 #[.slice A0 l0.length c0, .int .i64 a1] w fun e w' => e = .returned (.int .i64 r) ∧ Below w.heap.size w w' := by
 have hu62 := Try.underlying62
 have HR0 := jA hr0
 have HC0 := jA hc0
 clear hr0 hc0
 have HB := jA (Below.refl w.heap.size w)
 have H := h
 unfold laws_szArticleS.f at H
 clear h
 by_cases c3 : (wrap64 (a1 - (l0.length : Int))) < 0
 ·rw [if_pos c3] at H
  have c3b0 : decide ((wrap64 (a1 - (l0.length : Int))) < 0) = true := jI c3
  clear c3
  obtain rfl := jH H
  go_enter Try.func13, Try.ntmps13
  go_wp2
  go_ret
  exact ⟨ze, zb0 HB⟩
 ·rw [if_neg c3] at H
  have c3b0 : decide ((wrap64 (a1 - (l0.length : Int))) < 0) = false := jM c3
  clear c3
  have H' := jA H
  clear H
  go_enter Try.func13, Try.ntmps13
  go_wp2
  go_loopg [1, 5] k (fun kq v1 v5 w' => ∃ (x1_1 : Int) (x5_1 : Int), v1 = .int .i64 x1_1 ∧ v5 = .int .i64 x5_1 ∧ Aside0 (laws_szArticleS.l0 kq l0 x1_1 x5_1 = some r) ∧ Aside0 (kq ≤ k) ∧ Aside0 (Below w.heap.size w w'))
  case atStart => exact ⟨(wrap64 (a1 - (l0.length : Int))), (0), zz, zz, H', ⟨Nat.le_refl _⟩, ⟨zb0 HB⟩⟩
  case round =>
   clear H'
   try clear c1
   try clear p2
   try clear c3
   try clear c3b0
   obtain ⟨x1_1, x5_1, rfl, rfl, HA, HK1, HB⟩ := hrel
   cases gk with
   | zero => exact absurd HA.out (by simp [laws_szArticleS.l0])
   | succ k1 =>
    have H := HA.out
    clear HA
    simp only [laws_szArticleS.l0] at H
    by_cases c4 : x5_1 < (l0.length : Int)
    ·rw [if_pos c4] at H
     have c4b0 : decide (x5_1 < (l0.length : Int)) = true := jI c4
     clear c4
     by_cases c5 : 0 ≤ x5_1
     ·rw [if_pos c5] at H
      have c5b0 : decide (0 ≤ x5_1) = true := jI c5
      clear c5
      replace H := jG.mp H
      obtain ⟨t103, A60, H⟩ := H
      replace H : (if t103 < 0 then (some (-1)) else (laws_szArticleS.l0 k1 l0 t103 (wrap64 (x5_1 + 1)))) = some r := H
      have A6 := jA A60
      clear A60
      by_cases c7 : t103 < 0
      ·rw [if_pos c7] at H
       have c7b0 : decide (t103 < 0) = true := jI c7
       clear c7
       obtain rfl := jH H
       have p102 : 0 ≤ (x5_1 : Int) := jB za
       have q102 : x5_1 < (l0.length : Int) := jB za
       obtain ⟨ad102, e102, hx102_0, hx102_1, hx102_2, hx102_3, hx102_4, hx102_5, hx102_6, hx102_7, hx102_8⟩ := at_T62 HR0.out x5_1 p102 q102
       cases e102
       replace hx102_0 := zx HB hx102_0
       replace hx102_1 := zx HB hx102_1
       replace hx102_2 := zx HB hx102_2
       replace hx102_3 := zx HB hx102_3
       replace hx102_4 := zx HB hx102_4
       replace hx102_5 := zx HB hx102_5
       replace hx102_6 := zx HB hx102_6
       replace hx102_7 := zx HB hx102_7
       replace hx102_8 := zx HB hx102_8
       replace p102 := eq_true p102
       replace q102 := eq_true q102
       go_wp2_with (first | ((with_reducible refine jK (f := 46) rfl ?_); refine zL (some 23) Try.func46 #[.agg #[.string ((rd_T62 l0 x5_1).f0), .int .i64 ((rd_T62 l0 x5_1).f1), .int .i64 ((rd_T62 l0 x5_1).f2), .int .i64 ((rd_T62 l0 x5_1).f3), .int .i64 ((rd_T62 l0 x5_1).f4), .int .i64 ((rd_T62 l0 x5_1).f5), .int .i64 ((rd_T62 l0 x5_1).f6), .int .i64 ((rd_T62 l0 x5_1).f7), .int .i64 ((rd_T62 l0 x5_1).f8)], .int .i64 x1_1] ?_; (with_reducible refine (laws_szArticle.calls ((rd_T62 l0 x5_1).f0) ((rd_T62 l0 x5_1).f1) ((rd_T62 l0 x5_1).f2) ((rd_T62 l0 x5_1).f3) ((rd_T62 l0 x5_1).f4) ((rd_T62 l0 x5_1).f5) ((rd_T62 l0 x5_1).f6) ((rd_T62 l0 x5_1).f7) ((rd_T62 l0 x5_1).f8) x1_1 t103 _ A6.out).mono ?_); rintro e w8 ⟨rfl, hb⟩; refine ⟨_, rfl, ?_⟩; replace HB := zS0 HB hb; clear hb))
       go_ret
       exact ⟨ze, zb0 HB⟩
      ·rw [if_neg c7] at H
       have c7b0 : decide (t103 < 0) = false := jM c7
       clear c7
       have H' := jA H
       clear H
       have p102 : 0 ≤ (x5_1 : Int) := jB za
       have q102 : x5_1 < (l0.length : Int) := jB za
       obtain ⟨ad102, e102, hx102_0, hx102_1, hx102_2, hx102_3, hx102_4, hx102_5, hx102_6, hx102_7, hx102_8⟩ := at_T62 HR0.out x5_1 p102 q102
       cases e102
       replace hx102_0 := zx HB hx102_0
       replace hx102_1 := zx HB hx102_1
       replace hx102_2 := zx HB hx102_2
       replace hx102_3 := zx HB hx102_3
       replace hx102_4 := zx HB hx102_4
       replace hx102_5 := zx HB hx102_5
       replace hx102_6 := zx HB hx102_6
       replace hx102_7 := zx HB hx102_7
       replace hx102_8 := zx HB hx102_8
       replace p102 := eq_true p102
       replace q102 := eq_true q102
       go_wp2_with (first | ((with_reducible refine jK (f := 46) rfl ?_); refine zL (some 23) Try.func46 #[.agg #[.string ((rd_T62 l0 x5_1).f0), .int .i64 ((rd_T62 l0 x5_1).f1), .int .i64 ((rd_T62 l0 x5_1).f2), .int .i64 ((rd_T62 l0 x5_1).f3), .int .i64 ((rd_T62 l0 x5_1).f4), .int .i64 ((rd_T62 l0 x5_1).f5), .int .i64 ((rd_T62 l0 x5_1).f6), .int .i64 ((rd_T62 l0 x5_1).f7), .int .i64 ((rd_T62 l0 x5_1).f8)], .int .i64 x1_1] ?_; (with_reducible refine (laws_szArticle.calls ((rd_T62 l0 x5_1).f0) ((rd_T62 l0 x5_1).f1) ((rd_T62 l0 x5_1).f2) ((rd_T62 l0 x5_1).f3) ((rd_T62 l0 x5_1).f4) ((rd_T62 l0 x5_1).f5) ((rd_T62 l0 x5_1).f6) ((rd_T62 l0 x5_1).f7) ((rd_T62 l0 x5_1).f8) x1_1 t103 _ A6.out).mono ?_); rintro e w9 ⟨rfl, hb⟩; refine ⟨_, rfl, ?_⟩; replace HB := zS0 HB hb; clear hb))
       go_roundg k1
       case measure => have := HK1.out; omega
       case rel => exact ⟨(t103), (wrap64 (x5_1 + 1)), zz, zz, H', ⟨by have := HK1.out; omega⟩, ⟨zb0 HB⟩⟩
     ·rw [if_neg c5] at H
      exact absurd H (by simp)
    ·rw [if_neg c4] at H
     have c4b0 : decide (x5_1 < (l0.length : Int)) = false := jM c4
     clear c4
     obtain rfl := jH H
     go_wp2
     go_ret
     exact ⟨ze, zb0 HB⟩

/-! ### laws_szInt64S: function 47 -/
def laws_szInt64S.f (l0 : List Int) (a1 : Int) : Option (Int) := if (wrap64 (a1 - (l0.length : Int))) < 0 then (some (-1)) else (some (wrap64 (a1 - (l0.length : Int))))
set_option maxHeartbeats 8000000 in
set_option maxRecDepth 100000 in
theorem laws_szInt64S.calls (A0 : Option Addr) (c0 : Nat) (l0 : List Int) (a1 : Int) (r : Int) (w : World) (hr0 : Kd.C (Kd.int .i64) w A0 l0.length l0) (hc0 : l0.length ≤ c0) (h : laws_szInt64S.f l0 a1 = some r) :
  Calls Try.prog 47 #[.slice A0 l0.length c0, .int .i64 a1] w fun e w' => e = .returned (.int .i64 r) ∧ Drawn0 w w' := by
 have HR0 := jA hr0
 have HC0 := jA hc0
 clear hr0 hc0
 have H := h
 unfold laws_szInt64S.f at H
 clear h
 by_cases c3 : (wrap64 (a1 - (l0.length : Int))) < 0
 ·rw [if_pos c3] at H
  have c3b0 : decide ((wrap64 (a1 - (l0.length : Int))) < 0) = true := jI c3
  clear c3
  obtain rfl := jH H
  go_enter Try.func47, Try.ntmps47
  go_wp2
  go_ret
  exact ⟨by first | rfl | (simp; done) | (simp [*]; done), by repeat (first | exact Drawn0.refl _ | apply Drawn0.step)⟩
 ·rw [if_neg c3] at H
  have c3b0 : decide ((wrap64 (a1 - (l0.length : Int))) < 0) = false := jM c3
  clear c3
  obtain rfl := jH H
  go_enter Try.func47, Try.ntmps47
  go_wp2
  go_ret
  exact ⟨by first | rfl | (simp; done) | (simp [*]; done), by repeat (first | exact Drawn0.refl _ | apply Drawn0.step)⟩

/-! ### laws_szMagazine: function 14 -/
def laws_szMagazine.f (a0_0 : Int) (l0_1 : List Int) (a1 : Int) : Option (Int) := (laws_szInt64S.f l0_1 a1).bind fun t105 => (if t105 < 0 then (some (-1)) else (some t105))
set_option maxHeartbeats 8000000 in
set_option maxRecDepth 100000 in
theorem laws_szMagazine.calls (a0_0 : Int) (A0_1 : Option Addr) (c0_1 : Nat) (l0_1 : List Int) (a1 : Int) (r : Int) (w : World) (hr0_1 : Kd.C (Kd.int .i64) w A0_1 l0_1.length l0_1) (hc0_1 : l0_1.length ≤ c0_1) (h : laws_szMagazine.f a0_0 l0_1 a1 = some r) :
  Calls Try.prog 14 #[.agg #[.int .i64 a0_0, .slice A0_1 l0_1.length c0_1], .int .i64 a1] w fun e w' => e = .returned (.int .i64 r) ∧ Below w.heap.size w w' := by
 have hu25 := Try.underlying25
 have HR0_1 := jA hr0_1
 have HC0_1 := jA hc0_1
 clear hr0_1 hc0_1
 have HB := jA (Below.refl w.heap.size w)
 have H := h
 unfold laws_szMagazine.f at H
 clear h
 replace H := jG.mp H
 obtain ⟨t105, A30, H⟩ := H
 try dsimp only at H
 have A3 := jA A30
 clear A30
 by_cases c4 : t105 < 0
 ·rw [if_pos c4] at H
  have c4b0 : decide (t105 < 0) = true := jI c4
  clear c4
  obtain rfl := jH H
  go_enter Try.func14, Try.ntmps14
  go_wp2_with (first | ((with_reducible refine jJ (N := 2) rfl ?_); refine zE 2 #[.int .i64 a0_0, .slice A0_1 l0_1.length c0_1] 25 ?_; intro gb104 hg w5 hbox hb; have BK104 := jA (hbox); have GW104 := zg0 hg HB; have GE104 := zg0 hg HB; replace HB := zS0 HB hb; clear hb hbox hg; have hcz6 := zc2 BK104) | ((with_reducible refine jK (f := 47) rfl ?_); refine zL (some 8) Try.func47 #[.slice A0_1 l0_1.length c0_1, .int .i64 a1] ?_; (with_reducible refine (laws_szInt64S.calls _ _ l0_1 a1 t105 _ ?side1 ?side2 A3.out).mono ?_); (case side1 => exact zs HR0_1 HB); (case side2 => exact HC0_1.out); rintro e w' ⟨rfl, ⟨nd, rfl⟩⟩; refine ⟨_, rfl, ?_⟩))
  go_ret
  exact ⟨ze, zb1 HB GE104⟩
 ·rw [if_neg c4] at H
  have c4b0 : decide (t105 < 0) = false := jM c4
  clear c4
  obtain rfl := jH H
  go_enter Try.func14, Try.ntmps14
  go_wp2_with (first | ((with_reducible refine jJ (N := 2) rfl ?_); refine zE 2 #[.int .i64 a0_0, .slice A0_1 l0_1.length c0_1] 25 ?_; intro gb104 hg w7 hbox hb; have BK104 := jA (hbox); have GW104 := zg0 hg HB; have GE104 := zg0 hg HB; replace HB := zS0 HB hb; clear hb hbox hg; have hcz8 := zc2 BK104) | ((with_reducible refine jK (f := 47) rfl ?_); refine zL (some 8) Try.func47 #[.slice A0_1 l0_1.length c0_1, .int .i64 a1] ?_; (with_reducible refine (laws_szInt64S.calls _ _ l0_1 a1 t105 _ ?side1 ?side2 A3.out).mono ?_); (case side1 => exact zs HR0_1 HB); (case side2 => exact HC0_1.out); rintro e w' ⟨rfl, ⟨nd, rfl⟩⟩; refine ⟨_, rfl, ?_⟩))
  go_ret
  exact ⟨ze, zb1 HB GE104⟩

/-! ### spec_l01In: function 58 -/
def spec_l01In.f (a0 : Int) (a1 : Int) (a2 : Int) : Option (Bool) := if a0 ≥ a1 then (some (decide (a0 ≤ a2))) else (some false)
set_option maxHeartbeats 8000000 in
set_option maxRecDepth 100000 in
theorem spec_l01In.calls (a0 : Int) (a1 : Int) (a2 : Int) (r : Bool) (w : World) (h : spec_l01In.f a0 a1 a2 = some r) :
  Calls Try.prog 58 #[.int .i64 a0, .int .i64 a1, .int .i64 a2] w fun e w' => e = .returned (.bool r) ∧ Drawn0 w w' := by
 have H : (if a0 ≥ a1 then (some (decide (a0 ≤ a2))) else (some false)) = some r := h
 clear h
 by_cases c4 : a0 ≥ a1
 ·rw [if_pos c4] at H
  have c4b0 : decide (a1 ≤ a0) = true := jI c4
  clear c4
  obtain rfl := jH H
  go_enter Try.func58, Try.ntmps58
  go_wp2
  go_ret
  exact ⟨by first | rfl | (simp; done) | (simp [*]; done), by repeat (first | exact Drawn0.refl _ | apply Drawn0.step)⟩
 ·rw [if_neg c4] at H
  have c4b0 : decide (a1 ≤ a0) = false := jM c4
  clear c4
  obtain rfl := jH H
  go_enter Try.func58, Try.ntmps58
  go_wp2
  go_ret
  exact ⟨by first | rfl | (simp; done) | (simp [*]; done), by repeat (first | exact Drawn0.refl _ | apply Drawn0.step)⟩

/-! ### spec_IsWord: function 94 -/
def spec_IsWord.l0 : Nat → ByteArray → Int → Option (Bool)
 | 0, _, _ => none
 | k + 1, x0, x3 => if x3 < (x0.size : Int) then (if 0 ≤ x3 then (if (bt x0 x3) < 97 then (some false) else (if (bt x0 x3) > 122 then (some false) else (spec_IsWord.l0 k x0 (wrap64 (x3 + 1))))) else (none)) else ((spec_l01In.f (x0.size : Int) 1 16).bind fun t106 => (some t106))
def spec_IsWord.f (k : Nat) (a0 : ByteArray) : Option (Bool) := spec_IsWord.l0 k a0 0
theorem spec_IsWord.mono_l : ∀ k, (∀ y0 y1, LeO (spec_IsWord.l0 k y0 y1) (spec_IsWord.l0 (k + 1) y0 y1))
 | 0 => fun _ _ r h => by simp [spec_IsWord.l0] at h
 | k + 1 => by
  have ih0 := spec_IsWord.mono_l k
  ·intro y0 y1
   unfold spec_IsWord.l0
   repeat' first
   | (with_reducible exact ih0 _ _)
   | (with_reducible exact LeO.refl _)
   | (with_reducible exact LeO.none _)
   | (with_reducible refine LeO.ite ?_ ?_)
   | (with_reducible refine LeO.bind ?_ (fun _ => ?_))
   | exact ih0 _ _
   | exact LeO.none _
   | refine LeO.ite ?_ ?_
   | refine LeO.bind ?_ (fun _ => ?_)
theorem spec_IsWord.mono : ∀ a0 k, LeO (spec_IsWord.f k a0) (spec_IsWord.f (k + 1) a0) := by
 intro a0 k
 have ih0 := spec_IsWord.mono_l k
 unfold spec_IsWord.f
 repeat' first
   | (with_reducible exact ih0 _ _)
   | (with_reducible exact LeO.refl _)
   | (with_reducible exact LeO.none _)
   | (with_reducible refine LeO.ite ?_ ?_)
   | (with_reducible refine LeO.bind ?_ (fun _ => ?_))
   | exact ih0 _ _
   | exact LeO.none _
   | refine LeO.ite ?_ ?_
   | refine LeO.bind ?_ (fun _ => ?_)
set_option maxHeartbeats 8000000 in
set_option maxRecDepth 100000 in
theorem spec_IsWord.calls (k : Nat) (a0 : ByteArray) (r : Bool) (w : World) (h : spec_IsWord.f k a0 = some r) :
  Calls Try.prog 94 #[.string a0] w fun e w' => e = .returned (.bool r) ∧ Drawn0 w w' := by
 have H : (spec_IsWord.l0 k a0 0) = some r := h
 clear h
 have H' := jA H
 clear H
 go_enter Try.func94, Try.ntmps94
 go_wp2
 go_loopg [3] k (fun kq v3 w' => ∃ (x3_1 : Int), v3 = .int .i64 x3_1 ∧ Aside0 (spec_IsWord.l0 kq a0 x3_1 = some r) ∧ Aside0 (kq ≤ k) ∧ Drawn0 w w')
 case atStart => exact ⟨(0), zz, H', ⟨Nat.le_refl _⟩, by repeat (first | exact Drawn0.refl _ | apply Drawn0.step)⟩
 case round =>
  clear H'
  obtain ⟨x3_1, rfl, HA, HK1, ⟨m1, rfl⟩⟩ := hrel
  cases gk with
  | zero => exact absurd HA.out (by simp [spec_IsWord.l0])
  | succ k1 =>
   have H := HA.out
   clear HA
   simp only [spec_IsWord.l0] at H
   by_cases c2 : x3_1 < (a0.size : Int)
   ·rw [if_pos c2] at H
    have c2b0 : decide (x3_1 < (a0.size : Int)) = true := jI c2
    clear c2
    by_cases c3 : 0 ≤ x3_1
    ·rw [if_pos c3] at H
     have c3b0 : decide (0 ≤ x3_1) = true := jI c3
     clear c3
     by_cases c5 : (bt a0 x3_1) < 97
     ·rw [if_pos c5] at H
      have c5b0 : decide ((bt a0 x3_1) < 97) = true := jI c5
      clear c5
      obtain rfl := jH H
      have p4 : 0 ≤ (x3_1 : Int) := jB za
      have q4 : x3_1 < (a0.size : Int) := jB za
      have hx4 := bt_at a0 x3_1
      replace p4 := eq_true p4
      replace q4 := eq_true q4
      go_wp2
      go_ret
      exact ⟨by first | rfl | (simp; done) | (simp [*]; done), by repeat (first | exact Drawn0.refl _ | apply Drawn0.step)⟩
     ·rw [if_neg c5] at H
      have c5b0 : decide ((bt a0 x3_1) < 97) = false := jM c5
      clear c5
      by_cases c7 : (bt a0 x3_1) > 122
      ·rw [if_pos c7] at H
       have c7b0 : decide (122 < (bt a0 x3_1)) = true := jI c7
       clear c7
       obtain rfl := jH H
       have p4 : 0 ≤ (x3_1 : Int) := jB za
       have q4 : x3_1 < (a0.size : Int) := jB za
       have hx4 := bt_at a0 x3_1
       replace p4 := eq_true p4
       replace q4 := eq_true q4
       have p6 : 0 ≤ (x3_1 : Int) := jB za
       have q6 : x3_1 < (a0.size : Int) := jB za
       have hx6 := bt_at a0 x3_1
       replace p6 := eq_true p6
       replace q6 := eq_true q6
       go_wp2
       go_ret
       exact ⟨by first | rfl | (simp; done) | (simp [*]; done), by repeat (first | exact Drawn0.refl _ | apply Drawn0.step)⟩
      ·rw [if_neg c7] at H
       have c7b0 : decide (122 < (bt a0 x3_1)) = false := jM c7
       clear c7
       have H' := jA H
       clear H
       have p4 : 0 ≤ (x3_1 : Int) := jB za
       have q4 : x3_1 < (a0.size : Int) := jB za
       have hx4 := bt_at a0 x3_1
       replace p4 := eq_true p4
       replace q4 := eq_true q4
       have p6 : 0 ≤ (x3_1 : Int) := jB za
       have q6 : x3_1 < (a0.size : Int) := jB za
       have hx6 := bt_at a0 x3_1
       replace p6 := eq_true p6
       replace q6 := eq_true q6
       go_wp2
       go_roundg k1
       case measure => have := HK1.out; omega
       case rel => exact ⟨(wrap64 (x3_1 + 1)), zz, H', ⟨by have := HK1.out; omega⟩, by repeat (first | exact Drawn0.refl _ | apply Drawn0.step)⟩
    ·rw [if_neg c3] at H
     exact absurd H (by simp)
   ·rw [if_neg c2] at H
    have c2b0 : decide (x3_1 < (a0.size : Int)) = false := jM c2
    clear c2
    replace H := jG.mp H
    obtain ⟨t106, A80, H⟩ := H
    replace H : (some t106) = some r := H
    have A8 := jA A80
    clear A80
    obtain rfl := jH H
    go_wp2_with (first | ((with_reducible refine jK (f := 58) rfl ?_); refine zL (some 22) Try.func58 #[.int .i64 (a0.size : Int), .int .i64 1, .int .i64 16] ?_; (with_reducible refine (spec_l01In.calls (a0.size : Int) 1 16 t106 _ A8.out).mono ?_); rintro e w' ⟨rfl, ⟨nd, rfl⟩⟩; refine ⟨_, rfl, ?_⟩))
    go_ret
    exact ⟨by first | rfl | (simp; done) | (simp [*]; done), by repeat (first | exact Drawn0.refl _ | apply Drawn0.step)⟩

/-! ### spec_IsArticle: function 89 -/
def spec_IsArticle.f (k : Nat) (a0_0 : ByteArray) (a0_1 : Int) (a0_2 : Int) (a0_3 : Int) (a0_4 : Int) (a0_5 : Int) (a0_6 : Int) (a0_7 : Int) (a0_8 : Int) : Option (Bool) := (spec_IsWord.f k a0_0).bind fun t108 => (if t108 = true then ((spec_l01In.f a0_1 0 3).bind fun t109 => (if t109 = true then ((spec_l01In.f a0_2 20 300).bind fun t110 => (if t110 = true then ((spec_l01In.f a0_3 0 10000).bind fun t111 => (if t111 = true then ((spec_l01In.f a0_4 0 a0_3).bind fun t112 => (if t112 = true then ((spec_l01In.f a0_5 1 50).bind fun t113 => (if t113 = true then ((spec_l01In.f a0_6 0 10000).bind fun t114 => (if t114 = true then ((spec_l01In.f a0_7 1 100000).bind fun t115 => (if t115 = true then ((spec_l01In.f a0_8 0 3).bind fun t116 => (some t116)) else (some false))) else (some false))) else (some false))) else (some false))) else (some false))) else (some false))) else (some false))) else (some false))
theorem spec_IsArticle.mono : ∀ a0 a1 a2 a3 a4 a5 a6 a7 a8 k, LeO (spec_IsArticle.f k a0 a1 a2 a3 a4 a5 a6 a7 a8) (spec_IsArticle.f (k + 1) a0 a1 a2 a3 a4 a5 a6 a7 a8) := by
 intro a0 a1 a2 a3 a4 a5 a6 a7 a8 k
 unfold spec_IsArticle.f
 repeat' first
   | (with_reducible exact spec_IsWord.mono _ _)
   | (with_reducible exact LeO.refl _)
   | (with_reducible exact LeO.none _)
   | (with_reducible refine LeO.ite ?_ ?_)
   | (with_reducible refine LeO.bind ?_ (fun _ => ?_))
   | exact spec_IsWord.mono _ _
   | exact LeO.none _
   | refine LeO.ite ?_ ?_
   | refine LeO.bind ?_ (fun _ => ?_)
set_option maxHeartbeats 8000000 in
set_option maxRecDepth 100000 in
theorem spec_IsArticle.calls (k : Nat) (a0_0 : ByteArray) (a0_1 : Int) (a0_2 : Int) (a0_3 : Int) (a0_4 : Int) (a0_5 : Int) (a0_6 : Int) (a0_7 : Int) (a0_8 : Int) (r : Bool) (w : World) (h : spec_IsArticle.f k a0_0 a0_1 a0_2 a0_3 a0_4 a0_5 a0_6 a0_7 a0_8 = some r) :
  Calls Try.prog 89 #[.agg #[.string a0_0, .int .i64 a0_1, .int .i64 a0_2, .int .i64 a0_3, .int .i64 a0_4, .int .i64 a0_5, .int .i64 a0_6, .int .i64 a0_7, .int .i64 a0_8]] w fun e w' => e = .returned (.bool r) ∧ Below w.heap.size w w' := by
 have hu65 := Try.underlying65
 have HB := jA (Below.refl w.heap.size w)
 have H := h
 unfold spec_IsArticle.f at H
 clear h
 replace H := jG.mp H
 obtain ⟨t108, A20, H⟩ := H
 try dsimp only at H
 have A2 := jA A20
 clear A20
 by_cases c3 : t108 = true
 ·subst c3
  rw [if_pos rfl] at H
  replace H := jG.mp H
  obtain ⟨t109, A40, H⟩ := H
  try dsimp only at H
  have A4 := jA A40
  clear A40
  by_cases c5 : t109 = true
  ·subst c5
   rw [if_pos rfl] at H
   replace H := jG.mp H
   obtain ⟨t110, A60, H⟩ := H
   try dsimp only at H
   have A6 := jA A60
   clear A60
   by_cases c7 : t110 = true
   ·subst c7
    rw [if_pos rfl] at H
    replace H := jG.mp H
    obtain ⟨t111, A80, H⟩ := H
    try dsimp only at H
    have A8 := jA A80
    clear A80
    by_cases c9 : t111 = true
    ·subst c9
     rw [if_pos rfl] at H
     replace H := jG.mp H
     obtain ⟨t112, A100, H⟩ := H
     try dsimp only at H
     have A10 := jA A100
     clear A100
     by_cases c11 : t112 = true
     ·subst c11
      rw [if_pos rfl] at H
      replace H := jG.mp H
      obtain ⟨t113, A120, H⟩ := H
      try dsimp only at H
      have A12 := jA A120
      clear A120
      by_cases c13 : t113 = true
      ·subst c13
       rw [if_pos rfl] at H
       replace H := jG.mp H
       obtain ⟨t114, A140, H⟩ := H
       try dsimp only at H
       have A14 := jA A140
       clear A140
       by_cases c15 : t114 = true
       ·subst c15
        rw [if_pos rfl] at H
        replace H := jG.mp H
        obtain ⟨t115, A160, H⟩ := H
        try dsimp only at H
        have A16 := jA A160
        clear A160
        by_cases c17 : t115 = true
        ·subst c17
         rw [if_pos rfl] at H
         replace H := jG.mp H
         obtain ⟨t116, A180, H⟩ := H
         replace H : (some t116) = some r := H
         have A18 := jA A180
         clear A180
         obtain rfl := jH H
         go_enter Try.func89, Try.ntmps89
         go_wp2_with (first | ((with_reducible refine jJ (N := 1) rfl ?_); refine zE 1 #[.string a0_0, .int .i64 a0_1, .int .i64 a0_2, .int .i64 a0_3, .int .i64 a0_4, .int .i64 a0_5, .int .i64 a0_6, .int .i64 a0_7, .int .i64 a0_8] 65 ?_; intro gb107 hg w19 hbox hb; have BK107 := jA (hbox); have GW107 := zg0 hg HB; have GE107 := zg0 hg HB; replace HB := zS0 HB hb; clear hb hbox hg; have hcz20 := zc9 BK107) | ((with_reducible refine jK (f := 94) rfl ?_); refine zL (some 5) Try.func94 #[.string a0_0] ?_; (with_reducible refine (spec_IsWord.calls k a0_0 true _ A2.out).mono ?_); rintro e w' ⟨rfl, ⟨nd, rfl⟩⟩; refine ⟨_, rfl, ?_⟩) | (go_at_call 58; (with_reducible refine (spec_l01In.calls a0_1 0 3 true _ A4.out).mono ?_); rintro e w' ⟨rfl, ⟨nd, rfl⟩⟩) | (go_at_call 58; (with_reducible refine (spec_l01In.calls a0_2 20 300 true _ A6.out).mono ?_); rintro e w' ⟨rfl, ⟨nd, rfl⟩⟩) | (go_at_call 58; (with_reducible refine (spec_l01In.calls a0_3 0 10000 true _ A8.out).mono ?_); rintro e w' ⟨rfl, ⟨nd, rfl⟩⟩) | (go_at_call 58; (with_reducible refine (spec_l01In.calls a0_4 0 a0_3 true _ A10.out).mono ?_); rintro e w' ⟨rfl, ⟨nd, rfl⟩⟩) | (go_at_call 58; (with_reducible refine (spec_l01In.calls a0_5 1 50 true _ A12.out).mono ?_); rintro e w' ⟨rfl, ⟨nd, rfl⟩⟩) | (go_at_call 58; (with_reducible refine (spec_l01In.calls a0_6 0 10000 true _ A14.out).mono ?_); rintro e w' ⟨rfl, ⟨nd, rfl⟩⟩) | (go_at_call 58; (with_reducible refine (spec_l01In.calls a0_7 1 100000 true _ A16.out).mono ?_); rintro e w' ⟨rfl, ⟨nd, rfl⟩⟩) | (go_at_call 58; (with_reducible refine (spec_l01In.calls a0_8 0 3 t116 _ A18.out).mono ?_); rintro e w' ⟨rfl, ⟨nd, rfl⟩⟩))
         go_ret
         exact ⟨ze, zb1 HB GE107⟩
        ·replace c17 := Bool.eq_false_iff.mpr c17
         subst c17
         rw [if_neg zfalse] at H
         obtain rfl := jH H
         go_enter Try.func89, Try.ntmps89
         go_wp2_with (first | ((with_reducible refine jJ (N := 1) rfl ?_); refine zE 1 #[.string a0_0, .int .i64 a0_1, .int .i64 a0_2, .int .i64 a0_3, .int .i64 a0_4, .int .i64 a0_5, .int .i64 a0_6, .int .i64 a0_7, .int .i64 a0_8] 65 ?_; intro gb107 hg w21 hbox hb; have BK107 := jA (hbox); have GW107 := zg0 hg HB; have GE107 := zg0 hg HB; replace HB := zS0 HB hb; clear hb hbox hg; have hcz22 := zc9 BK107) | ((with_reducible refine jK (f := 94) rfl ?_); refine zL (some 5) Try.func94 #[.string a0_0] ?_; (with_reducible refine (spec_IsWord.calls k a0_0 true _ A2.out).mono ?_); rintro e w' ⟨rfl, ⟨nd, rfl⟩⟩; refine ⟨_, rfl, ?_⟩) | (go_at_call 58; (with_reducible refine (spec_l01In.calls a0_1 0 3 true _ A4.out).mono ?_); rintro e w' ⟨rfl, ⟨nd, rfl⟩⟩) | (go_at_call 58; (with_reducible refine (spec_l01In.calls a0_2 20 300 true _ A6.out).mono ?_); rintro e w' ⟨rfl, ⟨nd, rfl⟩⟩) | (go_at_call 58; (with_reducible refine (spec_l01In.calls a0_3 0 10000 true _ A8.out).mono ?_); rintro e w' ⟨rfl, ⟨nd, rfl⟩⟩) | (go_at_call 58; (with_reducible refine (spec_l01In.calls a0_4 0 a0_3 true _ A10.out).mono ?_); rintro e w' ⟨rfl, ⟨nd, rfl⟩⟩) | (go_at_call 58; (with_reducible refine (spec_l01In.calls a0_5 1 50 true _ A12.out).mono ?_); rintro e w' ⟨rfl, ⟨nd, rfl⟩⟩) | (go_at_call 58; (with_reducible refine (spec_l01In.calls a0_6 0 10000 true _ A14.out).mono ?_); rintro e w' ⟨rfl, ⟨nd, rfl⟩⟩) | (go_at_call 58; (with_reducible refine (spec_l01In.calls a0_7 1 100000 false _ A16.out).mono ?_); rintro e w' ⟨rfl, ⟨nd, rfl⟩⟩))
         go_ret
         exact ⟨ze, zb1 HB GE107⟩
       ·replace c15 := Bool.eq_false_iff.mpr c15
        subst c15
        rw [if_neg zfalse] at H
        obtain rfl := jH H
        go_enter Try.func89, Try.ntmps89
        go_wp2_with (first | ((with_reducible refine jJ (N := 1) rfl ?_); refine zE 1 #[.string a0_0, .int .i64 a0_1, .int .i64 a0_2, .int .i64 a0_3, .int .i64 a0_4, .int .i64 a0_5, .int .i64 a0_6, .int .i64 a0_7, .int .i64 a0_8] 65 ?_; intro gb107 hg w23 hbox hb; have BK107 := jA (hbox); have GW107 := zg0 hg HB; have GE107 := zg0 hg HB; replace HB := zS0 HB hb; clear hb hbox hg; have hcz24 := zc9 BK107) | ((with_reducible refine jK (f := 94) rfl ?_); refine zL (some 5) Try.func94 #[.string a0_0] ?_; (with_reducible refine (spec_IsWord.calls k a0_0 true _ A2.out).mono ?_); rintro e w' ⟨rfl, ⟨nd, rfl⟩⟩; refine ⟨_, rfl, ?_⟩) | (go_at_call 58; (with_reducible refine (spec_l01In.calls a0_1 0 3 true _ A4.out).mono ?_); rintro e w' ⟨rfl, ⟨nd, rfl⟩⟩) | (go_at_call 58; (with_reducible refine (spec_l01In.calls a0_2 20 300 true _ A6.out).mono ?_); rintro e w' ⟨rfl, ⟨nd, rfl⟩⟩) | (go_at_call 58; (with_reducible refine (spec_l01In.calls a0_3 0 10000 true _ A8.out).mono ?_); rintro e w' ⟨rfl, ⟨nd, rfl⟩⟩) | (go_at_call 58; (with_reducible refine (spec_l01In.calls a0_4 0 a0_3 true _ A10.out).mono ?_); rintro e w' ⟨rfl, ⟨nd, rfl⟩⟩) | (go_at_call 58; (with_reducible refine (spec_l01In.calls a0_5 1 50 true _ A12.out).mono ?_); rintro e w' ⟨rfl, ⟨nd, rfl⟩⟩) | (go_at_call 58; (with_reducible refine (spec_l01In.calls a0_6 0 10000 false _ A14.out).mono ?_); rintro e w' ⟨rfl, ⟨nd, rfl⟩⟩))
        go_ret
        exact ⟨ze, zb1 HB GE107⟩
      ·replace c13 := Bool.eq_false_iff.mpr c13
       subst c13
       rw [if_neg zfalse] at H
       obtain rfl := jH H
       go_enter Try.func89, Try.ntmps89
       go_wp2_with (first | ((with_reducible refine jJ (N := 1) rfl ?_); refine zE 1 #[.string a0_0, .int .i64 a0_1, .int .i64 a0_2, .int .i64 a0_3, .int .i64 a0_4, .int .i64 a0_5, .int .i64 a0_6, .int .i64 a0_7, .int .i64 a0_8] 65 ?_; intro gb107 hg w25 hbox hb; have BK107 := jA (hbox); have GW107 := zg0 hg HB; have GE107 := zg0 hg HB; replace HB := zS0 HB hb; clear hb hbox hg; have hcz26 := zc9 BK107) | ((with_reducible refine jK (f := 94) rfl ?_); refine zL (some 5) Try.func94 #[.string a0_0] ?_; (with_reducible refine (spec_IsWord.calls k a0_0 true _ A2.out).mono ?_); rintro e w' ⟨rfl, ⟨nd, rfl⟩⟩; refine ⟨_, rfl, ?_⟩) | (go_at_call 58; (with_reducible refine (spec_l01In.calls a0_1 0 3 true _ A4.out).mono ?_); rintro e w' ⟨rfl, ⟨nd, rfl⟩⟩) | (go_at_call 58; (with_reducible refine (spec_l01In.calls a0_2 20 300 true _ A6.out).mono ?_); rintro e w' ⟨rfl, ⟨nd, rfl⟩⟩) | (go_at_call 58; (with_reducible refine (spec_l01In.calls a0_3 0 10000 true _ A8.out).mono ?_); rintro e w' ⟨rfl, ⟨nd, rfl⟩⟩) | (go_at_call 58; (with_reducible refine (spec_l01In.calls a0_4 0 a0_3 true _ A10.out).mono ?_); rintro e w' ⟨rfl, ⟨nd, rfl⟩⟩) | (go_at_call 58; (with_reducible refine (spec_l01In.calls a0_5 1 50 false _ A12.out).mono ?_); rintro e w' ⟨rfl, ⟨nd, rfl⟩⟩))
       go_ret
       exact ⟨ze, zb1 HB GE107⟩
     ·replace c11 := Bool.eq_false_iff.mpr c11
      subst c11
      rw [if_neg zfalse] at H
      obtain rfl := jH H
      go_enter Try.func89, Try.ntmps89
      go_wp2_with (first | ((with_reducible refine jJ (N := 1) rfl ?_); refine zE 1 #[.string a0_0, .int .i64 a0_1, .int .i64 a0_2, .int .i64 a0_3, .int .i64 a0_4, .int .i64 a0_5, .int .i64 a0_6, .int .i64 a0_7, .int .i64 a0_8] 65 ?_; intro gb107 hg w27 hbox hb; have BK107 := jA (hbox); have GW107 := zg0 hg HB; have GE107 := zg0 hg HB; replace HB := zS0 HB hb; clear hb hbox hg; have hcz28 := zc9 BK107) | ((with_reducible refine jK (f := 94) rfl ?_); refine zL (some 5) Try.func94 #[.string a0_0] ?_; (with_reducible refine (spec_IsWord.calls k a0_0 true _ A2.out).mono ?_); rintro e w' ⟨rfl, ⟨nd, rfl⟩⟩; refine ⟨_, rfl, ?_⟩) | (go_at_call 58; (with_reducible refine (spec_l01In.calls a0_1 0 3 true _ A4.out).mono ?_); rintro e w' ⟨rfl, ⟨nd, rfl⟩⟩) | (go_at_call 58; (with_reducible refine (spec_l01In.calls a0_2 20 300 true _ A6.out).mono ?_); rintro e w' ⟨rfl, ⟨nd, rfl⟩⟩) | (go_at_call 58; (with_reducible refine (spec_l01In.calls a0_3 0 10000 true _ A8.out).mono ?_); rintro e w' ⟨rfl, ⟨nd, rfl⟩⟩) | (go_at_call 58; (with_reducible refine (spec_l01In.calls a0_4 0 a0_3 false _ A10.out).mono ?_); rintro e w' ⟨rfl, ⟨nd, rfl⟩⟩))
      go_ret
      exact ⟨ze, zb1 HB GE107⟩
    ·replace c9 := Bool.eq_false_iff.mpr c9
     subst c9
     rw [if_neg zfalse] at H
     obtain rfl := jH H
     go_enter Try.func89, Try.ntmps89
     go_wp2_with (first | ((with_reducible refine jJ (N := 1) rfl ?_); refine zE 1 #[.string a0_0, .int .i64 a0_1, .int .i64 a0_2, .int .i64 a0_3, .int .i64 a0_4, .int .i64 a0_5, .int .i64 a0_6, .int .i64 a0_7, .int .i64 a0_8] 65 ?_; intro gb107 hg w29 hbox hb; have BK107 := jA (hbox); have GW107 := zg0 hg HB; have GE107 := zg0 hg HB; replace HB := zS0 HB hb; clear hb hbox hg; have hcz30 := zc9 BK107) | ((with_reducible refine jK (f := 94) rfl ?_); refine zL (some 5) Try.func94 #[.string a0_0] ?_; (with_reducible refine (spec_IsWord.calls k a0_0 true _ A2.out).mono ?_); rintro e w' ⟨rfl, ⟨nd, rfl⟩⟩; refine ⟨_, rfl, ?_⟩) | (go_at_call 58; (with_reducible refine (spec_l01In.calls a0_1 0 3 true _ A4.out).mono ?_); rintro e w' ⟨rfl, ⟨nd, rfl⟩⟩) | (go_at_call 58; (with_reducible refine (spec_l01In.calls a0_2 20 300 true _ A6.out).mono ?_); rintro e w' ⟨rfl, ⟨nd, rfl⟩⟩) | (go_at_call 58; (with_reducible refine (spec_l01In.calls a0_3 0 10000 false _ A8.out).mono ?_); rintro e w' ⟨rfl, ⟨nd, rfl⟩⟩))
     go_ret
     exact ⟨ze, zb1 HB GE107⟩
   ·replace c7 := Bool.eq_false_iff.mpr c7
    subst c7
    rw [if_neg zfalse] at H
    obtain rfl := jH H
    go_enter Try.func89, Try.ntmps89
    go_wp2_with (first | ((with_reducible refine jJ (N := 1) rfl ?_); refine zE 1 #[.string a0_0, .int .i64 a0_1, .int .i64 a0_2, .int .i64 a0_3, .int .i64 a0_4, .int .i64 a0_5, .int .i64 a0_6, .int .i64 a0_7, .int .i64 a0_8] 65 ?_; intro gb107 hg w31 hbox hb; have BK107 := jA (hbox); have GW107 := zg0 hg HB; have GE107 := zg0 hg HB; replace HB := zS0 HB hb; clear hb hbox hg; have hcz32 := zc9 BK107) | ((with_reducible refine jK (f := 94) rfl ?_); refine zL (some 5) Try.func94 #[.string a0_0] ?_; (with_reducible refine (spec_IsWord.calls k a0_0 true _ A2.out).mono ?_); rintro e w' ⟨rfl, ⟨nd, rfl⟩⟩; refine ⟨_, rfl, ?_⟩) | (go_at_call 58; (with_reducible refine (spec_l01In.calls a0_1 0 3 true _ A4.out).mono ?_); rintro e w' ⟨rfl, ⟨nd, rfl⟩⟩) | (go_at_call 58; (with_reducible refine (spec_l01In.calls a0_2 20 300 false _ A6.out).mono ?_); rintro e w' ⟨rfl, ⟨nd, rfl⟩⟩))
    go_ret
    exact ⟨ze, zb1 HB GE107⟩
  ·replace c5 := Bool.eq_false_iff.mpr c5
   subst c5
   rw [if_neg zfalse] at H
   obtain rfl := jH H
   go_enter Try.func89, Try.ntmps89
   go_wp2_with (first | ((with_reducible refine jJ (N := 1) rfl ?_); refine zE 1 #[.string a0_0, .int .i64 a0_1, .int .i64 a0_2, .int .i64 a0_3, .int .i64 a0_4, .int .i64 a0_5, .int .i64 a0_6, .int .i64 a0_7, .int .i64 a0_8] 65 ?_; intro gb107 hg w33 hbox hb; have BK107 := jA (hbox); have GW107 := zg0 hg HB; have GE107 := zg0 hg HB; replace HB := zS0 HB hb; clear hb hbox hg; have hcz34 := zc9 BK107) | ((with_reducible refine jK (f := 94) rfl ?_); refine zL (some 5) Try.func94 #[.string a0_0] ?_; (with_reducible refine (spec_IsWord.calls k a0_0 true _ A2.out).mono ?_); rintro e w' ⟨rfl, ⟨nd, rfl⟩⟩; refine ⟨_, rfl, ?_⟩) | (go_at_call 58; (with_reducible refine (spec_l01In.calls a0_1 0 3 false _ A4.out).mono ?_); rintro e w' ⟨rfl, ⟨nd, rfl⟩⟩))
   go_ret
   exact ⟨ze, zb1 HB GE107⟩
 ·replace c3 := Bool.eq_false_iff.mpr c3
  subst c3
  rw [if_neg zfalse] at H
  obtain rfl := jH H
  go_enter Try.func89, Try.ntmps89
  go_wp2_with (first | ((with_reducible refine jJ (N := 1) rfl ?_); refine zE 1 #[.string a0_0, .int .i64 a0_1, .int .i64 a0_2, .int .i64 a0_3, .int .i64 a0_4, .int .i64 a0_5, .int .i64 a0_6, .int .i64 a0_7, .int .i64 a0_8] 65 ?_; intro gb107 hg w35 hbox hb; have BK107 := jA (hbox); have GW107 := zg0 hg HB; have GE107 := zg0 hg HB; replace HB := zS0 HB hb; clear hb hbox hg; have hcz36 := zc9 BK107) | ((with_reducible refine jK (f := 94) rfl ?_); refine zL (some 5) Try.func94 #[.string a0_0] ?_; (with_reducible refine (spec_IsWord.calls k a0_0 false _ A2.out).mono ?_); rintro e w' ⟨rfl, ⟨nd, rfl⟩⟩; refine ⟨_, rfl, ?_⟩))
  go_ret
  exact ⟨ze, zb1 HB GE107⟩

end Go.Proofs.Ytdgglhfnlljmeaa.PFnExactMovePieces
