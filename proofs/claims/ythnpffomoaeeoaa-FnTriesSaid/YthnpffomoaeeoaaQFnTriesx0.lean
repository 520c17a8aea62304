/- Functions and contracts that FnTries reaches (1 of 13). -/
import Derived.Test.YthnpffomoaeeoaaProg
import Derived.Below
import Derived.Deep.Draws
import Derived.Deep.AppendLies
import Derived.Maps.AppendAt
import Derived.OwnWalk
import Derived.Laws.BytesArg
import Derived.Laws.MakeOwn
import Derived.Laws.OwnMore
import Derived.Deep.OwnRows
import Derived.Tactics
import Derived.Lib.ConvBytes
import Derived.Laws.Slices
import Derived.WalkKit
import Derived.KernelRfl
import Derived.RowKit3
import Derived.Deep.LoopGhost
import Derived.Deep.QuietTactic
import Derived.BigQuiet
import Derived.WideLaws
import Derived.Deep.DeepCutAuto
import Derived.Deep.CutBlock
import Derived.Deep.RegionHeld3
import Derived.Laws.Rows
import Derived.Lib.AppendStr
import Derived.ArgAppend
import Derived.Laws.IdiomCopy
import Derived.OrdersHeld
import Derived.Laws.BitsLemmas
import Derived.RowKit
import Derived.Test.YthnpffomoaeeoaaVFnTriesWords
import Derived.Test.YthnpffomoaeeoaaVFnTriesLast
import Derived.Test.YthnpffomoaeeoaaVFnTriesTab
import Derived.Test.YthnpffomoaeeoaaVFnTriesFour
import Derived.Test.YthnpffomoaeeoaaVFnTriesQPut
import Derived.Test.YthnpffomoaeeoaaVFnTriesApart
import Derived.Test.YthnpffomoaeeoaaVFnTriesArr
import Derived.Test.YthnpffomoaeeoaaVFnTriesZeros
import Derived.Test.YthnpffomoaeeoaaVFnTriesFoot
import Derived.Test.YthnpffomoaeeoaaVFnTriesKept
import Derived.Test.YthnpffomoaeeoaaVFnTriesShare
import Derived.Test.YthnpffomoaeeoaaVFnTriesN
import Derived.Test.YthnpffomoaeeoaaVFnTriesFootNe
import Derived.Test.YthnpffomoaeeoaaVFnTriesAt
import Derived.Test.YthnpffomoaeeoaaVFnTriesEqStruct
import Derived.Test.YthnpffomoaeeoaaVFnTriesRepsOne
import Derived.Test.YthnpffomoaeeoaaVFnTriesInv
import Derived.Test.YthnpffomoaeeoaaVFnTriesInvWords
import Derived.Test.YthnpffomoaeeoaaVFnTriesGuard
import Derived.Test.YthnpffomoaeeoaaVFnTriesNEv
import Derived.Test.YthnpffomoaeeoaaVFnTriesMore
namespace Go.Proofs.Ythnpffomoaeeoaa.PFnTries
open Go.RowKit Go.Proofs.YthnpffomoaeeoaaW.PrintWords Go.Proofs.YthnpffomoaeeoaaW.PrintLast Go.Proofs.YthnpffomoaeeoaaW.PrintMore
attribute [local go_sem] max2_int min2_int max_two min_two max_three min_three max_four min_four   -- for this text's walks alone
set_option linter.unusedVariables false
set_option linter.unusedSimpArgs false
def m25_0 : Array Bool := #[false, false, false, false, false, false, false, false, false, false, false, false, false, false, false, false, false, false, false, false, false, false, false, false, false]
def m20_0 : Array Bool := #[false, false, false, false, false, false, false, false, false, false, false, false, false, false, false, false, false, false, false, false]
def m17_0 : Array Bool := #[false, false, false, false, false, false, false, false, false, false, false, false, false, false, false, false, false]
def m11_0 : Array Bool := #[false, false, false, false, false, false, false, false, false, false, false]
def m7_0 : Array Bool := #[false, false, false, false, false, false, false]
def m4_0 : Array Bool := #[false, false, false, false]
def m7_20 : Array Bool := #[false, true, false, false, false, false, false]
def m7_28 : Array Bool := #[false, true, false, true, false, false, false]
def m7_2c : Array Bool := #[false, true, false, true, true, false, false]
def m25_1000000 : Array Bool := #[true, false, false, false, false, false, false, false, false, false, false, false, false, false, false, false, false, false, false, false, false, false, false, false, false]
def m20_80000 : Array Bool := #[true, false, false, false, false, false, false, false, false, false, false, false, false, false, false, false, false, false, false, false]
def m17_10000 : Array Bool := #[true, false, false, false, false, false, false, false, false, false, false, false, false, false, false, false, false]
def m11_400 : Array Bool := #[true, false, false, false, false, false, false, false, false, false, false]
def m7_40 : Array Bool := #[true, false, false, false, false, false, false]
def m4_8 : Array Bool := #[true, false, false, false]
def m4_a : Array Bool := #[true, false, true, false]
def m25_1800000 : Array Bool := #[true, true, false, false, false, false, false, false, false, false, false, false, false, false, false, false, false, false, false, false, false, false, false, false, false]
def m20_c0000 : Array Bool := #[true, true, false, false, false, false, false, false, false, false, false, false, false, false, false, false, false, false, false, false]
def m17_18000 : Array Bool := #[true, true, false, false, false, false, false, false, false, false, false, false, false, false, false, false, false]
def m11_600 : Array Bool := #[true, true, false, false, false, false, false, false, false, false, false]
def m7_60 : Array Bool := #[true, true, false, false, false, false, false]
def m7_68 : Array Bool := #[true, true, false, true, false, false, false]
def m7_6c : Array Bool := #[true, true, false, true, true, false, false]
def m25_1c00000 : Array Bool := #[true, true, true, false, false, false, false, false, false, false, false, false, false, false, false, false, false, false, false, false, false, false, false, false, false]
def m20_e0000 : Array Bool := #[true, true, true, false, false, false, false, false, false, false, false, false, false, false, false, false, false, false, false, false]
def m17_1c000 : Array Bool := #[true, true, true, false, false, false, false, false, false, false, false, false, false, false, false, false, false]
def m11_700 : Array Bool := #[true, true, true, false, false, false, false, false, false, false, false]
def m7_70 : Array Bool := #[true, true, true, false, false, false, false]
def m4_e : Array Bool := #[true, true, true, false]
def m25_1e00000 : Array Bool := #[true, true, true, true, false, false, false, false, false, false, false, false, false, false, false, false, false, false, false, false, false, false, false, false, false]
def m20_f0000 : Array Bool := #[true, true, true, true, false, false, false, false, false, false, false, false, false, false, false, false, false, false, false, false]
def m17_1e000 : Array Bool := #[true, true, true, true, false, false, false, false, false, false, false, false, false, false, false, false, false]
def m11_780 : Array Bool := #[true, true, true, true, false, false, false, false, false, false, false]
def m7_78 : Array Bool := #[true, true, true, true, false, false, false]
def m25_1f00000 : Array Bool := #[true, true, true, true, true, false, false, false, false, false, false, false, false, false, false, false, false, false, false, false, false, false, false, false, false]
def m20_f8000 : Array Bool := #[true, true, true, true, true, false, false, false, false, false, false, false, false, false, false, false, false, false, false, false]
def m17_1f000 : Array Bool := #[true, true, true, true, true, false, false, false, false, false, false, false, false, false, false, false, false]
def m11_7c0 : Array Bool := #[true, true, true, true, true, false, false, false, false, false, false]
def m7_7c : Array Bool := #[true, true, true, true, true, false, false]
def m25_1f80000 : Array Bool := #[true, true, true, true, true, true, false, false, false, false, false, false, false, false, false, false, false, false, false, false, false, false, false, false, false]
def m20_fc000 : Array Bool := #[true, true, true, true, true, true, false, false, false, false, false, false, false, false, false, false, false, false, false, false]
def m17_1f800 : Array Bool := #[true, true, true, true, true, true, false, false, false, false, false, false, false, false, false, false, false]
def m11_7e0 : Array Bool := #[true, true, true, true, true, true, false, false, false, false, false]
def m7_7e : Array Bool := #[true, true, true, true, true, true, false]
def m25_1fc0000 : Array Bool := #[true, true, true, true, true, true, true, false, false, false, false, false, false, false, false, false, false, false, false, false, false, false, false, false, false]
def m20_fe000 : Array Bool := #[true, true, true, true, true, true, true, false, false, false, false, false, false, false, false, false, false, false, false, false]
def m17_1fc00 : Array Bool := #[true, true, true, true, true, true, true, false, false, false, false, false, false, false, false, false, false]
def m11_7f0 : Array Bool := #[true, true, true, true, true, true, true, false, false, false, false]
def m25_1fe0000 : Array Bool := #[true, true, true, true, true, true, true, true, false, false, false, false, false, false, false, false, false, false, false, false, false, false, false, false, false]
def m20_ff000 : Array Bool := #[true, true, true, true, true, true, true, true, false, false, false, false, false, false, false, false, false, false, false, false]
def m17_1fe00 : Array Bool := #[true, true, true, true, true, true, true, true, false, false, false, false, false, false, false, false, false]
def m11_7f8 : Array Bool := #[true, true, true, true, true, true, true, true, false, false, false]
def m17_1fe80 : Array Bool := #[true, true, true, true, true, true, true, true, false, true, false, false, false, false, false, false, false]
def m17_1fec0 : Array Bool := #[true, true, true, true, true, true, true, true, false, true, true, false, false, false, false, false, false]
def m17_1fee0 : Array Bool := #[true, true, true, true, true, true, true, true, false, true, true, true, false, false, false, false, false]
def m17_1fef0 : Array Bool := #[true, true, true, true, true, true, true, true, false, true, true, true, true, false, false, false, false]
def m25_1ff0000 : Array Bool := #[true, true, true, true, true, true, true, true, true, false, false, false, false, false, false, false, false, false, false, false, false, false, false, false, false]
def m20_ff800 : Array Bool := #[true, true, true, true, true, true, true, true, true, false, false, false, false, false, false, false, false, false, false, false]
def m17_1ff00 : Array Bool := #[true, true, true, true, true, true, true, true, true, false, false, false, false, false, false, false, false]
def m11_7fc : Array Bool := #[true, true, true, true, true, true, true, true, true, false, false]
def m25_1ff8000 : Array Bool := #[true, true, true, true, true, true, true, true, true, true, false, false, false, false, false, false, false, false, false, false, false, false, false, false, false]
def m20_ffc00 : Array Bool := #[true, true, true, true, true, true, true, true, true, true, false, false, false, false, false, false, false, false, false, false]
def m17_1ff80 : Array Bool := #[true, true, true, true, true, true, true, true, true, true, false, false, false, false, false, false, false]
def m20_ffd00 : Array Bool := #[true, true, true, true, true, true, true, true, true, true, false, true, false, false, false, false, false, false, false, false]
def m20_ffd80 : Array Bool := #[true, true, true, true, true, true, true, true, true, true, false, true, true, false, false, false, false, false, false, false]
def m20_ffdc0 : Array Bool := #[true, true, true, true, true, true, true, true, true, true, false, true, true, true, false, false, false, false, false, false]
def m20_ffde0 : Array Bool := #[true, true, true, true, true, true, true, true, true, true, false, true, true, true, true, false, false, false, false, false]
def m11_7fe : Array Bool := #[true, true, true, true, true, true, true, true, true, true, false]
def m25_1ffc000 : Array Bool := #[true, true, true, true, true, true, true, true, true, true, true, false, false, false, false, false, false, false, false, false, false, false, false, false, false]
def m20_ffe00 : Array Bool := #[true, true, true, true, true, true, true, true, true, true, true, false, false, false, false, false, false, false, false, false]
def m17_1ffc0 : Array Bool := #[true, true, true, true, true, true, true, true, true, true, true, false, false, false, false, false, false]
def m25_1ffe000 : Array Bool := #[true, true, true, true, true, true, true, true, true, true, true, true, false, false, false, false, false, false, false, false, false, false, false, false, false]
def m20_fff00 : Array Bool := #[true, true, true, true, true, true, true, true, true, true, true, true, false, false, false, false, false, false, false, false]
def m17_1ffe0 : Array Bool := #[true, true, true, true, true, true, true, true, true, true, true, true, false, false, false, false, false]
def m25_1fff000 : Array Bool := #[true, true, true, true, true, true, true, true, true, true, true, true, true, false, false, false, false, false, false, false, false, false, false, false, false]
def m20_fff80 : Array Bool := #[true, true, true, true, true, true, true, true, true, true, true, true, true, false, false, false, false, false, false, false]
def m17_1fff0 : Array Bool := #[true, true, true, true, true, true, true, true, true, true, true, true, true, false, false, false, false]
def m25_1fff800 : Array Bool := #[true, true, true, true, true, true, true, true, true, true, true, true, true, true, false, false, false, false, false, false, false, false, false, false, false]
def m20_fffc0 : Array Bool := #[true, true, true, true, true, true, true, true, true, true, true, true, true, true, false, false, false, false, false, false]
def m17_1fff8 : Array Bool := #[true, true, true, true, true, true, true, true, true, true, true, true, true, true, false, false, false]
def m25_1fffc00 : Array Bool := #[true, true, true, true, true, true, true, true, true, true, true, true, true, true, true, false, false, false, false, false, false, false, false, false, false]
def m20_fffe0 : Array Bool := #[true, true, true, true, true, true, true, true, true, true, true, true, true, true, true, false, false, false, false, false]
def m17_1fffc : Array Bool := #[true, true, true, true, true, true, true, true, true, true, true, true, true, true, true, false, false]
def m25_1fffe00 : Array Bool := #[true, true, true, true, true, true, true, true, true, true, true, true, true, true, true, true, false, false, false, false, false, false, false, false, false]
def m20_ffff0 : Array Bool := #[true, true, true, true, true, true, true, true, true, true, true, true, true, true, true, true, false, false, false, false]
def m17_1fffe : Array Bool := #[true, true, true, true, true, true, true, true, true, true, true, true, true, true, true, true, false]
def m25_1ffff00 : Array Bool := #[true, true, true, true, true, true, true, true, true, true, true, true, true, true, true, true, true, false, false, false, false, false, false, false, false]
def m20_ffff8 : Array Bool := #[true, true, true, true, true, true, true, true, true, true, true, true, true, true, true, true, true, false, false, false]
def m25_1ffff80 : Array Bool := #[true, true, true, true, true, true, true, true, true, true, true, true, true, true, true, true, true, true, false, false, false, false, false, false, false]
def m20_ffffc : Array Bool := #[true, true, true, true, true, true, true, true, true, true, true, true, true, true, true, true, true, true, false, false]
def m25_1ffffc0 : Array Bool := #[true, true, true, true, true, true, true, true, true, true, true, true, true, true, true, true, true, true, true, false, false, false, false, false, false]
def m20_ffffe : Array Bool := #[true, true, true, true, true, true, true, true, true, true, true, true, true, true, true, true, true, true, true, false]
def m25_1ffffe0 : Array Bool := #[true, true, true, true, true, true, true, true, true, true, true, true, true, true, true, true, true, true, true, true, false, false, false, false, false]
def m25_1fffff0 : Array Bool := #[true, true, true, true, true, true, true, true, true, true, true, true, true, true, true, true, true, true, true, true, true, false, false, false, false]
def m25_1fffff8 : Array Bool := #[true, true, true, true, true, true, true, true, true, true, true, true, true, true, true, true, true, true, true, true, true, true, false, false, false]
def m25_1fffffc : Array Bool := #[true, true, true, true, true, true, true, true, true, true, true, true, true, true, true, true, true, true, true, true, true, true, true, false, false]
def m25_1fffffe : Array Bool := #[true, true, true, true, true, true, true, true, true, true, true, true, true, true, true, true, true, true, true, true, true, true, true, true, false]
def m25_1ffffff : Array Bool := #[true, true, true, true, true, true, true, true, true, true, true, true, true, true, true, true, true, true, true, true, true, true, true, true, true]
def m20_fffff : Array Bool := #[true, true, true, true, true, true, true, true, true, true, true, true, true, true, true, true, true, true, true, true]
def m17_1ffff : Array Bool := #[true, true, true, true, true, true, true, true, true, true, true, true, true, true, true, true, true]
def m11_7ff : Array Bool := #[true, true, true, true, true, true, true, true, true, true, true]
def m7_7f : Array Bool := #[true, true, true, true, true, true, true]
theorem jA : type_of% @Aside0.mk := @Aside0.mk
theorem jB : type_of% @List.setIfInBounds_toArray.{0} := @List.setIfInBounds_toArray.{0}
theorem jC : type_of% @blk_cell := @blk_cell
theorem jD : type_of% @Kd.R_reads' := @Kd.R_reads'
theorem jE : type_of% @List.set_cons_zero.{0} := @List.set_cons_zero.{0}
theorem jF : type_of% @List.set_cons_succ.{0} := @List.set_cons_succ.{0}
theorem jG : type_of% @Option.bind_eq_some_iff.{0, 0} := @Option.bind_eq_some_iff.{0, 0}
theorem jH : type_of% @below_step := @below_step
theorem jI : type_of% @of_decide_eq_true := @of_decide_eq_true
theorem jJ : type_of% @pw_below_drewN := @pw_below_drewN
theorem jK : type_of% @Kd.R_below := @Kd.R_below
theorem jL : type_of% @below_drew1 := @below_drew1
theorem jM : type_of% @Kd.C_drewN := @Kd.C_drewN
theorem jN : type_of% @Kd.C_alloc := @Kd.C_alloc
theorem jO : type_of% @below_set := @below_set
theorem jP : type_of% @below_size := @below_size
theorem jQ : type_of% @Kd.R_drewN := @Kd.R_drewN
theorem jR : type_of% @Kd.R_alloc := @Kd.R_alloc
theorem jS : type_of% @Kd.R_drew := @Kd.R_drew
theorem jT : type_of% @Kd.C_drew := @Kd.C_drew
theorem jU : type_of% @gate_callee := @gate_callee
theorem jV : type_of% @below_alloc := @below_alloc
theorem jW : type_of% @blk_drew := @blk_drew
theorem jX : type_of% @blk_drewN := @blk_drewN
theorem jY : type_of% @blk_alloc := @blk_alloc
theorem jZ : type_of% @decide_eq_true := @decide_eq_true
theorem ja : type_of% @World.block_lt_of_cell? := @World.block_lt_of_cell?
theorem jb : type_of% @blk_below := @blk_below
theorem jc : type_of% @Kd.R_lower := @Kd.R_lower
theorem jd : type_of% @blk_frozen := @blk_frozen
theorem je : type_of% @Option.some.inj.{0} := @Option.some.inj.{0}
theorem jf : type_of% @Option.some.injEq.{0} := @Option.some.injEq.{0}
theorem jg : type_of% @decide_eq_false := @decide_eq_false
theorem jh : type_of% @Prod.mk.injEq.{0, 0} := @Prod.mk.injEq.{0, 0}
theorem za {p : Prop} (h : p := by first | (with_reducible assumption) | assumption) : p := h
theorem zb0 {p q : Prop} (H : Aside0 q) (h : q → p := by intro h_; repeat (first | (with_reducible first | exact h_ | apply below_alloc | apply pw_below_drewN | apply below_drew1) | exact h_)) : p := h H.out
theorem zb1 {p q r0 : Prop} (H : Aside0 q) (G0 : Aside0 r0) (h : q → r0 → p := by intro h_ g0_; repeat (first | (with_reducible first | exact h_ | apply below_alloc | apply pw_below_drewN | apply below_drew1 | refine below_set ?_ g0_) | exact h_)) : p := h H.out G0.out
theorem zh0 {p q : Prop} (H : Aside0 q) (h : q → p := by intro h_; repeat (first | (with_reducible first | exact h_ | apply KeepBut.set_ | apply keep_drewN | apply keep_drew | apply keep_alloc) | exact h_)) : p := h H.out
theorem zk {p q : Prop} (H : Aside0 q) (h : q → p := by intro h_; (with_reducible repeat (first | refine blk_drewN ?_ _ | refine blk_drew ?_ | refine blk_alloc ?_ _)); exact h_) : p := h H.out
theorem zm {p : Prop} (h : p := by (try simp only [List.map_toArray, List.map_cons, List.map_nil]); first | done | rfl | (simp only [List.length_drop, List.length_take]; rfl)) : p := h
theorem zo {p q : Prop} (H : Aside0 q) (h : q → p := by intro h_; (with_reducible repeat (first | apply Kd.R_alloc | apply Kd.R_drewN | apply Kd.R_drew)); exact h_) : p := h H.out
theorem zp {P : Program} {ops : Array Oper} {Q : Exit → Act → World → Prop} {md : Region.Mode} {S : World → Prop} {ds : List Nat} {T : Bool × List (List Nat × List Nat)} {oi : Oper} {v : Value} {fuel : Nat} {l : Array Bool} {a a' : Act} {w : World} (HT : Aside0 (rtab md ops = T)) (i : Nat) (N : Tmp) (l' : Array Bool) (h : wpAnyLast P md ops Q S ds fuel l' a' w) (hi : ops[i]? = some oi := by rfl) (hN : oi.dst = some N := by rfl) (hc : anyT T l.toList l'.toList i = true := by kernel_rfl) (hQ : ∀ c a w, Q (.panic c) (a.put oi.dst v) w → Q (.panic c) a w := by exact fun _ _ _ h => h) (hy : Yields P ops oi v a := by exact Or.inl ⟨by rfl, by intro w'; go_simp; with_reducible rfl⟩) (ha : a.put (some N) v = a' := by simp only [Act.put, List.setIfInBounds_toArray, List.set_cons_zero, List.set_cons_succ, i64_w, i32_w]; rfl) : wpAnyLast P md ops Q S ds (fuel + 1) l a w := pure_ l' hi hN (any_of HT.out hc) hQ hy ha h
theorem zq {P : Program} {ops : Array Oper} {Q : Exit → Act → World → Prop} {md : Region.Mode} {S : World → Prop} {ds : List Nat} {T : Bool × List (List Nat × List Nat)} {oi : Oper} {fuel : Nat} {l : Array Bool} {a a' : Act} {w : World} (HT : Aside0 (rtab md ops = T)) (i : Nat) (N : Tmp) (l' : Array Bool) (h : wpAnyLast P md ops Q S ds fuel l' a' w) (hi : ops[i]? = some oi := by rfl) (hN : oi.dst = some N := by rfl) (hc : anyT T l.toList l'.toList i = true := by kernel_rfl) (hQ : ∀ c a w, Q (.panic c) (a.put oi.dst undef) w → Q (.panic c) a w := by exact fun _ _ _ h => h) (hy : Yields P ops oi undef a := by exact Or.inr ⟨by rfl, rfl⟩) (ha : a.put (some N) undef = a' := by simp only [Act.put, List.setIfInBounds_toArray, List.set_cons_zero, List.set_cons_succ, i64_w, i32_w]; rfl) : wpAnyLast P md ops Q S ds (fuel + 1) l a w := pure_ l' hi hN (any_of HT.out hc) hQ hy ha h
theorem zr {p : Prop} (h : p := by kernel_rfl) : p := h
theorem zs {p q r : Prop} (H : Aside0 q) (B : Aside0 r) (h : q → r → p := by intro h_ b_; repeat (first | exact h_ | exact (Kd.C_below h_ b_) | (with_reducible refine Kd.C_alloc ?_ _) | (with_reducible refine Kd.C_drewN ?_ _) | (with_reducible refine Kd.C_drew ?_))) : p := h H.out B.out
theorem zt3 {P : Program} {ops : Array Oper} {Q : Exit → Act → World → Prop} {md : Region.Mode} {S : World → Prop} {ds : List Nat} {T : Bool × List (List Nat × List Nat)} {oi : Oper} {v : Value} {fuel : Nat} {l : Array Bool} {a a' : Act} {w : World} {B : List Nat} (HT : Aside0 (rtab md ops = T)) (HW : Aside0 (waitsOk T.2 B = true)) (hS : S w) (i : Nat) (N : Tmp) (l' : Array Bool) (h : wpAnyLast P md ops Q S ds fuel l' a' w) (hi : ops[i]? = some oi := by rfl) (hN : oi.dst = some N := by rfl) (hc : takeW T B ds l.toList l'.toList i = true := by kernel_rfl) (hQ : ∀ c a w, Q (.panic c) (a.put oi.dst v) w → Q (.panic c) a w := by exact fun _ _ _ h => h) (hy : YieldsIf P ops S oi v a := by exact Or.inl ⟨by rfl, by rintro w' ⟨s0, s1, s2⟩; go_simp; with_reducible rfl⟩) (ha : a.put (some N) v = a' := by simp only [Act.put, List.setIfInBounds_toArray, List.set_cons_zero, List.set_cons_succ, i64_w, i32_w]; rfl) : wpAnyLast P md ops Q S ds (fuel + 1) l a w := take_ l' hi hN (take_ofW HT.out HW.out hc) hQ hy hS ha h
theorem zt4 {P : Program} {ops : Array Oper} {Q : Exit → Act → World → Prop} {md : Region.Mode} {S : World → Prop} {ds : List Nat} {T : Bool × List (List Nat × List Nat)} {oi : Oper} {v : Value} {fuel : Nat} {l : Array Bool} {a a' : Act} {w : World} {B : List Nat} (HT : Aside0 (rtab md ops = T)) (HW : Aside0 (waitsOk T.2 B = true)) (hS : S w) (i : Nat) (N : Tmp) (l' : Array Bool) (h : wpAnyLast P md ops Q S ds fuel l' a' w) (hi : ops[i]? = some oi := by rfl) (hN : oi.dst = some N := by rfl) (hc : takeW T B ds l.toList l'.toList i = true := by kernel_rfl) (hQ : ∀ c a w, Q (.panic c) (a.put oi.dst v) w → Q (.panic c) a w := by exact fun _ _ _ h => h) (hy : YieldsIf P ops S oi v a := by exact Or.inl ⟨by rfl, by rintro w' ⟨s0, s1, s2, s3⟩; go_simp; with_reducible rfl⟩) (ha : a.put (some N) v = a' := by simp only [Act.put, List.setIfInBounds_toArray, List.set_cons_zero, List.set_cons_succ, i64_w, i32_w]; rfl) : wpAnyLast P md ops Q S ds (fuel + 1) l a w := take_ l' hi hN (take_ofW HT.out HW.out hc) hQ hy hS ha h
theorem zt6 {P : Program} {ops : Array Oper} {Q : Exit → Act → World → Prop} {md : Region.Mode} {S : World → Prop} {ds : List Nat} {T : Bool × List (List Nat × List Nat)} {oi : Oper} {v : Value} {fuel : Nat} {l : Array Bool} {a a' : Act} {w : World} {B : List Nat} (HT : Aside0 (rtab md ops = T)) (HW : Aside0 (waitsOk T.2 B = true)) (hS : S w) (i : Nat) (N : Tmp) (l' : Array Bool) (h : wpAnyLast P md ops Q S ds fuel l' a' w) (hi : ops[i]? = some oi := by rfl) (hN : oi.dst = some N := by rfl) (hc : takeW T B ds l.toList l'.toList i = true := by kernel_rfl) (hQ : ∀ c a w, Q (.panic c) (a.put oi.dst v) w → Q (.panic c) a w := by exact fun _ _ _ h => h) (hy : YieldsIf P ops S oi v a := by exact Or.inl ⟨by rfl, by rintro w' ⟨s0, s1, s2, s3, s4, s5⟩; go_simp; with_reducible rfl⟩) (ha : a.put (some N) v = a' := by simp only [Act.put, List.setIfInBounds_toArray, List.set_cons_zero, List.set_cons_succ, i64_w, i32_w]; rfl) : wpAnyLast P md ops Q S ds (fuel + 1) l a w := take_ l' hi hN (take_ofW HT.out HW.out hc) hQ hy hS ha h
theorem zz {p : Prop} (h : p := by first | rfl | (simp; done) | (simp [*]; done)) : p := h



def errW : Option Int → Value
 | none => .nilIface
 | some c => .iface 0 (.int .i64 c)
theorem errW_none : errW none = .nilIface := rfl
theorem errW_some (c : Int) : errW (some c) = .iface 0 (.int .i64 c) := rfl

theorem info2 : (Try.prog.info? 2).map (fun i => (i.zero, i.size, i.bytes)) = some (some (.int .i64 0), 1, 8) := by kernel_rfl
theorem info36 : (Try.prog.info? 36).map (fun i => (i.zero, i.size, i.bytes)) = some (some (.agg #[(.int .i64 0), (.int .i64 0), (.bool false)]), 3, 24) := by kernel_rfl
-- the values' own types
/-! #### struct type 36 -/
structure S36 where
 f0 : Int
 f1 : Int
 f2 : Bool
def z36 : S36 := ⟨(0 : Int), (0 : Int), false⟩
def k36 : Kd S36 := Kd.iso (Kd.pair (Kd.int .i64) (Kd.pair (Kd.int .i64) Kd.bool)) (fun x : S36 => (x.f0, x.f1, x.f2))
theorem k36_open {w : World} {x : S36} {cs : List Value} (h : k36.K w x cs) : cs = [.int .i64 x.f0, .int .i64 x.f1, .bool x.f2] := by
 obtain ⟨_, _, rfl, rfl, ⟨_, _, rfl, rfl, rfl⟩⟩ := h
 exact rfl
theorem k36_openM {w : World} {base : Nat} {ok : Nat → Prop} {x : S36} {cs : List Value} (h : k36.M w base ok x cs) : cs = [.int .i64 x.f0, .int .i64 x.f1, .bool x.f2] := by
 obtain ⟨_, _, rfl, rfl, ⟨_, _, rfl, rfl, rfl⟩⟩ := h
 exact rfl
theorem k36_mk (w : World) (x : S36)  : k36.K w x [.int .i64 x.f0, .int .i64 x.f1, .bool x.f2] := ⟨[.int .i64 x.f0], [.int .i64 x.f1, .bool x.f2], rfl, rfl, ⟨[.int .i64 x.f1], [.bool x.f2], rfl, rfl, rfl⟩⟩
theorem k36_mkM (w : World) (base : Nat) (ok : Nat → Prop) (x : S36)  : k36.M w base ok x [.int .i64 x.f0, .int .i64 x.f1, .bool x.f2] := ⟨[.int .i64 x.f0], [.int .i64 x.f1, .bool x.f2], rfl, rfl, ⟨[.int .i64 x.f1], [.bool x.f2], rfl, rfl, rfl⟩⟩
def rd_T36 (xs : List S36) (i : Int) : S36 := xs.getD i.toNat z36
theorem at_T36 {w : World} {A : Option Addr} {n : Nat} {xs : List S36} (h : Kd.C k36 w A n xs) (i : Int) (h0 : 0 ≤ i) (h1 : i < n) : ∃ ad , A = some ad ∧ w.cell? (ad.add (i.toNat * 3)) = some (.int .i64 (rd_T36 xs i).f0) ∧ w.cell? ⟨(ad.add (i.toNat * 3)).block, (ad.add (i.toNat * 3)).off + 1, none⟩ = some (.int .i64 (rd_T36 xs i).f1) ∧ w.cell? ⟨(ad.add (i.toNat * 3)).block, (ad.add (i.toNat * 3)).off + 2, none⟩ = some (.bool (rd_T36 xs i).f2) := by
 obtain ⟨ad, c, e, _, hK, hc0⟩ := Kd.C_get h z36 i h0 h1
 have hc : ∀ j u, c[j]? = some u → w.cell? (ad.add (i.toNat * 3 + j)) = some u := hc0
 obtain rfl := k36_open hK
 exact ⟨ad, e, hc 0 _ rfl, by rw [← add_field _ _ 1 (by omega)]; exact hc 1 _ rfl, by rw [← add_field _ _ 2 (by omega)]; exact hc 2 _ rfl⟩


theorem eqA36 (d : Nat) (w : World) (x0 y0 : Int) (x1 y1 : Int) (x2 y2 : Bool) :
  (Op.equalIn (d + 2) 36 (.agg #[.int .i64 x0, .int .i64 x1, .bool x2]) (.agg #[.int .i64 y0, .int .i64 y1, .bool y2])).run Try.prog w = .ok (x0 == y0 && (x1 == y1 && (x2 == y2))) w := by
 refine eqA_of Try.underlying36 zr ?_
 refine eqf_cons (by rfl) (by go_simp; rfl) (by go_simp; rfl) (by go_simp) ?_
 refine eqf_cons (by rfl) (by go_simp; rfl) (by go_simp; rfl) (by go_simp) ?_
 exact eqf_last (by rfl) (by go_simp; rfl) (by go_simp; rfl) (by go_simp)








/-- A state of type 67 at block g of W; what its slices lead to came in by w0. -/
def IsS67 (w0 W : World) (g : Nat) (f0 : List Int) (f1 : Int) (f2 : Int) : Prop := ∃ A0 c0, W.heap[g]? = some (.cells #[.slice A0 f0.length c0, .int .i64 f1, .int .i64 f2] 67 (0, 0)) ∧ w0.heap.size ≤ g ∧ Kd.C (Kd.int .u8) w0 A0 f0.length f0
theorem IsS67.grown {w0 W : World} {g : Nat} {f0 : List Int} {f1 : Int} {f2 : Int} {W1 : World} {row : Option Nat} (h : IsS67 w0 W g f0 f1 f2) (hw : W.grownBy W1 row) (hne : some g ≠ row) : IsS67 w0 W1 g f0 f1 f2 := by
 obtain ⟨A0, c0, hb, hg, hr0⟩ := h
 exact ⟨A0, c0, blk_grown hb hw hne, hg, hr0⟩
theorem IsS67.own_neN {w0 W : World} {g : Nat} {f0 : List Int} {f1 : Int} {f2 : Int} {α : Type} {d : Kd α} {e : Nat} {base : Nat} {ok : Nat → Prop} {v : Value} {xs : List α} (h : IsS67 w0 W g f0 f1 f2) (ho : Kd.N d e W base ok v xs) (ht : e ≠ 67) : some g ≠ v.ownBlock := by
 obtain ⟨A0, c0, hb, hg, hr0⟩ := h
 exact Kd.N_ne ho hb ht
theorem IsS67.fresh {w0 W : World} {g : Nat} {f0 : List Int} {f1 : Int} {f2 : Int} (h : IsS67 w0 W g f0 f1 f2) : ∀ k, W.heap.size ≤ k → k ≠ g := by
 obtain ⟨A0, c0, hb, hg, hr0⟩ := h
 exact Kd.freshB hb
theorem IsS67.kept {w0 W : World} {g : Nat} {f0 : List Int} {f1 : Int} {f2 : Int} {W1 : World} {S : Nat → Prop} (h : IsS67 w0 W g f0 f1 f2) (hk : Kept W W1 S) (hne : ¬ S g) : IsS67 w0 W1 g f0 f1 f2 := by
 obtain ⟨A0, c0, hb, hg, hr0⟩ := h
 exact ⟨A0, c0, blk_kept hb hk hne, hg, hr0⟩
theorem IsS67.below {w0 W : World} {g : Nat} {f0 : List Int} {f1 : Int} {f2 : Int} {W1 : World} (h : IsS67 w0 W g f0 f1 f2) (hw : Below W.heap.size W W1) : IsS67 w0 W1 g f0 f1 f2 := h.grown (grown_of_below hw none) (by simp)
theorem IsS67.alloc {w0 W : World} {g : Nat} {f0 : List Int} {f1 : Int} {f2 : Int} (h : IsS67 w0 W g f0 f1 f2) (o : Obj) : IsS67 w0 (W.alloc o) g f0 f1 f2 := h.below (jV (Below.refl _ _) o)
theorem IsS67.drewN {w0 W : World} {g : Nat} {f0 : List Int} {f1 : Int} {f2 : Int} (h : IsS67 w0 W g f0 f1 f2) (m : Nat) : IsS67 w0 (W.drewN m) g f0 f1 f2 := h
theorem IsS67.drew {w0 W : World} {g : Nat} {f0 : List Int} {f1 : Int} {f2 : Int} (h : IsS67 w0 W g f0 f1 f2) : IsS67 w0 W.drew g f0 f1 f2 := h
theorem IsS67.at_ {w0 W : World} {g : Nat} {f0 : List Int} {f1 : Int} {f2 : Int} {w' : World} {m : Nat} (hq : W.drewN m = w') (h : IsS67 w0 W g f0 f1 f2) : IsS67 w0 w' g f0 f1 f2 := by subst hq; exact IsS67.drewN h m
theorem IsS67.apart {w0 W : World} {g : Nat} {f0 : List Int} {f1 : Int} {f2 : Int} {α : Type} {d : Kd α} {e : Nat} {base : Nat} {ok : Nat → Prop} {v : Value} {xs : List α} (h : IsS67 w0 W g f0 f1 f2) (ho : d.R e W base ok v xs) (ht : ∀ q, q ∈ e :: d.E → q ≠ 67) : d.R e W base (fun k => ok k ∧ k ≠ g) v xs := by
 obtain ⟨A0, c0, hb, hg, hr0⟩ := h
 exact Kd.R_types ho hb ht
theorem IsS67.own_ne {w0 W : World} {g : Nat} {f0 : List Int} {f1 : Int} {f2 : Int} {α : Type} {d : Kd α} {e : Nat} {base : Nat} {ok : Nat → Prop} {v : Value} {xs : List α} (h : IsS67 w0 W g f0 f1 f2) (ho : d.R e W base ok v xs) (ht : e ≠ 67) : some g ≠ v.ownBlock := by
 obtain ⟨A0, c0, hb, hg, hr0⟩ := h
 exact Kd.R_ne ho hb ht
theorem IsS67.apartQ {w0 W : World} {g : Nat} {f0 : List Int} {f1 : Int} {f2 : Int} {α : Type} {d : Kd α} {e : Nat} {base : Nat} {ok : Nat → Prop} {v : Value} {xs : List α} (h : IsS67 w0 W g f0 f1 f2) (ho : d.Q e W base ok v xs) (ht : ∀ q, q ∈ e :: d.E → q ≠ 67) : d.Q e W base (fun k => ok k ∧ k ≠ g) v xs := by
 obtain ⟨A0, c0, hb, hg, hr0⟩ := h
 exact Kd.Q_types ho hb ht
theorem IsS67.own_neQ {w0 W : World} {g : Nat} {f0 : List Int} {f1 : Int} {f2 : Int} {α : Type} {d : Kd α} {e : Nat} {base : Nat} {ok : Nat → Prop} {v : Value} {xs : List α} (h : IsS67 w0 W g f0 f1 f2) (ho : d.Q e W base ok v xs) (ht : e ≠ 67) : some g ≠ v.ownBlock := by
 obtain ⟨A0, c0, hb, hg, hr0⟩ := h
 exact Kd.Q_ne ho hb ht
theorem IsS67.apartS {w0 W : World} {g : Nat} {f0 : List Int} {f1 : Int} {f2 : Int} {α : Type} {d : Kd α} {e : Nat} {base : Nat} {ok : Nat → Prop} {v : Value} {xs : List α} (h : IsS67 w0 W g f0 f1 f2) (ho : d.S e W base ok v xs) (ht : ∀ q, q ∈ e :: d.E → q ≠ 67) : d.S e W base (fun k => ok k ∧ k ≠ g) v xs := by
 obtain ⟨A0, c0, hb, hg, hr0⟩ := h
 exact Kd.S_types ho hb ht
theorem IsS67.own_neS {w0 W : World} {g : Nat} {f0 : List Int} {f1 : Int} {f2 : Int} {α : Type} {d : Kd α} {e : Nat} {base : Nat} {ok : Nat → Prop} {v : Value} {xs : List α} (h : IsS67 w0 W g f0 f1 f2) (ho : d.S e W base ok v xs) (ht : e ≠ 67) : some g ≠ v.ownBlock := by
 obtain ⟨A0, c0, hb, hg, hr0⟩ := h
 exact Kd.S_ne ho hb ht
theorem IsS67.lt {w0 W : World} {g : Nat} {f0 : List Int} {f1 : Int} {f2 : Int} (h : IsS67 w0 W g f0 f1 f2) : g < W.heap.size := by
 obtain ⟨A0, c0, hb, hg, hr0⟩ := h
 exact blk_lt hb
theorem IsS67.ge {w0 W : World} {g : Nat} {f0 : List Int} {f1 : Int} {f2 : Int} (h : IsS67 w0 W g f0 f1 f2) : w0.heap.size ≤ g := by
 obtain ⟨A0, c0, hb, hg, hr0⟩ := h
 exact hg
theorem IsS67.ne_blk {w0 W : World} {g : Nat} {f0 : List Int} {f1 : Int} {f2 : Int} {a : Nat} {cs : Array Value} {t : TypeId} {fr : Nat × Nat} (h : IsS67 w0 W g f0 f1 f2) (hb2 : W.heap[a]? = some (.cells cs t fr)) (ht : t ≠ 67) : g ≠ a := by
 obtain ⟨A0, c0, hb, hg, hr0⟩ := h
 rintro rfl
 rw [hb] at hb2
 injection hb2 with hb2
 injection hb2 with _ ht2
 exact ht ht2.symm
theorem IsS67.far {w0 W : World} {g : Nat} {f0 : List Int} {f1 : Int} {f2 : Int} {p : Addr} (h : IsS67 w0 W g f0 f1 f2) (hne : g ≠ p.block) (u : Value) : IsS67 w0 (W.setCell p u) g f0 f1 f2 := by
 obtain ⟨A0, c0, hb, hg, hr0⟩ := h
 exact ⟨A0, c0, blk_far hb hne u, hg, hr0⟩
theorem cellS67_0 {W : World} {g : Nat} {A0 : Option Addr} {c0 : Nat} {f0 : List Int} {f1 : Int} {f2 : Int} (h : W.heap[g]? = some (.cells #[.slice A0 f0.length c0, .int .i64 f1, .int .i64 f2] 67 (0, 0))) : W.cell? ⟨g, 0, none⟩ = some (.slice A0 f0.length c0) := (jC h 0).trans rfl
theorem cellS67_1 {W : World} {g : Nat} {A0 : Option Addr} {c0 : Nat} {f0 : List Int} {f1 : Int} {f2 : Int} (h : W.heap[g]? = some (.cells #[.slice A0 f0.length c0, .int .i64 f1, .int .i64 f2] 67 (0, 0))) : W.cell? ⟨g, 1, none⟩ = some (.int .i64 f1) := (jC h 1).trans rfl
theorem IsS67.set_1 {w0 W : World} {g : Nat} {f0 : List Int} {f1 : Int} {f2 : Int} (h : IsS67 w0 W g f0 f1 f2) (x : Int) : IsS67 w0 (W.setCell ⟨g, 1, none⟩ (.int .i64 x)) g f0 x f2 := by
 obtain ⟨A0, c0, hb, hg, hr0⟩ := h
 exact ⟨A0, c0, by simpa using blk_set hb 1 (.int .i64 x), hg, hr0⟩
theorem cellS67_2 {W : World} {g : Nat} {A0 : Option Addr} {c0 : Nat} {f0 : List Int} {f1 : Int} {f2 : Int} (h : W.heap[g]? = some (.cells #[.slice A0 f0.length c0, .int .i64 f1, .int .i64 f2] 67 (0, 0))) : W.cell? ⟨g, 2, none⟩ = some (.int .i64 f2) := (jC h 2).trans rfl
theorem IsS67.set_2 {w0 W : World} {g : Nat} {f0 : List Int} {f1 : Int} {f2 : Int} (h : IsS67 w0 W g f0 f1 f2) (x : Int) : IsS67 w0 (W.setCell ⟨g, 2, none⟩ (.int .i64 x)) g f0 f1 x := by
 obtain ⟨A0, c0, hb, hg, hr0⟩ := h
 exact ⟨A0, c0, by simpa using blk_set hb 2 (.int .i64 x), hg, hr0⟩
theorem IsS67.new (w0 W : World) (A0 : Option Addr) (c0 : Nat) (f0 : List Int) (f1 : Int) (f2 : Int) (hB : Below w0.heap.size w0 W) (hr0 : Kd.C (Kd.int .u8) w0 A0 f0.length f0) : IsS67 w0 (W.alloc (.cells #[.slice A0 f0.length c0, .int .i64 f1, .int .i64 f2] 67)) W.heap.size f0 f1 f2 := ⟨A0, c0, by simpa using heap_alloc_new W _, hB.size, hr0⟩


attribute [local go_sem high] eqA36


/-! ### impl_within: function 60 -/
def impl_within.f (a0 : Int) (a1 : Int) (a2 : Int) : Option (Bool) := if a1 ≤ a0 then (some (decide (a0 ≤ a2))) else (some false)
set_option maxHeartbeats 8000000 in
set_option maxRecDepth 100000 in
theorem impl_within.calls (a0 : Int) (a1 : Int) (a2 : Int) (r : Bool) (w : World) (h : impl_within.f a0 a1 a2 = some r) :
  Calls Try.prog 60 #[.int .i64 a0, .int .i64 a1, .int .i64 a2] w fun e w' => e = .returned (.bool r) ∧ Drawn0 w w' := by
 have H : (if a1 ≤ a0 then (some (decide (a0 ≤ a2))) else (some false)) = some r := h
 clear h
 by_cases c4 : a1 ≤ a0
 ·rw [if_pos c4] at H
  have c4b0 : decide (a1 ≤ a0) = true := jZ c4
  clear c4
  obtain rfl := je H
  go_enter Try.func60, Try.ntmps60
  go_wp2
  go_ret
  exact ⟨by first | rfl | (simp; done) | (simp [*]; done), by repeat (first | exact Drawn0.refl _ | apply Drawn0.step)⟩
 ·rw [if_neg c4] at H
  have c4b0 : decide (a1 ≤ a0) = false := jg c4
  clear c4
  obtain rfl := je H
  go_enter Try.func60, Try.ntmps60
  go_wp2
  go_ret
  exact ⟨by first | rfl | (simp; done) | (simp [*]; done), by repeat (first | exact Drawn0.refl _ | apply Drawn0.step)⟩

/-! ### impl_isCue: function 51 -/
def impl_isCue.f (a0 : Int) : Option (Bool) := (impl_within.f a0 0 19).bind fun t101 => (some t101)
set_option maxHeartbeats 8000000 in
set_option maxRecDepth 100000 in
theorem impl_isCue.calls (a0 : Int) (r : Bool) (w : World) (h : impl_isCue.f a0 = some r) :
  Calls Try.prog 51 #[.int .i64 a0] w fun e w' => e = .returned (.bool r) ∧ Drawn0 w w' := by
 have H : ((impl_within.f a0 0 19).bind fun t101 => (some t101)) = some r := h
 clear h
 replace H := jG.mp H
 obtain ⟨t101, A20, H⟩ := H
 replace H : (some t101) = some r := H
 have A2 := jA A20
 clear A20
 obtain rfl := je H
 go_enter Try.func51, Try.ntmps51
 go_wp2_with (first | ((with_reducible refine jU (f := 60) rfl ?_); refine goesL_ (some 4) rfl rfl Try.func60 zr rfl #[.int .i64 a0, .int .i64 0, .int .i64 19] rfl zm ?_; (with_reducible refine (impl_within.calls a0 0 19 t101 _ A2.out).mono ?_); rintro e w' ⟨rfl, ⟨nd, rfl⟩⟩; refine ⟨_, rfl, ?_⟩))
 go_ret
 exact ⟨by first | rfl | (simp; done) | (simp [*]; done), by repeat (first | exact Drawn0.refl _ | apply Drawn0.step)⟩

/-! ### impl_isTick: function 52 -/
def impl_isTick.f (a0 : Int) : Option (Bool) := (impl_within.f a0 0 100000).bind fun t102 => (some t102)
set_option maxHeartbeats 8000000 in
set_option maxRecDepth 100000 in
theorem impl_isTick.calls (a0 : Int) (r : Bool) (w : World) (h : impl_isTick.f a0 = some r) :
  Calls Try.prog 52 #[.int .i64 a0] w fun e w' => e = .returned (.bool r) ∧ Drawn0 w w' := by
 have H : ((impl_within.f a0 0 100000).bind fun t102 => (some t102)) = some r := h
 clear h
 replace H := jG.mp H
 obtain ⟨t102, A20, H⟩ := H
 replace H : (some t102) = some r := H
 have A2 := jA A20
 clear A20
 obtain rfl := je H
 go_enter Try.func52, Try.ntmps52
 go_wp2_with (first | ((with_reducible refine jU (f := 60) rfl ?_); refine goesL_ (some 4) rfl rfl Try.func60 zr rfl #[.int .i64 a0, .int .i64 0, .int .i64 100000] rfl zm ?_; (with_reducible refine (impl_within.calls a0 0 100000 t102 _ A2.out).mono ?_); rintro e w' ⟨rfl, ⟨nd, rfl⟩⟩; refine ⟨_, rfl, ?_⟩))
 go_ret
 exact ⟨by first | rfl | (simp; done) | (simp [*]; done), by repeat (first | exact Drawn0.refl _ | apply Drawn0.step)⟩

/-! ### impl_triesOf: function 57 -/
def impl_triesOf.l0 : Nat → Int → List (S36) → List (S36) → Int → Int → Option ((List (S36)))
 | 0, _, _, _, _, _ => none
 | k + 1, x1, x5, x8, x9, x10 => if x10 < x9 then (if 0 ≤ x10 then (if x10 < (x8.length : Int) then (if ((rd_T36 x8 x10).f0) = x1 then (if x5.length < 5864062014805 then (impl_triesOf.l0 k x1 (x5 ++ [(⟨(rd_T36 x8 x10).f0, (rd_T36 x8 x10).f1, (rd_T36 x8 x10).f2⟩ : S36)]) x8 x9 (wrap64 (x10 + 1))) else (none)) else (impl_triesOf.l0 k x1 x5 x8 x9 (wrap64 (x10 + 1)))) else (none)) else (none)) else (some x5)
def impl_triesOf.f (k : Nat) (l0 : List (S36)) (a1 : Int) : Option ((List (S36))) := impl_triesOf.l0 k a1 ([] : List (S36)) l0 (l0.length : Int) 0
theorem impl_triesOf.mono_l : ∀ k, (∀ y0 y1 y2 y3 y4, LeO (impl_triesOf.l0 k y0 y1 y2 y3 y4) (impl_triesOf.l0 (k + 1) y0 y1 y2 y3 y4))
 | 0 => fun _ _ _ _ _ r h => by simp [impl_triesOf.l0] at h
 | k + 1 => by
  have ih0 := impl_triesOf.mono_l k
  ·intro y0 y1 y2 y3 y4
   unfold impl_triesOf.l0
   repeat' first
   | (with_reducible exact ih0 _ _ _ _ _)
   | (with_reducible exact LeO.refl _)
   | (with_reducible exact LeO.none _)
   | (with_reducible refine LeO.ite ?_ ?_)
   | (with_reducible refine LeO.bind ?_ (fun _ => ?_))
   | exact ih0 _ _ _ _ _
   | exact LeO.none _
   | refine LeO.ite ?_ ?_
   | refine LeO.bind ?_ (fun _ => ?_)
theorem impl_triesOf.mono : ∀ a0 a1 k, LeO (impl_triesOf.f k a0 a1) (impl_triesOf.f (k + 1) a0 a1) := by
 intro a0 a1 k
 have ih0 := impl_triesOf.mono_l k
 unfold impl_triesOf.f
 repeat' first
   | (with_reducible exact ih0 _ _ _ _ _)
   | (with_reducible exact LeO.refl _)
   | (with_reducible exact LeO.none _)
   | (with_reducible refine LeO.ite ?_ ?_)
   | (with_reducible refine LeO.bind ?_ (fun _ => ?_))
   | exact ih0 _ _ _ _ _
   | exact LeO.none _
   | refine LeO.ite ?_ ?_
   | refine LeO.bind ?_ (fun _ => ?_)
set_option maxHeartbeats 8000000 in
set_option maxRecDepth 100000 in
theorem impl_triesOf.calls (k : Nat) (A0 : Option Addr) (c0 : Nat) (l0 : List (S36)) (a1 : Int) (r : List (S36)) (w : World) (hr0 : Kd.C k36 w A0 l0.length l0) (hc0 : l0.length ≤ c0) (h : impl_triesOf.f k l0 a1 = some r) :
  Calls Try.prog 57 #[.slice A0 l0.length c0, .int .i64 a1] w fun e w' => ∃ v0_ : Value, e = .returned (v0_) ∧ Kd.R k36 36 w' w.heap.size (fun _ => True) v0_ r ∧ Below w.heap.size w w' := by
 have hu36 := Try.underlying36
 have HR0 := jA hr0
 have HC0 := jA hc0
 clear hr0 hc0
 have HB := jA (Below.refl w.heap.size w)
 have H : (impl_triesOf.l0 k a1 ([] : List (S36)) l0 (l0.length : Int) 0) = some r := h
 clear h
 have H' := jA H
 clear H
 go_enter Try.func57, Try.ntmps57
 go_wp2
 go_loopg [5, 10] k (fun kq v5 v10 w' => ∃ (x5_1 : List (S36)) (x10_1 : Int), v10 = .int .i64 x10_1 ∧ Aside0 (impl_triesOf.l0 kq a1 x5_1 l0 (l0.length : Int) x10_1 = some r) ∧ Aside0 (kq ≤ k) ∧ Aside0 (Kd.R k36 36 w' w.heap.size (fun _ => True) v5 x5_1) ∧ Aside0 (Below w.heap.size w w'))
 case atStart => exact ⟨(([] : List (S36))), (0), zz, H', ⟨Nat.le_refl _⟩, ⟨by first | exact Kd.R_nil _ _ _ _ _ | exact Kd.N_nil _ _ _ _ _ | exact Kd.V_nil _ _ _ _ _ | exact Kd.Q_nil _ _ _ _ _ | exact Kd.S_nil _ _ _ _ _⟩, ⟨zb0 HB⟩⟩
 case round =>
  clear H'
  try clear p2
  obtain ⟨x5_1, x10_1, rfl, HA, HK1, HO_5, HB⟩ := hrel
  cases gk with
  | zero => exact absurd HA.out (by simp [impl_triesOf.l0])
  | succ k1 =>
   have H := HA.out
   clear HA
   simp only [impl_triesOf.l0] at H
   by_cases c3 : x10_1 < (l0.length : Int)
   ·rw [if_pos c3] at H
    have c3b0 : decide (x10_1 < (l0.length : Int)) = true := jZ c3
    clear c3
    by_cases c4 : 0 ≤ x10_1
    ·rw [if_pos c4] at H
     have c4b0 : decide (0 ≤ x10_1) = true := jZ c4
     clear c4
     by_cases c5 : x10_1 < (l0.length : Int)
     ·rw [if_pos c5] at H
      have c5b0 : decide (x10_1 < (l0.length : Int)) = true := jZ c5
      clear c5
      by_cases c6 : ((rd_T36 l0 x10_1).f0) = a1
      ·rw [if_pos c6] at H
       have c6b0 : (((rd_T36 l0 x10_1).f0) == a1) = true := beq_iff_eq.mpr c6
       have c6b1 : (((rd_T36 l0 x10_1).f0) != a1) = false := bne_eq_false_iff_eq.mpr c6
       clear c6
       by_cases c7 : x5_1.length < 5864062014805
       ·rw [if_pos c7] at H
        have LMc7 := jA c7
        clear c7
        obtain ⟨y105, hy105⟩ : ∃ y_ : List (S36), y_ = (x5_1 ++ [(⟨(rd_T36 l0 x10_1).f0, (rd_T36 l0 x10_1).f1, (rd_T36 l0 x10_1).f2⟩ : S36)]) := ⟨_, rfl⟩
        replace H : (impl_triesOf.l0 k1 a1 y105 l0 (l0.length : Int) (wrap64 (x10_1 + 1))) = some r := by first | (rw [hy105]; with_reducible exact H) | (have H2_ := (Option.bind_some _ _).symm.trans H; rw [hy105]; with_reducible exact H2_) | (have H2_ := (Option.bind_some _ _).symm.trans H; with_reducible exact H2_) | with_reducible exact H | (rw [hy105]; exact H) | exact H
        have Ny105 := jA hy105
        clear hy105
        have H' := jA H
        clear H
        have p103 : 0 ≤ (x10_1 : Int) := jI za
        have q103 : x10_1 < (l0.length : Int) := jI za
        obtain ⟨ad103, e103, hx103_0, hx103_1, hx103_2⟩ := at_T36 HR0.out x10_1 p103 q103
        cases e103
        replace hx103_0 := (HB.out.cell (ja w _ hx103_0)).trans hx103_0
        replace hx103_1 := (HB.out.cell (ja w _ hx103_1)).trans hx103_1
        replace hx103_2 := (HB.out.cell (ja w _ hx103_2)).trans hx103_2
        replace p103 := eq_true p103
        replace q103 := eq_true q103
        go_wp2_with (first | ((with_reducible refine gate_dst (N := 7) rfl ?_); refine box_event ?hg (N := 7) ?hd (cs := #[.int .i64 0, .int .i64 0, .bool false]) (t := 36) ?hr ?_; (case hd => rfl); (case hg => rfl); (case hr => first | (go_simp; done) | (go_simp; rfl)); intro gb104 hg w8 hbox hb; have n0_ := jA (jK (Kd.R_elderB (zo HO_5) gb104 (Nat.le_of_eq hg.symm)) hb); have n1_ := jA (jH (zb0 HB) hb); have n2_ := jA (hbox); have n3_ := jA ((by rw [hg]; exact (jP (zb0 HB)) : w.heap.size ≤ gb104)); have n4_ := jA ((by rw [hg]; exact (jP (zb0 HB)) : w.heap.size ≤ gb104)); clear HO_5; clear HB; have HO_5 := n0_; have HB := n1_; have BK104 := n2_; have GW104 := n3_; have GE104 := n4_; clear n0_ n1_ n2_ n3_ n4_; clear hb hbox hg; have hcz9_0 : w8.cell? ⟨gb104, 0, none⟩ = some (.int .i64 0) := (jC BK104.out 0).trans rfl; have hcz9_1 : w8.cell? ⟨gb104, 1, none⟩ = some (.int .i64 0) := (jC BK104.out 1).trans rfl; have hcz9_2 : w8.cell? ⟨gb104, 2, none⟩ = some (.bool false) := (jC BK104.out 2).trans rfl; have hfz9_0 := jd BK104.out 0; have hfz9_1 := jd BK104.out 1; have hfz9_2 := jd BK104.out 2) | ((with_reducible refine gate_builtin (b := .append) (xs := #[.tmp 18, .tmp 20]) rfl ?_); at_builtin; refine Kd.R_append k36 (w0 := w) w.heap.size rfl (.tmp 18) (.tmp 20) 25 36 (.agg #[(.int .i64 0), (.int .i64 0), (.bool false)]) 24 rfl Try.underlying25 info36 rfl (by decide) (by omega) u5 x5_1 (⟨(rd_T36 l0 x10_1).f0, (rd_T36 l0 x10_1).f1, (rd_T36 l0 x10_1).f2⟩ : S36) [.int .i64 ((rd_T36 l0 x10_1).f0), .int .i64 ((rd_T36 l0 x10_1).f1), .bool ((rd_T36 l0 x10_1).f2)] (fun k_ => k_ ≠ gb104) (fun _ => False) rfl (by first | (go_simp; done) | (go_simp; rfl)) ?aP (fun _ hk => hk.elim) ?aF ?aO ?aB ?aS ?aL ?_; (case aP => exact k36_mkM _ _ _ (⟨(rd_T36 l0 x10_1).f0, (rd_T36 l0 x10_1).f1, (rd_T36 l0 x10_1).f2⟩ : S36)); (case aB => exact (zb1 HB GE104)); (case aF => exact (fun k_ hk => Kd.freshB (g := gb104) (o := .cells #[.int .i64 ((rd_T36 l0 x10_1).f0), .int .i64 ((rd_T36 l0 x10_1).f1), .bool ((rd_T36 l0 x10_1).f2)] 36 (0, 0)) (by (with_reducible repeat (first | refine jX ?_ _ | refine jW ?_ | refine jY ?_ _)); refine blk_put (cs := #[.int .i64 ((rd_T36 l0 x10_1).f0), .int .i64 ((rd_T36 l0 x10_1).f1), .bool false]) ?_ 2 _ rfl; (with_reducible repeat (first | refine jX ?_ _ | refine jW ?_ | refine jY ?_ _)); refine blk_put (cs := #[.int .i64 ((rd_T36 l0 x10_1).f0), .int .i64 0, .bool false]) ?_ 1 _ rfl; (with_reducible repeat (first | refine jX ?_ _ | refine jW ?_ | refine jY ?_ _)); refine blk_put (cs := #[.int .i64 0, .int .i64 0, .bool false]) ?_ 0 _ rfl; (with_reducible repeat (first | refine jX ?_ _ | refine jW ?_ | refine jY ?_ _)); exact BK104.out) k_ hk)); (case aO => exact (by (with_reducible repeat (first | apply jR | apply jQ | apply jS)); exact Kd.R_mono (Kd.R_far (p := ⟨gb104, 2, none⟩) (Kd.R_far (p := ⟨gb104, 1, none⟩) (Kd.R_far (p := ⟨gb104, 0, none⟩) (Kd.R_mono HO_5.out (fun k_ hk => (⟨hk, hk.2⟩ : _ ∧ k_ ≠ gb104))) (fun _ hk => hk.2) (.int .i64 ((rd_T36 l0 x10_1).f0))) (fun _ hk => hk.2) (.int .i64 ((rd_T36 l0 x10_1).f1))) (fun _ hk => hk.2) (.bool ((rd_T36 l0 x10_1).f2))) (fun _ hk => hk.1.2))); (case aS => exact (jP (zb1 HB GE104))); (case aL => have := LMc7.out; omega); intro v106 w10 ho hb hg hat; rw [← Ny105.out] at ho; have n0_ := jA (blk_grown (g := gb104) (o := .cells #[.int .i64 ((rd_T36 l0 x10_1).f0), .int .i64 ((rd_T36 l0 x10_1).f1), .bool ((rd_T36 l0 x10_1).f2)] 36 (0, 0)) (by (with_reducible repeat (first | refine jX ?_ _ | refine jW ?_ | refine jY ?_ _)); refine blk_put (cs := #[.int .i64 ((rd_T36 l0 x10_1).f0), .int .i64 ((rd_T36 l0 x10_1).f1), .bool false]) ?_ 2 _ rfl; (with_reducible repeat (first | refine jX ?_ _ | refine jW ?_ | refine jY ?_ _)); refine blk_put (cs := #[.int .i64 ((rd_T36 l0 x10_1).f0), .int .i64 0, .bool false]) ?_ 1 _ rfl; (with_reducible repeat (first | refine jX ?_ _ | refine jW ?_ | refine jY ?_ _)); refine blk_put (cs := #[.int .i64 0, .int .i64 0, .bool false]) ?_ 0 _ rfl; (with_reducible repeat (first | refine jX ?_ _ | refine jW ?_ | refine jY ?_ _)); exact BK104.out) hg (Kd.R_away HO_5.out (fun _ hk => hk.2))); have n1_ := jA (hb); have n2_ := jA (ho); clear BK104; clear HB; clear HO_5; have BK104 := n0_; have HB := n1_; have HO107 := n2_; clear n0_ n1_ n2_; clear ho hb hg hat))
        go_roundg k1
        case measure => have := HK1.out; omega
        case rel => exact ⟨(y105), (wrap64 (x10_1 + 1)), zz, H', ⟨by have := HK1.out; omega⟩, ⟨by (with_reducible repeat (first | apply jR | apply jQ | apply jS)); exact Kd.R_mono HO107.out (fun _ hk => trivial)⟩, ⟨zb1 HB GE104⟩⟩
       ·rw [if_neg c7] at H
        exact absurd H (by simp)
      ·rw [if_neg c6] at H
       have c6b0 : (((rd_T36 l0 x10_1).f0) == a1) = false := beq_eq_false_iff_ne.mpr c6
       have c6b1 : (((rd_T36 l0 x10_1).f0) != a1) = true := bne_iff_ne.mpr c6
       have H' := jA H
       clear H
       have p103 : 0 ≤ (x10_1 : Int) := jI za
       have q103 : x10_1 < (l0.length : Int) := jI za
       obtain ⟨ad103, e103, hx103_0, hx103_1, hx103_2⟩ := at_T36 HR0.out x10_1 p103 q103
       cases e103
       replace hx103_0 := (HB.out.cell (ja w _ hx103_0)).trans hx103_0
       replace hx103_1 := (HB.out.cell (ja w _ hx103_1)).trans hx103_1
       replace hx103_2 := (HB.out.cell (ja w _ hx103_2)).trans hx103_2
       replace p103 := eq_true p103
       replace q103 := eq_true q103
       go_wp2_with (first | ((with_reducible refine gate_dst (N := 7) rfl ?_); refine box_event ?hg (N := 7) ?hd (cs := #[.int .i64 0, .int .i64 0, .bool false]) (t := 36) ?hr ?_; (case hd => rfl); (case hg => rfl); (case hr => first | (go_simp; done) | (go_simp; rfl)); intro gb104 hg w11 hbox hb; have n0_ := jA (jK (Kd.R_elderB (zo HO_5) gb104 (Nat.le_of_eq hg.symm)) hb); have n1_ := jA (jH (zb0 HB) hb); have n2_ := jA (hbox); have n3_ := jA ((by rw [hg]; exact (jP (zb0 HB)) : w.heap.size ≤ gb104)); have n4_ := jA ((by rw [hg]; exact (jP (zb0 HB)) : w.heap.size ≤ gb104)); clear HO_5; clear HB; have HO_5 := n0_; have HB := n1_; have BK104 := n2_; have GW104 := n3_; have GE104 := n4_; clear n0_ n1_ n2_ n3_ n4_; clear hb hbox hg; have hcz12_0 : w11.cell? ⟨gb104, 0, none⟩ = some (.int .i64 0) := (jC BK104.out 0).trans rfl; have hcz12_1 : w11.cell? ⟨gb104, 1, none⟩ = some (.int .i64 0) := (jC BK104.out 1).trans rfl; have hcz12_2 : w11.cell? ⟨gb104, 2, none⟩ = some (.bool false) := (jC BK104.out 2).trans rfl; have hfz12_0 := jd BK104.out 0; have hfz12_1 := jd BK104.out 1; have hfz12_2 := jd BK104.out 2))
       go_roundg k1
       case measure => have := HK1.out; omega
       case rel => exact ⟨(x5_1), (wrap64 (x10_1 + 1)), zz, H', ⟨by have := HK1.out; omega⟩, ⟨by (with_reducible repeat (first | apply jR | apply jQ | apply jS)); exact Kd.R_mono (Kd.R_far (p := ⟨gb104, 2, none⟩) (Kd.R_far (p := ⟨gb104, 1, none⟩) (Kd.R_far (p := ⟨gb104, 0, none⟩) (Kd.R_mono HO_5.out (fun k_ hk => (⟨hk, hk.2⟩ : _ ∧ k_ ≠ gb104))) (fun _ hk => hk.2) (.int .i64 ((rd_T36 l0 x10_1).f0))) (fun _ hk => hk.2) (.int .i64 ((rd_T36 l0 x10_1).f1))) (fun _ hk => hk.2) (.bool ((rd_T36 l0 x10_1).f2))) (fun _ hk => trivial)⟩, ⟨zb1 HB GE104⟩⟩
     ·rw [if_neg c5] at H
      exact absurd H (by simp)
    ·rw [if_neg c4] at H
     exact absurd H (by simp)
   ·rw [if_neg c3] at H
    have c3b0 : decide (x10_1 < (l0.length : Int)) = false := jg c3
    clear c3
    obtain rfl := je H
    go_wp2
    go_ret
    exact ⟨_, by first | rfl | (simp [errW_none, errW_some] <;> rfl) | (simp [*, errW_none, errW_some] <;> rfl), by (with_reducible repeat (first | apply jR | apply jQ | apply jS)); exact HO_5.out, zb0 HB⟩

/-! ### impl_cueState: function 53 -/
def impl_cueState.f (k : Nat) (l0 : List (S36)) (a1 : Int) : Option (Int) := (impl_triesOf.f k l0 a1).bind fun t108 => (if (t108.length : Int) = 0 then (some 0) else (if 0 ≤ (wrap64 ((t108.length : Int) - 1)) then (if (wrap64 ((t108.length : Int) - 1)) < (t108.length : Int) then (if (rd_T36 t108 (wrap64 ((t108.length : Int) - 1))).f2 = true then (some 2) else (if (t108.length : Int) = 3 then (some 3) else (some 1))) else (none)) else (none)))
theorem impl_cueState.mono : ∀ a0 a1 k, LeO (impl_cueState.f k a0 a1) (impl_cueState.f (k + 1) a0 a1) := by
 intro a0 a1 k
 unfold impl_cueState.f
 repeat' first
   | (with_reducible exact impl_triesOf.mono _ _ _)
   | (with_reducible exact LeO.refl _)
   | (with_reducible exact LeO.none _)
   | (with_reducible refine LeO.ite ?_ ?_)
   | (with_reducible refine LeO.bind ?_ (fun _ => ?_))
   | exact impl_triesOf.mono _ _ _
   | exact LeO.none _
   | refine LeO.ite ?_ ?_
   | refine LeO.bind ?_ (fun _ => ?_)
set_option maxHeartbeats 8000000 in
set_option maxRecDepth 100000 in
theorem impl_cueState.calls (k : Nat) (A0 : Option Addr) (c0 : Nat) (l0 : List (S36)) (a1 : Int) (r : Int) (w : World) (hr0 : Kd.C k36 w A0 l0.length l0) (hc0 : l0.length ≤ c0) (h : impl_cueState.f k l0 a1 = some r) :
  Calls Try.prog 53 #[.slice A0 l0.length c0, .int .i64 a1] w fun e w' => e = .returned (.int .i64 r) ∧ Below w.heap.size w w' := by
 have HR0 := jA hr0
 have HC0 := jA hc0
 clear hr0 hc0
 have HB := jA (Below.refl w.heap.size w)
 have H : ((impl_triesOf.f k l0 a1).bind fun t108 => (if (t108.length : Int) = 0 then (some 0) else (if 0 ≤ (wrap64 ((t108.length : Int) - 1)) then (if (wrap64 ((t108.length : Int) - 1)) < (t108.length : Int) then (if (rd_T36 t108 (wrap64 ((t108.length : Int) - 1))).f2 = true then (some 2) else (if (t108.length : Int) = 3 then (some 3) else (some 1))) else (none)) else (none)))) = some r := h
 clear h
 replace H := jG.mp H
 obtain ⟨t108, A30, H⟩ := H
 replace H : (if (t108.length : Int) = 0 then (some 0) else (if 0 ≤ (wrap64 ((t108.length : Int) - 1)) then (if (wrap64 ((t108.length : Int) - 1)) < (t108.length : Int) then (if (rd_T36 t108 (wrap64 ((t108.length : Int) - 1))).f2 = true then (some 2) else (if (t108.length : Int) = 3 then (some 3) else (some 1))) else (none)) else (none))) = some r := H
 have A3 := jA A30
 clear A30
 by_cases c4 : (t108.length : Int) = 0
 ·rw [if_pos c4] at H
  have c4b0 : ((t108.length : Int) == 0) = true := beq_iff_eq.mpr c4
  have c4b1 : ((t108.length : Int) != 0) = false := bne_eq_false_iff_eq.mpr c4
  clear c4
  obtain rfl := je H
  go_enter Try.func53, Try.ntmps53
  go_wp2_with (first | ((with_reducible refine jU (f := 57) rfl ?_); refine goesL_ (some 8) rfl rfl Try.func57 zr rfl #[.slice A0 l0.length c0, .int .i64 a1] rfl zm ?_; (with_reducible refine (impl_triesOf.calls k _ _ l0 a1 t108 _ ?side1 ?side2 A3.out).mono ?_); (case side1 => repeat (first | exact HR0.out | (with_reducible refine jN ?_ _) | (with_reducible refine jM ?_ _) | (with_reducible refine jT ?_))); (case side2 => exact HC0.out); rintro e w5 ⟨v109, rfl, ho0, hb⟩; refine ⟨_, rfl, ?_⟩; have n0_ := jA (jc ho0 (jP (zb0 HB))); have n1_ := jA (jH (zb0 HB) hb); clear HB; have HO110 := n0_; have HB := n1_; clear n0_ n1_; (try clear hb); (try clear hb2); (try clear hk); (try clear hi); (try clear ho0); obtain ⟨Ao6, co6, eo6⟩ := Kd.R_slice HO110.out; subst eo6))
  go_ret
  exact ⟨by first | rfl | (simp [errW_none, errW_some] <;> rfl) | (simp [*, errW_none, errW_some] <;> rfl), zb0 HB⟩
 ·rw [if_neg c4] at H
  have c4b0 : ((t108.length : Int) == 0) = false := beq_eq_false_iff_ne.mpr c4
  have c4b1 : ((t108.length : Int) != 0) = true := bne_iff_ne.mpr c4
  have c4b2 : ¬ (t108 = []) := fun h_ => c4 (by rw [h_]; rfl)
  obtain ⟨ji7, hji7⟩ : ∃ j_ : Int, (wrap64 ((t108.length : Int) - 1)) = j_ := ⟨_, rfl⟩
  replace H : (if 0 ≤ (ji7) then (if (ji7) < (t108.length : Int) then (if (rd_T36 t108 (ji7)).f2 = true then (some 2) else (if (t108.length : Int) = 3 then (some 3) else (some 1))) else (none)) else (none)) = some r := by first | (rw [hji7] at H; exact H) | (simp only [hji7] at H ⊢; exact H)
  (try rw [hji7] at A3)
  have hji7w : (IntKind.i64.wrap ((t108.length : Int) - 1)) = ji7 := (i64_w _).trans hji7
  by_cases c8 : 0 ≤ (ji7)
  ·rw [if_pos c8] at H
   have c8b0 : decide (0 ≤ (ji7)) = true := jZ c8
   clear c8
   by_cases c9 : (ji7) < (t108.length : Int)
   ·rw [if_pos c9] at H
    have c9b0 : decide ((ji7) < (t108.length : Int)) = true := jZ c9
    clear c9
    obtain ⟨bq10, hbq10⟩ : ∃ b_ : Bool, b_ = ((rd_T36 t108 (ji7)).f2) := ⟨_, rfl⟩
    replace H : (if bq10 = true then (some 2) else (if (t108.length : Int) = 3 then (some 3) else (some 1))) = some r := by rw [← hbq10] at H; exact H
    have Nbq10 := jA hbq10
    clear hbq10
    by_cases c11 : bq10 = true
    ·subst c11
     have H1 : (some 2) = some r := by rw [if_pos rfl] at H; exact H
     clear H
     have H := H1
     clear H1
     obtain rfl := je H
     go_enter Try.func53, Try.ntmps53
     go_wp2_with (first | ((with_reducible refine jU (f := 57) rfl ?_); refine goesL_ (some 8) rfl rfl Try.func57 zr rfl #[.slice A0 l0.length c0, .int .i64 a1] rfl zm ?_; (with_reducible refine (impl_triesOf.calls k _ _ l0 a1 t108 _ ?side1 ?side2 A3.out).mono ?_); (case side1 => repeat (first | exact HR0.out | (with_reducible refine jN ?_ _) | (with_reducible refine jM ?_ _) | (with_reducible refine jT ?_))); (case side2 => exact HC0.out); rintro e w12 ⟨v109, rfl, ho0, hb⟩; refine ⟨_, rfl, ?_⟩; have n0_ := jA (jc ho0 (jP (zb0 HB))); have n1_ := jA (jH (zb0 HB) hb); clear HB; have HO110 := n0_; have HB := n1_; clear n0_ n1_; (try clear hb); (try clear hb2); (try clear hk); (try clear hi); (try clear ho0); obtain ⟨Ao13, co13, eo13⟩ := Kd.R_slice HO110.out; subst eo13; have p111 : 0 ≤ ((ji7) : Int) := jI za; have q111 : (ji7) < (t108.length : Int) := jI za; obtain ⟨ad111, e111, hx111_0, hx111_1, hx111_2⟩ := at_T36 (jD HO110.out).2.2 (ji7) p111 q111; (try rw [← Nbq10.out] at hx111_2); cases e111; replace p111 := eq_true p111; replace q111 := eq_true q111))
     go_ret
     exact ⟨by first | rfl | (simp [errW_none, errW_some] <;> rfl) | (simp only [← hji7]; first | rfl | (simp [errW_none, errW_some] <;> rfl)) | (simp [*, errW_none, errW_some] <;> rfl), zb0 HB⟩
    ·replace c11 := Bool.eq_false_iff.mpr c11
     subst c11
     have H1 : (if (t108.length : Int) = 3 then (some 3) else (some 1)) = some r := by rw [if_neg (show ¬ (false = true) by decide)] at H; exact H
     clear H
     have H := H1
     clear H1
     by_cases c14 : (t108.length : Int) = 3
     ·rw [if_pos c14] at H
      have c14b0 : ((t108.length : Int) == 3) = true := beq_iff_eq.mpr c14
      have c14b1 : ((t108.length : Int) != 3) = false := bne_eq_false_iff_eq.mpr c14
      clear c14
      obtain rfl := je H
      go_enter Try.func53, Try.ntmps53
      go_wp2_with (first | ((with_reducible refine jU (f := 57) rfl ?_); refine goesL_ (some 8) rfl rfl Try.func57 zr rfl #[.slice A0 l0.length c0, .int .i64 a1] rfl zm ?_; (with_reducible refine (impl_triesOf.calls k _ _ l0 a1 t108 _ ?side1 ?side2 A3.out).mono ?_); (case side1 => repeat (first | exact HR0.out | (with_reducible refine jN ?_ _) | (with_reducible refine jM ?_ _) | (with_reducible refine jT ?_))); (case side2 => exact HC0.out); rintro e w15 ⟨v109, rfl, ho0, hb⟩; refine ⟨_, rfl, ?_⟩; have n0_ := jA (jc ho0 (jP (zb0 HB))); have n1_ := jA (jH (zb0 HB) hb); clear HB; have HO110 := n0_; have HB := n1_; clear n0_ n1_; (try clear hb); (try clear hb2); (try clear hk); (try clear hi); (try clear ho0); obtain ⟨Ao16, co16, eo16⟩ := Kd.R_slice HO110.out; subst eo16; have p111 : 0 ≤ ((ji7) : Int) := jI za; have q111 : (ji7) < (t108.length : Int) := jI za; obtain ⟨ad111, e111, hx111_0, hx111_1, hx111_2⟩ := at_T36 (jD HO110.out).2.2 (ji7) p111 q111; (try rw [← Nbq10.out] at hx111_2); cases e111; replace p111 := eq_true p111; replace q111 := eq_true q111))
      go_ret
      exact ⟨by first | rfl | (simp [errW_none, errW_some] <;> rfl) | (simp only [← hji7]; first | rfl | (simp [errW_none, errW_some] <;> rfl)) | (simp [*, errW_none, errW_some] <;> rfl), zb0 HB⟩
     ·rw [if_neg c14] at H
      have c14b0 : ((t108.length : Int) == 3) = false := beq_eq_false_iff_ne.mpr c14
      have c14b1 : ((t108.length : Int) != 3) = true := bne_iff_ne.mpr c14
      obtain rfl := je H
      go_enter Try.func53, Try.ntmps53
      go_wp2_with (first | ((with_reducible refine jU (f := 57) rfl ?_); refine goesL_ (some 8) rfl rfl Try.func57 zr rfl #[.slice A0 l0.length c0, .int .i64 a1] rfl zm ?_; (with_reducible refine (impl_triesOf.calls k _ _ l0 a1 t108 _ ?side1 ?side2 A3.out).mono ?_); (case side1 => repeat (first | exact HR0.out | (with_reducible refine jN ?_ _) | (with_reducible refine jM ?_ _) | (with_reducible refine jT ?_))); (case side2 => exact HC0.out); rintro e w17 ⟨v109, rfl, ho0, hb⟩; refine ⟨_, rfl, ?_⟩; have n0_ := jA (jc ho0 (jP (zb0 HB))); have n1_ := jA (jH (zb0 HB) hb); clear HB; have HO110 := n0_; have HB := n1_; clear n0_ n1_; (try clear hb); (try clear hb2); (try clear hk); (try clear hi); (try clear ho0); obtain ⟨Ao18, co18, eo18⟩ := Kd.R_slice HO110.out; subst eo18; have p111 : 0 ≤ ((ji7) : Int) := jI za; have q111 : (ji7) < (t108.length : Int) := jI za; obtain ⟨ad111, e111, hx111_0, hx111_1, hx111_2⟩ := at_T36 (jD HO110.out).2.2 (ji7) p111 q111; (try rw [← Nbq10.out] at hx111_2); cases e111; replace p111 := eq_true p111; replace q111 := eq_true q111))
      go_ret
      exact ⟨by first | rfl | (simp [errW_none, errW_some] <;> rfl) | (simp only [← hji7]; first | rfl | (simp [errW_none, errW_some] <;> rfl)) | (simp [*, errW_none, errW_some] <;> rfl), zb0 HB⟩
   ·rw [if_neg c9] at H
    exact absurd H (by simp)
  ·rw [if_neg c8] at H
   exact absurd H (by simp)

/-! ### impl_nextTick: function 54 -/
def impl_nextTick.f (k : Nat) (l0 : List (S36)) (a1 : Int) : Option (Int) := if (l0.length : Int) > 0 then (if 0 ≤ (wrap64 ((l0.length : Int) - 1)) then (if (wrap64 ((l0.length : Int) - 1)) < (l0.length : Int) then ((impl_triesOf.f k l0 a1).bind fun t113 => (if (t113.length : Int) > 0 then (if 0 ≤ (wrap64 ((t113.length : Int) - 1)) then (if (wrap64 ((t113.length : Int) - 1)) < (t113.length : Int) then (some (mx ((rd_T36 l0 (wrap64 ((l0.length : Int) - 1))).f1) (wrap64 (((rd_T36 t113 (wrap64 ((t113.length : Int) - 1))).f1) + 50)))) else (none)) else (none)) else (some ((rd_T36 l0 (wrap64 ((l0.length : Int) - 1))).f1)))) else (none)) else (none)) else ((impl_triesOf.f k l0 a1).bind fun t117 => (if (t117.length : Int) > 0 then (if 0 ≤ (wrap64 ((t117.length : Int) - 1)) then (if (wrap64 ((t117.length : Int) - 1)) < (t117.length : Int) then (some (mx 0 (wrap64 (((rd_T36 t117 (wrap64 ((t117.length : Int) - 1))).f1) + 50)))) else (none)) else (none)) else (some 0)))
theorem impl_nextTick.mono : ∀ a0 a1 k, LeO (impl_nextTick.f k a0 a1) (impl_nextTick.f (k + 1) a0 a1) := by
 intro a0 a1 k
 unfold impl_nextTick.f
 repeat' first
   | (with_reducible exact impl_triesOf.mono _ _ _)
   | (with_reducible exact LeO.refl _)
   | (with_reducible exact LeO.none _)
   | (with_reducible refine LeO.ite ?_ ?_)
   | (with_reducible refine LeO.bind ?_ (fun _ => ?_))
   | exact impl_triesOf.mono _ _ _
   | exact LeO.none _
   | refine LeO.ite ?_ ?_
   | refine LeO.bind ?_ (fun _ => ?_)
set_option maxHeartbeats 8000000 in
set_option maxRecDepth 100000 in
theorem impl_nextTick.calls (k : Nat) (A0 : Option Addr) (c0 : Nat) (l0 : List (S36)) (a1 : Int) (r : Int) (w : World) (hr0 : Kd.C k36 w A0 l0.length l0) (hc0 : l0.length ≤ c0) (h : impl_nextTick.f k l0 a1 = some r) :
  Calls Try.prog 54 #[.slice A0 l0.length c0, .int .i64 a1] w fun e w' => e = .returned (.int .i64 r) ∧ Below w.heap.size w w' := by
 have HR0 := jA hr0
 have HC0 := jA hc0
 clear hr0 hc0
 have HB := jA (Below.refl w.heap.size w)
 have H : (if (l0.length : Int) > 0 then (if 0 ≤ (wrap64 ((l0.length : Int) - 1)) then (if (wrap64 ((l0.length : Int) - 1)) < (l0.length : Int) then ((impl_triesOf.f k l0 a1).bind fun t113 => (if (t113.length : Int) > 0 then (if 0 ≤ (wrap64 ((t113.length : Int) - 1)) then (if (wrap64 ((t113.length : Int) - 1)) < (t113.length : Int) then (some (mx ((rd_T36 l0 (wrap64 ((l0.length : Int) - 1))).f1) (wrap64 (((rd_T36 t113 (wrap64 ((t113.length : Int) - 1))).f1) + 50)))) else (none)) else (none)) else (some ((rd_T36 l0 (wrap64 ((l0.length : Int) - 1))).f1)))) else (none)) else (none)) else ((impl_triesOf.f k l0 a1).bind fun t117 => (if (t117.length : Int) > 0 then (if 0 ≤ (wrap64 ((t117.length : Int) - 1)) then (if (wrap64 ((t117.length : Int) - 1)) < (t117.length : Int) then (some (mx 0 (wrap64 (((rd_T36 t117 (wrap64 ((t117.length : Int) - 1))).f1) + 50)))) else (none)) else (none)) else (some 0)))) = some r := h
 clear h
 by_cases c3 : (l0.length : Int) > 0
 ·rw [if_pos c3] at H
  have c3b0 : decide (0 < (l0.length : Int)) = true := jZ c3
  have c3b1 : decide (0 < l0.length) = true := jZ (by omega)
  clear c3
  obtain ⟨ji4, hji4⟩ : ∃ j_ : Int, (wrap64 ((l0.length : Int) - 1)) = j_ := ⟨_, rfl⟩
  replace H : (if 0 ≤ (ji4) then (if (ji4) < (l0.length : Int) then ((impl_triesOf.f k l0 a1).bind fun t113 => (if (t113.length : Int) > 0 then (if 0 ≤ (wrap64 ((t113.length : Int) - 1)) then (if (wrap64 ((t113.length : Int) - 1)) < (t113.length : Int) then (some (mx ((rd_T36 l0 (ji4)).f1) (wrap64 (((rd_T36 t113 (wrap64 ((t113.length : Int) - 1))).f1) + 50)))) else (none)) else (none)) else (some ((rd_T36 l0 (ji4)).f1)))) else (none)) else (none)) = some r := by first | (rw [hji4] at H; exact H) | (simp only [hji4] at H ⊢; exact H)
  have hji4w : (IntKind.i64.wrap ((l0.length : Int) - 1)) = ji4 := (i64_w _).trans hji4
  by_cases c5 : 0 ≤ (ji4)
  ·rw [if_pos c5] at H
   have c5b0 : decide (0 ≤ (ji4)) = true := jZ c5
   clear c5
   by_cases c6 : (ji4) < (l0.length : Int)
   ·rw [if_pos c6] at H
    have c6b0 : decide ((ji4) < (l0.length : Int)) = true := jZ c6
    clear c6
    replace H := jG.mp H
    obtain ⟨t113, A70, H⟩ := H
    replace H : (if (t113.length : Int) > 0 then (if 0 ≤ (wrap64 ((t113.length : Int) - 1)) then (if (wrap64 ((t113.length : Int) - 1)) < (t113.length : Int) then (some (mx ((rd_T36 l0 (ji4)).f1) (wrap64 (((rd_T36 t113 (wrap64 ((t113.length : Int) - 1))).f1) + 50)))) else (none)) else (none)) else (some ((rd_T36 l0 (ji4)).f1))) = some r := H
    have A7 := jA A70
    clear A70
    by_cases c8 : (t113.length : Int) > 0
    ·rw [if_pos c8] at H
     have c8b0 : decide (0 < (t113.length : Int)) = true := jZ c8
     have c8b1 : decide (0 < t113.length) = true := jZ (by omega)
     clear c8
     obtain ⟨ji9, hji9⟩ : ∃ j_ : Int, (wrap64 ((t113.length : Int) - 1)) = j_ := ⟨_, rfl⟩
     replace H : (if 0 ≤ (ji9) then (if (ji9) < (t113.length : Int) then (some (mx ((rd_T36 l0 (ji4)).f1) (wrap64 (((rd_T36 t113 (ji9)).f1) + 50)))) else (none)) else (none)) = some r := by first | (rw [hji9] at H; exact H) | (simp only [hji9] at H ⊢; exact H)
     (try rw [hji9] at A7)
     have hji9w : (IntKind.i64.wrap ((t113.length : Int) - 1)) = ji9 := (i64_w _).trans hji9
     by_cases c10 : 0 ≤ (ji9)
     ·rw [if_pos c10] at H
      have c10b0 : decide (0 ≤ (ji9)) = true := jZ c10
      clear c10
      by_cases c11 : (ji9) < (t113.length : Int)
      ·rw [if_pos c11] at H
       have c11b0 : decide ((ji9) < (t113.length : Int)) = true := jZ c11
       clear c11
       obtain ⟨ji12, hji12⟩ : ∃ j_ : Int, (mx ((rd_T36 l0 (ji4)).f1) (wrap64 (((rd_T36 t113 (ji9)).f1) + 50))) = j_ := ⟨_, rfl⟩
       replace H : (some ji12) = some r := by first | (rw [hji12] at H; exact H) | (simp only [hji12] at H ⊢; exact H)
       (try rw [hji12] at A7)
       have hji12_ : (if ((rd_T36 l0 (ji4)).f1) < (wrap64 (((rd_T36 t113 (ji9)).f1) + 50)) then (wrap64 (((rd_T36 t113 (ji9)).f1) + 50)) else ((rd_T36 l0 (ji4)).f1)) = ji12 := hji12
       obtain rfl := je H
       have p112 : 0 ≤ ((ji4) : Int) := jI za
       have q112 : (ji4) < (l0.length : Int) := jI za
       obtain ⟨ad112, e112, hx112_0, hx112_1, hx112_2⟩ := at_T36 HR0.out (ji4) p112 q112
       cases e112
       replace p112 := eq_true p112
       replace q112 := eq_true q112
       go_enter Try.func54, Try.ntmps54
       go_wp2_with (first | ((with_reducible refine jU (f := 57) rfl ?_); refine goesL_ (some 19) rfl rfl Try.func57 zr rfl #[.slice (some ad112) l0.length c0, .int .i64 a1] rfl zm ?_; (with_reducible refine (impl_triesOf.calls k _ _ l0 a1 t113 _ ?side1 ?side2 A7.out).mono ?_); (case side1 => repeat (first | exact HR0.out | (with_reducible refine jN ?_ _) | (with_reducible refine jM ?_ _) | (with_reducible refine jT ?_))); (case side2 => exact HC0.out); rintro e w13 ⟨v114, rfl, ho0, hb⟩; refine ⟨_, rfl, ?_⟩; have n0_ := jA (jc ho0 (jP (zb0 HB))); have n1_ := jA (jH (zb0 HB) hb); clear HB; have HO115 := n0_; have HB := n1_; clear n0_ n1_; (try clear hb); (try clear hb2); (try clear hk); (try clear hi); (try clear ho0); obtain ⟨Ao14, co14, eo14⟩ := Kd.R_slice HO115.out; subst eo14; have p116 : 0 ≤ ((ji9) : Int) := jI za; have q116 : (ji9) < (t113.length : Int) := jI za; obtain ⟨ad116, e116, hx116_0, hx116_1, hx116_2⟩ := at_T36 (jD HO115.out).2.2 (ji9) p116 q116; cases e116; replace p116 := eq_true p116; replace q116 := eq_true q116))
       go_ret
       exact ⟨by first | rfl | (simp [errW_none, errW_some] <;> rfl) | (simp only [← hji4, ← hji9, ← hji12]; first | rfl | (simp [errW_none, errW_some] <;> rfl)) | (simp [*, errW_none, errW_some] <;> rfl), zb0 HB⟩
      ·rw [if_neg c11] at H
       exact absurd H (by simp)
     ·rw [if_neg c10] at H
      exact absurd H (by simp)
    ·rw [if_neg c8] at H
     have c8b0 : decide (0 < (t113.length : Int)) = false := jg c8
     have c8b1 : decide (0 < t113.length) = false := jg (by omega)
     clear c8
     obtain rfl := je H
     have p112 : 0 ≤ ((ji4) : Int) := jI za
     have q112 : (ji4) < (l0.length : Int) := jI za
     obtain ⟨ad112, e112, hx112_0, hx112_1, hx112_2⟩ := at_T36 HR0.out (ji4) p112 q112
     cases e112
     replace p112 := eq_true p112
     replace q112 := eq_true q112
     go_enter Try.func54, Try.ntmps54
     go_wp2_with (first | ((with_reducible refine jU (f := 57) rfl ?_); refine goesL_ (some 19) rfl rfl Try.func57 zr rfl #[.slice (some ad112) l0.length c0, .int .i64 a1] rfl zm ?_; (with_reducible refine (impl_triesOf.calls k _ _ l0 a1 t113 _ ?side1 ?side2 A7.out).mono ?_); (case side1 => repeat (first | exact HR0.out | (with_reducible refine jN ?_ _) | (with_reducible refine jM ?_ _) | (with_reducible refine jT ?_))); (case side2 => exact HC0.out); rintro e w15 ⟨v114, rfl, ho0, hb⟩; refine ⟨_, rfl, ?_⟩; have n0_ := jA (jc ho0 (jP (zb0 HB))); have n1_ := jA (jH (zb0 HB) hb); clear HB; have HO115 := n0_; have HB := n1_; clear n0_ n1_; (try clear hb); (try clear hb2); (try clear hk); (try clear hi); (try clear ho0); obtain ⟨Ao16, co16, eo16⟩ := Kd.R_slice HO115.out; subst eo16))
     go_ret
     exact ⟨by first | rfl | (simp [errW_none, errW_some] <;> rfl) | (simp only [← hji4]; first | rfl | (simp [errW_none, errW_some] <;> rfl)) | (simp [*, errW_none, errW_some] <;> rfl), zb0 HB⟩
   ·rw [if_neg c6] at H
    exact absurd H (by simp)
  ·rw [if_neg c5] at H
   exact absurd H (by simp)
 ·rw [if_neg c3] at H
  have c3b0 : decide (0 < (l0.length : Int)) = false := jg c3
  have c3b1 : decide (0 < l0.length) = false := jg (by omega)
  clear c3
  replace H := jG.mp H
  obtain ⟨t117, A170, H⟩ := H
  replace H : (if (t117.length : Int) > 0 then (if 0 ≤ (wrap64 ((t117.length : Int) - 1)) then (if (wrap64 ((t117.length : Int) - 1)) < (t117.length : Int) then (some (mx 0 (wrap64 (((rd_T36 t117 (wrap64 ((t117.length : Int) - 1))).f1) + 50)))) else (none)) else (none)) else (some 0)) = some r := H
  have A17 := jA A170
  clear A170
  by_cases c18 : (t117.length : Int) > 0
  ·rw [if_pos c18] at H
   have c18b0 : decide (0 < (t117.length : Int)) = true := jZ c18
   have c18b1 : decide (0 < t117.length) = true := jZ (by omega)
   clear c18
   obtain ⟨ji19, hji19⟩ : ∃ j_ : Int, (wrap64 ((t117.length : Int) - 1)) = j_ := ⟨_, rfl⟩
   replace H : (if 0 ≤ (ji19) then (if (ji19) < (t117.length : Int) then (some (mx 0 (wrap64 (((rd_T36 t117 (ji19)).f1) + 50)))) else (none)) else (none)) = some r := by first | (rw [hji19] at H; exact H) | (simp only [hji19] at H ⊢; exact H)
   (try rw [hji19] at A17)
   have hji19w : (IntKind.i64.wrap ((t117.length : Int) - 1)) = ji19 := (i64_w _).trans hji19
   by_cases c20 : 0 ≤ (ji19)
   ·rw [if_pos c20] at H
    have c20b0 : decide (0 ≤ (ji19)) = true := jZ c20
    clear c20
    by_cases c21 : (ji19) < (t117.length : Int)
    ·rw [if_pos c21] at H
     have c21b0 : decide ((ji19) < (t117.length : Int)) = true := jZ c21
     clear c21
     obtain ⟨ji22, hji22⟩ : ∃ j_ : Int, (mx 0 (wrap64 (((rd_T36 t117 (ji19)).f1) + 50))) = j_ := ⟨_, rfl⟩
     replace H : (some ji22) = some r := by first | (rw [hji22] at H; exact H) | (simp only [hji22] at H ⊢; exact H)
     (try rw [hji22] at A17)
     have hji22_ : (if 0 < (wrap64 (((rd_T36 t117 (ji19)).f1) + 50)) then (wrap64 (((rd_T36 t117 (ji19)).f1) + 50)) else 0) = ji22 := hji22
     obtain rfl := je H
     go_enter Try.func54, Try.ntmps54
     go_wp2_with (first | ((with_reducible refine jU (f := 57) rfl ?_); refine goesL_ (some 19) rfl rfl Try.func57 zr rfl #[.slice A0 l0.length c0, .int .i64 a1] rfl zm ?_; (with_reducible refine (impl_triesOf.calls k _ _ l0 a1 t117 _ ?side1 ?side2 A17.out).mono ?_); (case side1 => repeat (first | exact HR0.out | (with_reducible refine jN ?_ _) | (with_reducible refine jM ?_ _) | (with_reducible refine jT ?_))); (case side2 => exact HC0.out); rintro e w23 ⟨v118, rfl, ho0, hb⟩; refine ⟨_, rfl, ?_⟩; have n0_ := jA (jc ho0 (jP (zb0 HB))); have n1_ := jA (jH (zb0 HB) hb); clear HB; have HO119 := n0_; have HB := n1_; clear n0_ n1_; (try clear hb); (try clear hb2); (try clear hk); (try clear hi); (try clear ho0); obtain ⟨Ao24, co24, eo24⟩ := Kd.R_slice HO119.out; subst eo24; have p120 : 0 ≤ ((ji19) : Int) := jI za; have q120 : (ji19) < (t117.length : Int) := jI za; obtain ⟨ad120, e120, hx120_0, hx120_1, hx120_2⟩ := at_T36 (jD HO119.out).2.2 (ji19) p120 q120; cases e120; replace p120 := eq_true p120; replace q120 := eq_true q120))
     go_ret
     exact ⟨by first | rfl | (simp [errW_none, errW_some] <;> rfl) | (simp only [← hji19, ← hji22]; first | rfl | (simp [errW_none, errW_some] <;> rfl)) | (simp [*, errW_none, errW_some] <;> rfl), zb0 HB⟩
    ·rw [if_neg c21] at H
     exact absurd H (by simp)
   ·rw [if_neg c20] at H
    exact absurd H (by simp)
  ·rw [if_neg c18] at H
   have c18b0 : decide (0 < (t117.length : Int)) = false := jg c18
   have c18b1 : decide (0 < t117.length) = false := jg (by omega)
   clear c18
   obtain rfl := je H
   go_enter Try.func54, Try.ntmps54
   go_wp2_with (first | ((with_reducible refine jU (f := 57) rfl ?_); refine goesL_ (some 19) rfl rfl Try.func57 zr rfl #[.slice A0 l0.length c0, .int .i64 a1] rfl zm ?_; (with_reducible refine (impl_triesOf.calls k _ _ l0 a1 t117 _ ?side1 ?side2 A17.out).mono ?_); (case side1 => repeat (first | exact HR0.out | (with_reducible refine jN ?_ _) | (with_reducible refine jM ?_ _) | (with_reducible refine jT ?_))); (case side2 => exact HC0.out); rintro e w25 ⟨v118, rfl, ho0, hb⟩; refine ⟨_, rfl, ?_⟩; have n0_ := jA (jc ho0 (jP (zb0 HB))); have n1_ := jA (jH (zb0 HB) hb); clear HB; have HO119 := n0_; have HB := n1_; clear n0_ n1_; (try clear hb); (try clear hb2); (try clear hk); (try clear hi); (try clear ho0); obtain ⟨Ao26, co26, eo26⟩ := Kd.R_slice HO119.out; subst eo26))
   go_ret
   exact ⟨by first | rfl | (simp [errW_none, errW_some] <;> rfl) | (simp [*, errW_none, errW_some] <;> rfl), zb0 HB⟩

end Go.Proofs.Ythnpffomoaeeoaa.PFnTries
