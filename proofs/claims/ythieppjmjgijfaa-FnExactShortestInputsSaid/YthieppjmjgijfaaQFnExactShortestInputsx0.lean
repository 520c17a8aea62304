/- Functions and contracts that FnExactShortestInputs reaches (1 of 12). -/
import Derived.Test.YthieppjmjgijfaaProg
import Derived.Below
import Derived.Deep.Draws
import Derived.Deep.AppendLies
import Derived.Maps.AppendAt
import Derived.OwnWalk
import Derived.Laws.BytesArg
import Derived.Laws.MakeOwn
import Derived.Laws.OwnMore
import Derived.Deep.OwnRows
import Derived.Tactics
import Derived.Lib.ConvBytes
import Derived.Laws.Slices
import Derived.WalkKit
import Derived.KernelRfl
import Derived.RowKit3
import Derived.Deep.LoopGhost
import Derived.Deep.QuietTactic
import Derived.BigQuiet
import Derived.WideLaws
import Derived.Deep.DeepCutAuto
import Derived.Deep.CutBlock
import Derived.Deep.RegionHeld3
import Derived.Laws.Rows
import Derived.Lib.AppendStr
import Derived.ArgAppend
import Derived.Laws.IdiomCopy
import Derived.OrdersHeld
import Derived.Laws.BitsLemmas
import Derived.RowKit
import Derived.Test.YthieppjmjgijfaaVFnExactShortestInputsWords
import Derived.Test.YthieppjmjgijfaaVFnExactShortestInputsLast
import Derived.Test.YthieppjmjgijfaaVFnExactShortestInputsTab
import Derived.Test.YthieppjmjgijfaaVFnExactShortestInputsFour
import Derived.Test.YthieppjmjgijfaaVFnExactShortestInputsQPut
import Derived.Test.YthieppjmjgijfaaVFnExactShortestInputsApart
import Derived.Test.YthieppjmjgijfaaVFnExactShortestInputsArr
import Derived.Test.YthieppjmjgijfaaVFnExactShortestInputsZeros
import Derived.Test.YthieppjmjgijfaaVFnExactShortestInputsFoot
import Derived.Test.YthieppjmjgijfaaVFnExactShortestInputsKept
import Derived.Test.YthieppjmjgijfaaVFnExactShortestInputsShare
import Derived.Test.YthieppjmjgijfaaVFnExactShortestInputsN
import Derived.Test.YthieppjmjgijfaaVFnExactShortestInputsFootNe
import Derived.Test.YthieppjmjgijfaaVFnExactShortestInputsAt
import Derived.Test.YthieppjmjgijfaaVFnExactShortestInputsEqStruct
import Derived.Test.YthieppjmjgijfaaVFnExactShortestInputsRepsOne
import Derived.Test.YthieppjmjgijfaaVFnExactShortestInputsInv
import Derived.Test.YthieppjmjgijfaaVFnExactShortestInputsInvWords
import Derived.Test.YthieppjmjgijfaaVFnExactShortestInputsGuard
import Derived.Test.YthieppjmjgijfaaVFnExactShortestInputsNEv
import Derived.Test.YthieppjmjgijfaaVFnExactShortestInputsMore
import Derived.Test.YthieppjmjgijfaaVFnExactShortestInputsXWords
namespace Go.Proofs.Ythieppjmjgijfaa.PFnExactShortestInputs
open Go.RowKit Go.Proofs.YthieppjmjgijfaaW.PrintWords Go.Proofs.YthieppjmjgijfaaW.PrintLast Go.Proofs.YthieppjmjgijfaaW.PrintMore
attribute [local go_sem] max2_int min2_int max_two min_two max_three min_three max_four min_four   -- for this text's walks alone
set_option linter.unusedVariables false
set_option linter.unusedSimpArgs false
def m13_0 : Array Bool := #[false, false, false, false, false, false, false, false, false, false, false, false, false]
def m13_1000 : Array Bool := #[true, false, false, false, false, false, false, false, false, false, false, false, false]
def m13_1400 : Array Bool := #[true, false, true, false, false, false, false, false, false, false, false, false, false]
def m13_1600 : Array Bool := #[true, false, true, true, false, false, false, false, false, false, false, false, false]
def m13_1700 : Array Bool := #[true, false, true, true, true, false, false, false, false, false, false, false, false]
def m13_1780 : Array Bool := #[true, false, true, true, true, true, false, false, false, false, false, false, false]
def m13_1784 : Array Bool := #[true, false, true, true, true, true, false, false, false, false, true, false, false]
def m4_e : Array Bool := #[true, true, true, false]
def m13_1f80 : Array Bool := #[true, true, true, true, true, true, false, false, false, false, false, false, false]
def m13_1f84 : Array Bool := #[true, true, true, true, true, true, false, false, false, false, true, false, false]
def m13_1fc0 : Array Bool := #[true, true, true, true, true, true, true, false, false, false, false, false, false]
def m13_1fc4 : Array Bool := #[true, true, true, true, true, true, true, false, false, false, true, false, false]
def m13_1fe0 : Array Bool := #[true, true, true, true, true, true, true, true, false, false, false, false, false]
def m13_1fe4 : Array Bool := #[true, true, true, true, true, true, true, true, false, false, true, false, false]
def m13_1ff0 : Array Bool := #[true, true, true, true, true, true, true, true, true, false, false, false, false]
def m13_1ff4 : Array Bool := #[true, true, true, true, true, true, true, true, true, false, true, false, false]
def m13_1ff8 : Array Bool := #[true, true, true, true, true, true, true, true, true, true, false, false, false]
def m15_7ff0 : Array Bool := #[true, true, true, true, true, true, true, true, true, true, true, false, false, false, false]
def m13_1ffc : Array Bool := #[true, true, true, true, true, true, true, true, true, true, true, false, false]
def m13_1ffe : Array Bool := #[true, true, true, true, true, true, true, true, true, true, true, true, false]
def m13_1fff : Array Bool := #[true, true, true, true, true, true, true, true, true, true, true, true, true]
theorem jA : type_of% @Aside0.mk := @Aside0.mk
theorem jB : type_of% @blk_frozen := @blk_frozen
theorem jC : type_of% @blk_cell := @blk_cell
theorem jD : type_of% @blk_drewN := @blk_drewN
theorem jE : type_of% @blk_alloc := @blk_alloc
theorem jF : type_of% @blk_drew := @blk_drew
theorem jG : type_of% @below_size := @below_size
theorem jH : type_of% @of_decide_eq_true := @of_decide_eq_true
theorem jI : type_of% @blk_put := @blk_put
theorem jJ : type_of% @below_step := @below_step
theorem jK : type_of% @World.block_lt_of_cell? := @World.block_lt_of_cell?
theorem jL : type_of% @List.setIfInBounds_toArray.{0} := @List.setIfInBounds_toArray.{0}
theorem jM : type_of% @Nat.ne_of_lt := @Nat.ne_of_lt
theorem jN : type_of% @box_event := @box_event
theorem jO : type_of% @gate_dst := @gate_dst
theorem jP : type_of% @blk_below := @blk_below
theorem jQ : type_of% @Option.bind_eq_some_iff.{0, 0} := @Option.bind_eq_some_iff.{0, 0}
theorem jR : type_of% @decide_eq_true := @decide_eq_true
theorem jS : type_of% @Option.some.injEq.{0} := @Option.some.injEq.{0}
theorem jT : type_of% @Option.some.inj.{0} := @Option.some.inj.{0}
theorem jU : type_of% @Nat.lt_of_lt_of_le := @Nat.lt_of_lt_of_le
theorem jV : type_of% @List.set_cons_zero.{0} := @List.set_cons_zero.{0}
theorem jW : type_of% @List.set_cons_succ.{0} := @List.set_cons_succ.{0}
theorem jX : type_of% @blk_far := @blk_far
theorem jY : type_of% @Prod.mk.injEq.{0, 0} := @Prod.mk.injEq.{0, 0}
theorem jZ : type_of% @Kd.R_drewN := @Kd.R_drewN
theorem ja : type_of% @Kd.R_alloc := @Kd.R_alloc
theorem jb : type_of% @add_block := @add_block
theorem jc : type_of% @Kd.R_drew := @Kd.R_drew
theorem jd : type_of% @gate_callee := @gate_callee
theorem je : type_of% @bodyPost_ret := @bodyPost_ret
theorem za {p : Prop} (h : p := by first | (with_reducible assumption) | assumption) : p := h
theorem zb0 {p q : Prop} (H : Aside0 q) (h : q → p := by intro h_; repeat (first | (with_reducible first | exact h_ | apply below_alloc | apply pw_below_drewN | apply below_drew1) | exact h_)) : p := h H.out
theorem zb1 {p q r0 : Prop} (H : Aside0 q) (G0 : Aside0 r0) (h : q → r0 → p := by intro h_ g0_; repeat (first | (with_reducible first | exact h_ | apply below_alloc | apply pw_below_drewN | apply below_drew1 | refine below_set ?_ g0_) | exact h_)) : p := h H.out G0.out
theorem zb2 {p q r0 r1 : Prop} (H : Aside0 q) (G0 : Aside0 r0) (G1 : Aside0 r1) (h : q → r0 → r1 → p := by intro h_ g0_ g1_; repeat (first | (with_reducible first | exact h_ | apply below_alloc | apply pw_below_drewN | apply below_drew1 | refine below_set ?_ g0_ | refine below_set ?_ g1_) | exact h_)) : p := h H.out G0.out G1.out
theorem zb3 {p q r0 r1 r2 : Prop} (H : Aside0 q) (G0 : Aside0 r0) (G1 : Aside0 r1) (G2 : Aside0 r2) (h : q → r0 → r1 → r2 → p := by intro h_ g0_ g1_ g2_; repeat (first | (with_reducible first | exact h_ | apply below_alloc | apply pw_below_drewN | apply below_drew1 | refine below_set ?_ g0_ | refine below_set ?_ g1_ | refine below_set ?_ g2_) | exact h_)) : p := h H.out G0.out G1.out G2.out
theorem zk {p q : Prop} (H : Aside0 q) (h : q → p := by intro h_; (with_reducible repeat (first | refine blk_drewN ?_ _ | refine blk_drew ?_ | refine blk_alloc ?_ _)); exact h_) : p := h H.out
theorem zm {p : Prop} (h : p := by (try simp only [List.map_toArray, List.map_cons, List.map_nil]); first | done | rfl | (simp only [List.length_drop, List.length_take]; rfl)) : p := h
theorem zo {p q : Prop} (H : Aside0 q) (h : q → p := by intro h_; (with_reducible repeat (first | apply Kd.R_alloc | apply Kd.R_drewN | apply Kd.R_drew)); exact h_) : p := h H.out
theorem zp {P : Program} {ops : Array Oper} {Q : Exit → Act → World → Prop} {md : Region.Mode} {S : World → Prop} {ds : List Nat} {T : Bool × List (List Nat × List Nat)} {oi : Oper} {v : Value} {fuel : Nat} {l : Array Bool} {a a' : Act} {w : World} (HT : Aside0 (rtab md ops = T)) (i : Nat) (N : Tmp) (l' : Array Bool) (h : wpAnyLast P md ops Q S ds fuel l' a' w) (hi : ops[i]? = some oi := by rfl) (hN : oi.dst = some N := by rfl) (hc : anyT T l.toList l'.toList i = true := by kernel_rfl) (hQ : ∀ c a w, Q (.panic c) (a.put oi.dst v) w → Q (.panic c) a w := by exact fun _ _ _ h => h) (hy : Yields P ops oi v a := by exact Or.inl ⟨by rfl, by intro w'; go_simp; with_reducible rfl⟩) (ha : a.put (some N) v = a' := by simp only [Act.put, List.setIfInBounds_toArray, List.set_cons_zero, List.set_cons_succ, i64_w, i32_w]; rfl) : wpAnyLast P md ops Q S ds (fuel + 1) l a w := pure_ l' hi hN (any_of HT.out hc) hQ hy ha h
theorem zr {p : Prop} (h : p := by kernel_rfl) : p := h
theorem zs {p q r : Prop} (H : Aside0 q) (B : Aside0 r) (h : q → r → p := by intro h_ b_; repeat (first | exact h_ | exact (Kd.C_below h_ b_) | (with_reducible refine Kd.C_alloc ?_ _) | (with_reducible refine Kd.C_drewN ?_ _) | (with_reducible refine Kd.C_drew ?_))) : p := h H.out B.out
theorem zt2 {P : Program} {ops : Array Oper} {Q : Exit → Act → World → Prop} {md : Region.Mode} {S : World → Prop} {ds : List Nat} {T : Bool × List (List Nat × List Nat)} {oi : Oper} {v : Value} {fuel : Nat} {l : Array Bool} {a a' : Act} {w : World} {B : List Nat} (HT : Aside0 (rtab md ops = T)) (HW : Aside0 (waitsOk T.2 B = true)) (hS : S w) (i : Nat) (N : Tmp) (l' : Array Bool) (h : wpAnyLast P md ops Q S ds fuel l' a' w) (hi : ops[i]? = some oi := by rfl) (hN : oi.dst = some N := by rfl) (hc : takeW T B ds l.toList l'.toList i = true := by kernel_rfl) (hQ : ∀ c a w, Q (.panic c) (a.put oi.dst v) w → Q (.panic c) a w := by exact fun _ _ _ h => h) (hy : YieldsIf P ops S oi v a := by exact Or.inl ⟨by rfl, by rintro w' ⟨s0, s1⟩; go_simp; with_reducible rfl⟩) (ha : a.put (some N) v = a' := by simp only [Act.put, List.setIfInBounds_toArray, List.set_cons_zero, List.set_cons_succ, i64_w, i32_w]; rfl) : wpAnyLast P md ops Q S ds (fuel + 1) l a w := take_ l' hi hN (take_ofW HT.out HW.out hc) hQ hy hS ha h
theorem zz {p : Prop} (h : p := by first | rfl | (simp; done) | (simp [*]; done)) : p := h
open Go.Proofs.YthieppjmjgijfaaX



def errW : Option Int → Value
 | none => .nilIface
 | some c => .iface 0 (.int .i64 c)
theorem errW_none : errW none = .nilIface := rfl
theorem errW_some (c : Int) : errW (some c) = .iface 0 (.int .i64 c) := rfl

theorem info2 : (Try.prog.info? 2).map (fun i => (i.zero, i.size, i.bytes)) = some (some (.int .i64 0), 1, 8) := by kernel_rfl
theorem info4 : (Try.prog.info? 4).map (fun i => (i.zero, i.size, i.bytes)) = some (some (.bool false), 1, 1) := by kernel_rfl
theorem info35 : (Try.prog.info? 35).map (fun i => (i.zero, i.size, i.bytes)) = some (some (.slice none 0 0), 1, 24) := by kernel_rfl
-- the values' own types
def rd_L1 (xs : List (List Int)) (i : Int) : (List Int) := xs.getD i.toNat ([] : List Int)
theorem at_L1 {w : World} {A : Option Addr} {n : Nat} {xs : List (List Int)} (h : Kd.C (Kd.slice 2 (Kd.int .i64)) w A n xs) (i : Int) (h0 : 0 ≤ i) (h1 : i < n) : ∃ ad A0 c0, A = some ad ∧ w.cell? (ad.add i.toNat) = some (.slice A0 (rd_L1 xs i).length c0) ∧ (rd_L1 xs i).length ≤ c0 ∧ (Kd.int .i64).C w A0 (rd_L1 xs i).length (rd_L1 xs i) := by
 obtain ⟨ad, c, e, _, hK, hc0⟩ := Kd.C_get h ([] : List Int) i h0 h1
 have hc : ∀ j u, c[j]? = some u → w.cell? (ad.add (i.toNat * 1 + j)) = some u := hc0
 obtain ⟨A0, c0, rfl, l0, g0⟩ := hK
 exact ⟨ad, A0, c0, e, by have hq := hc 0 _ rfl; rwa [Nat.mul_one, Nat.add_zero] at hq, l0, g0⟩











/-! ### laws_toController: function 17 -/
def laws_toController.f (a0_0 : Bool) (a0_1 : Bool) (a0_2 : Bool) (a0_3 : Bool) (a0_4 : Bool) (a0_5 : Int) : Option (Bool × Bool × Bool × Bool × Bool × Int) := some (a0_0, a0_1, a0_2, a0_3, a0_4, a0_5)
set_option maxHeartbeats 8000000 in
set_option maxRecDepth 100000 in
theorem laws_toController.calls (a0_0 : Bool) (a0_1 : Bool) (a0_2 : Bool) (a0_3 : Bool) (a0_4 : Bool) (a0_5 : Int) (r1 : Bool) (r2 : Bool) (r3 : Bool) (r4 : Bool) (r5 : Bool) (r6 : Int) (w : World) (h : laws_toController.f a0_0 a0_1 a0_2 a0_3 a0_4 a0_5 = some (r1, r2, r3, r4, r5, r6)) :
  Calls Try.prog 17 #[.agg #[.bool a0_0, .bool a0_1, .bool a0_2, .bool a0_3, .bool a0_4, .int .i64 a0_5]] w fun e w' => e = .returned (.agg #[.bool r1, .bool r2, .bool r3, .bool r4, .bool r5, .int .i64 r6]) ∧ Below w.heap.size w w' := by
 have hu28 := Try.underlying28
 have hu23 := Try.underlying23
 have HB := jA (Below.refl w.heap.size w)
 have H : (some (a0_0, a0_1, a0_2, a0_3, a0_4, a0_5)) = some (r1, r2, r3, r4, r5, r6) := h
 clear h
 simp only [jS, jY] at H
 obtain ⟨rfl, rfl, rfl, rfl, rfl, rfl⟩ := H
 go_enter Try.func17, Try.ntmps17
 go_wp2_with (first | ((with_reducible refine jO (N := 1) rfl ?_); refine jN ?hg (N := 1) ?hd (cs := #[.bool a0_0, .bool a0_1, .bool a0_2, .bool a0_3, .bool a0_4, .int .i64 a0_5]) (t := 28) ?hr ?_; (case hd => rfl); (case hg => rfl); (case hr => first | (go_simp; done) | (go_simp; rfl)); intro gb101 hg w2 hbox hb; have n0_ := jA (jJ (zb0 HB) hb); have n1_ := jA (hbox); have n2_ := jA ((by rw [hg]; exact (jG (zb0 HB)) : w.heap.size ≤ gb101)); have n3_ := jA ((by rw [hg]; exact (jG (zb0 HB)) : w.heap.size ≤ gb101)); clear HB; have HB := n0_; have BK101 := n1_; have GW101 := n2_; have GE101 := n3_; clear n0_ n1_ n2_ n3_; clear hb hbox hg) | ((with_reducible refine jO (N := 2) rfl ?_); refine jN ?hg (N := 2) ?hd (cs := #[.bool false, .bool false, .bool false, .bool false, .bool false, .int .i64 0]) (t := 23) ?hr ?_; (case hd => rfl); (case hg => rfl); (case hr => first | (go_simp; done) | (go_simp; rfl)); intro gb102 hg w3 hbox hb; have n0_ := jA (jP (g := gb101) (o := .cells #[.bool a0_0, .bool a0_1, .bool a0_2, .bool a0_3, .bool a0_4, .int .i64 a0_5] 28 (0, 0)) (zk BK101) hb); have n1_ := jA (jJ (zb1 HB GE101) hb); have n2_ := jA (hbox); have n3_ := jA ((by rw [hg]; exact (jG (zb1 HB GE101)) : w.heap.size ≤ gb102)); have n4_ := jA ((by rw [hg]; exact (jG (zb1 HB GE101)) : w.heap.size ≤ gb102)); have n5_ := jA ((by rw [hg]; exact jM (blk_lt (g := gb101) (o := .cells #[.bool a0_0, .bool a0_1, .bool a0_2, .bool a0_3, .bool a0_4, .int .i64 a0_5] 28 (0, 0)) (zk BK101)) : gb101 ≠ gb102)); have n6_ := jA n5_.out.symm; clear BK101; clear HB; have BK101 := n0_; have HB := n1_; have BK102 := n2_; have GW102 := n3_; have GE102 := n4_; have NB101_102 := n5_; have NB102_101 := n6_; clear n0_ n1_ n2_ n3_ n4_ n5_ n6_; clear hb hbox hg) | ((with_reducible refine jO (N := 3) rfl ?_); refine jN ?hg (N := 3) ?hd (cs := #[.bool false, .bool false, .bool false, .bool false, .bool false, .int .i64 0]) (t := 23) ?hr ?_; (case hd => rfl); (case hg => rfl); (case hr => first | (go_simp; done) | (go_simp; rfl)); intro gb103 hg w4 hbox hb; have n0_ := jA (jP (g := gb101) (o := .cells #[.bool a0_0, .bool a0_1, .bool a0_2, .bool a0_3, .bool a0_4, .int .i64 a0_5] 28 (0, 0)) (zk BK101) hb); have n1_ := jA (jP (g := gb102) (o := .cells #[.bool false, .bool false, .bool false, .bool false, .bool false, .int .i64 0] 23 (0, 0)) (zk BK102) hb); have n2_ := jA (jJ (zb2 HB GE101 GE102) hb); have n3_ := jA (hbox); have n4_ := jA ((by rw [hg]; exact (jG (zb2 HB GE101 GE102)) : w.heap.size ≤ gb103)); have n5_ := jA ((by rw [hg]; exact (jG (zb2 HB GE101 GE102)) : w.heap.size ≤ gb103)); have n6_ := jA ((by rw [hg]; exact jM (blk_lt (g := gb101) (o := .cells #[.bool a0_0, .bool a0_1, .bool a0_2, .bool a0_3, .bool a0_4, .int .i64 a0_5] 28 (0, 0)) (zk BK101)) : gb101 ≠ gb103)); have n7_ := jA n6_.out.symm; have n8_ := jA ((by rw [hg]; exact jM (blk_lt (g := gb102) (o := .cells #[.bool false, .bool false, .bool false, .bool false, .bool false, .int .i64 0] 23 (0, 0)) (zk BK102)) : gb102 ≠ gb103)); have n9_ := jA n8_.out.symm; clear BK101; clear BK102; clear HB; have BK101 := n0_; have BK102 := n1_; have HB := n2_; have BK103 := n3_; have GW103 := n4_; have GE103 := n5_; have NB101_103 := n6_; have NB103_101 := n7_; have NB102_103 := n8_; have NB103_102 := n9_; clear n0_ n1_ n2_ n3_ n4_ n5_ n6_ n7_ n8_ n9_; clear hb hbox hg; have hnb5 := NB101_102.out; have hnc5 := NB102_101.out; have hnb6 := NB101_103.out; have hnc6 := NB103_101.out; have hcz7_0 : w4.cell? ⟨gb101, 0, none⟩ = some (.bool a0_0) := (jC BK101.out 0).trans rfl; have hcz7_1 : w4.cell? ⟨gb101, 1, none⟩ = some (.bool a0_1) := (jC BK101.out 1).trans rfl; have hcz7_2 : w4.cell? ⟨gb101, 2, none⟩ = some (.bool a0_2) := (jC BK101.out 2).trans rfl; have hcz7_3 : w4.cell? ⟨gb101, 3, none⟩ = some (.bool a0_3) := (jC BK101.out 3).trans rfl; have hcz7_4 : w4.cell? ⟨gb101, 4, none⟩ = some (.bool a0_4) := (jC BK101.out 4).trans rfl; have hcz7_5 : w4.cell? ⟨gb101, 5, none⟩ = some (.int .i64 a0_5) := (jC BK101.out 5).trans rfl; have hfz7_0 := jB BK101.out 0; have hfz7_1 := jB BK101.out 1; have hfz7_2 := jB BK101.out 2; have hfz7_3 := jB BK101.out 3; have hfz7_4 := jB BK101.out 4; have hfz7_5 := jB BK101.out 5; have hnb8 := NB103_102.out; have hnc8 := NB102_103.out; have hcz9_0 : w4.cell? ⟨gb103, 0, none⟩ = some (.bool false) := (jC BK103.out 0).trans rfl; have hcz9_1 : w4.cell? ⟨gb103, 1, none⟩ = some (.bool false) := (jC BK103.out 1).trans rfl; have hcz9_2 : w4.cell? ⟨gb103, 2, none⟩ = some (.bool false) := (jC BK103.out 2).trans rfl; have hcz9_3 : w4.cell? ⟨gb103, 3, none⟩ = some (.bool false) := (jC BK103.out 3).trans rfl; have hcz9_4 : w4.cell? ⟨gb103, 4, none⟩ = some (.bool false) := (jC BK103.out 4).trans rfl; have hcz9_5 : w4.cell? ⟨gb103, 5, none⟩ = some (.int .i64 0) := (jC BK103.out 5).trans rfl; have hfz9_0 := jB BK103.out 0; have hfz9_1 := jB BK103.out 1; have hfz9_2 := jB BK103.out 2; have hfz9_3 := jB BK103.out 3; have hfz9_4 := jB BK103.out 4; have hfz9_5 := jB BK103.out 5; have hcz10_0 : w4.cell? ⟨gb102, 0, none⟩ = some (.bool false) := (jC BK102.out 0).trans rfl; have hcz10_1 : w4.cell? ⟨gb102, 1, none⟩ = some (.bool false) := (jC BK102.out 1).trans rfl; have hcz10_2 : w4.cell? ⟨gb102, 2, none⟩ = some (.bool false) := (jC BK102.out 2).trans rfl; have hcz10_3 : w4.cell? ⟨gb102, 3, none⟩ = some (.bool false) := (jC BK102.out 3).trans rfl; have hcz10_4 : w4.cell? ⟨gb102, 4, none⟩ = some (.bool false) := (jC BK102.out 4).trans rfl; have hcz10_5 : w4.cell? ⟨gb102, 5, none⟩ = some (.int .i64 0) := (jC BK102.out 5).trans rfl; have hfz10_0 := jB BK102.out 0; have hfz10_1 := jB BK102.out 1; have hfz10_2 := jB BK102.out 2; have hfz10_3 := jB BK102.out 3; have hfz10_4 := jB BK102.out 4; have hfz10_5 := jB BK102.out 5))
 refine je (results_cell_row rfl _ _ gb102 23 #[.bool a0_0, .bool a0_1, .bool a0_2, .bool a0_3, .bool a0_4, .int .i64 a0_5] (0, 0) _ rfl (by (with_reducible repeat (first | refine jD ?_ _ | refine jF ?_ | refine jE ?_ _)); refine jI (cs := #[.bool a0_0, .bool a0_1, .bool a0_2, .bool a0_3, .bool a0_4, .int .i64 0]) ?_ 5 _ rfl; (with_reducible repeat (first | refine jD ?_ _ | refine jF ?_ | refine jE ?_ _)); refine jI (cs := #[.bool a0_0, .bool a0_1, .bool a0_2, .bool a0_3, .bool false, .int .i64 0]) ?_ 4 _ rfl; (with_reducible repeat (first | refine jD ?_ _ | refine jF ?_ | refine jE ?_ _)); refine jI (cs := #[.bool a0_0, .bool a0_1, .bool a0_2, .bool false, .bool false, .int .i64 0]) ?_ 3 _ rfl; (with_reducible repeat (first | refine jD ?_ _ | refine jF ?_ | refine jE ?_ _)); refine jI (cs := #[.bool a0_0, .bool a0_1, .bool false, .bool false, .bool false, .int .i64 0]) ?_ 2 _ rfl; (with_reducible repeat (first | refine jD ?_ _ | refine jF ?_ | refine jE ?_ _)); refine jI (cs := #[.bool a0_0, .bool false, .bool false, .bool false, .bool false, .int .i64 0]) ?_ 1 _ rfl; (with_reducible repeat (first | refine jD ?_ _ | refine jF ?_ | refine jE ?_ _)); refine jI (cs := #[.bool false, .bool false, .bool false, .bool false, .bool false, .int .i64 0]) ?_ 0 _ rfl; (with_reducible repeat (first | refine jD ?_ _ | refine jF ?_ | refine jE ?_ _)); refine jX ?_ NB102_103.out _; (with_reducible repeat (first | refine jD ?_ _ | refine jF ?_ | refine jE ?_ _)); refine jX ?_ NB102_103.out _; (with_reducible repeat (first | refine jD ?_ _ | refine jF ?_ | refine jE ?_ _)); refine jX ?_ NB102_103.out _; (with_reducible repeat (first | refine jD ?_ _ | refine jF ?_ | refine jE ?_ _)); refine jX ?_ NB102_103.out _; (with_reducible repeat (first | refine jD ?_ _ | refine jF ?_ | refine jE ?_ _)); refine jX ?_ NB102_103.out _; (with_reducible repeat (first | refine jD ?_ _ | refine jF ?_ | refine jE ?_ _)); refine jX ?_ NB102_103.out _; (with_reducible repeat (first | refine jD ?_ _ | refine jF ?_ | refine jE ?_ _)); exact BK102.out) Try.underlying23 rfl zr) rfl ?_
 exact ⟨by first | rfl | (simp [errW_none, errW_some] <;> rfl) | (simp [*, errW_none, errW_some] <;> rfl), zb3 HB GE101 GE102 GE103⟩

/-! ### impl_within: function 65 -/
def impl_within.f (a0 : Int) (a1 : Int) (a2 : Int) : Option (Bool) := if a1 ≤ a0 then (some (decide (a0 ≤ a2))) else (some false)
set_option maxHeartbeats 8000000 in
set_option maxRecDepth 100000 in
theorem impl_within.calls (a0 : Int) (a1 : Int) (a2 : Int) (r : Bool) (w : World) (h : impl_within.f a0 a1 a2 = some r) :
  Calls Try.prog 65 #[.int .i64 a0, .int .i64 a1, .int .i64 a2] w fun e w' => e = .returned (.bool r) ∧ Drawn0 w w' := by
 have H : (if a1 ≤ a0 then (some (decide (a0 ≤ a2))) else (some false)) = some r := h
 clear h
 by_cases c4 : a1 ≤ a0
 ·rw [if_pos c4] at H
  have c4b0 : decide (a1 ≤ a0) = true := jR c4
  clear c4
  obtain rfl := jT H
  go_enter Try.func65, Try.ntmps65
  go_wp2
  go_ret
  exact ⟨by first | rfl | (simp; done) | (simp [*]; done), by repeat (first | exact Drawn0.refl _ | apply Drawn0.step)⟩
 ·rw [if_neg c4] at H
  have c4b0 : decide (a1 ≤ a0) = false := decide_eq_false c4
  clear c4
  obtain rfl := jT H
  go_enter Try.func65, Try.ntmps65
  go_wp2
  go_ret
  exact ⟨by first | rfl | (simp; done) | (simp [*]; done), by repeat (first | exact Drawn0.refl _ | apply Drawn0.step)⟩

/-! ### impl_IsSound: function 27 -/
def impl_IsSound.f (a0_0 : Bool) (a0_1 : Bool) (a0_2 : Bool) (a0_3 : Bool) (a0_4 : Bool) (a0_5 : Int) : Option (Bool) := (impl_within.f a0_5 0 4).bind fun t105 => (if t105 = true then (if a0_3 = true then (if a0_2 = true then (if a0_0 = true then (if a0_1 = true then (if a0_4 = true then (some false) else (some (decide (a0_5 ≤ 3)))) else (some false)) else (some false)) else (some false)) else (if a0_2 = true then (if a0_0 = true then (if a0_1 = true then (if a0_4 = true then (some false) else (some (decide (a0_5 ≤ 3)))) else (some false)) else (some false)) else (some true))) else (some false))
set_option maxHeartbeats 8000000 in
set_option maxRecDepth 100000 in
theorem impl_IsSound.calls (a0_0 : Bool) (a0_1 : Bool) (a0_2 : Bool) (a0_3 : Bool) (a0_4 : Bool) (a0_5 : Int) (r : Bool) (w : World) (h : impl_IsSound.f a0_0 a0_1 a0_2 a0_3 a0_4 a0_5 = some r) :
  Calls Try.prog 27 #[.agg #[.bool a0_0, .bool a0_1, .bool a0_2, .bool a0_3, .bool a0_4, .int .i64 a0_5]] w fun e w' => e = .returned (.bool r) ∧ Below w.heap.size w w' := by
 have hu23 := Try.underlying23
 have HB := jA (Below.refl w.heap.size w)
 have H : ((impl_within.f a0_5 0 4).bind fun t105 => (if t105 = true then (if a0_3 = true then (if a0_2 = true then (if a0_0 = true then (if a0_1 = true then (if a0_4 = true then (some false) else (some (decide (a0_5 ≤ 3)))) else (some false)) else (some false)) else (some false)) else (if a0_2 = true then (if a0_0 = true then (if a0_1 = true then (if a0_4 = true then (some false) else (some (decide (a0_5 ≤ 3)))) else (some false)) else (some false)) else (some true))) else (some false))) = some r := h
 clear h
 replace H := jQ.mp H
 obtain ⟨t105, A20, H⟩ := H
 replace H : (if t105 = true then (if a0_3 = true then (if a0_2 = true then (if a0_0 = true then (if a0_1 = true then (if a0_4 = true then (some false) else (some (decide (a0_5 ≤ 3)))) else (some false)) else (some false)) else (some false)) else (if a0_2 = true then (if a0_0 = true then (if a0_1 = true then (if a0_4 = true then (some false) else (some (decide (a0_5 ≤ 3)))) else (some false)) else (some false)) else (some true))) else (some false)) = some r := H
 have A2 := jA A20
 clear A20
 by_cases c3 : t105 = true
 ·subst c3
  have H1 : (if a0_3 = true then (if a0_2 = true then (if a0_0 = true then (if a0_1 = true then (if a0_4 = true then (some false) else (some (decide (a0_5 ≤ 3)))) else (some false)) else (some false)) else (some false)) else (if a0_2 = true then (if a0_0 = true then (if a0_1 = true then (if a0_4 = true then (some false) else (some (decide (a0_5 ≤ 3)))) else (some false)) else (some false)) else (some true))) = some r := by rw [if_pos rfl] at H; exact H
  clear H
  have H := H1
  clear H1
  by_cases c4 : a0_3 = true
  ·subst c4
   have H1 : (if a0_2 = true then (if a0_0 = true then (if a0_1 = true then (if a0_4 = true then (some false) else (some (decide (a0_5 ≤ 3)))) else (some false)) else (some false)) else (some false)) = some r := by rw [if_pos rfl] at H; exact H
   clear H
   have H := H1
   clear H1
   by_cases c5 : a0_2 = true
   ·subst c5
    have H1 : (if a0_0 = true then (if a0_1 = true then (if a0_4 = true then (some false) else (some (decide (a0_5 ≤ 3)))) else (some false)) else (some false)) = some r := by rw [if_pos rfl] at H; exact H
    clear H
    have H := H1
    clear H1
    by_cases c6 : a0_0 = true
    ·subst c6
     have H1 : (if a0_1 = true then (if a0_4 = true then (some false) else (some (decide (a0_5 ≤ 3)))) else (some false)) = some r := by rw [if_pos rfl] at H; exact H
     clear H
     have H := H1
     clear H1
     by_cases c7 : a0_1 = true
     ·subst c7
      have H1 : (if a0_4 = true then (some false) else (some (decide (a0_5 ≤ 3)))) = some r := by rw [if_pos rfl] at H; exact H
      clear H
      have H := H1
      clear H1
      by_cases c8 : a0_4 = true
      ·subst c8
       have H1 : (some false) = some r := by rw [if_pos rfl] at H; exact H
       clear H
       have H := H1
       clear H1
       obtain rfl := jT H
       go_enter Try.func27, Try.ntmps27
       go_wp2_with (first | ((with_reducible refine jO (N := 1) rfl ?_); refine jN ?hg (N := 1) ?hd (cs := #[.bool true, .bool true, .bool true, .bool true, .bool true, .int .i64 a0_5]) (t := 23) ?hr ?_; (case hd => rfl); (case hg => rfl); (case hr => first | (go_simp; done) | (go_simp; rfl)); intro gb104 hg w9 hbox hb; have n0_ := jA (jJ (zb0 HB) hb); have n1_ := jA (hbox); have n2_ := jA ((by rw [hg]; exact (jG (zb0 HB)) : w.heap.size ≤ gb104)); have n3_ := jA ((by rw [hg]; exact (jG (zb0 HB)) : w.heap.size ≤ gb104)); clear HB; have HB := n0_; have BK104 := n1_; have GW104 := n2_; have GE104 := n3_; clear n0_ n1_ n2_ n3_; clear hb hbox hg; have hcz10_0 : w9.cell? ⟨gb104, 0, none⟩ = some (.bool true) := (jC BK104.out 0).trans rfl; have hcz10_1 : w9.cell? ⟨gb104, 1, none⟩ = some (.bool true) := (jC BK104.out 1).trans rfl; have hcz10_2 : w9.cell? ⟨gb104, 2, none⟩ = some (.bool true) := (jC BK104.out 2).trans rfl; have hcz10_3 : w9.cell? ⟨gb104, 3, none⟩ = some (.bool true) := (jC BK104.out 3).trans rfl; have hcz10_4 : w9.cell? ⟨gb104, 4, none⟩ = some (.bool true) := (jC BK104.out 4).trans rfl; have hcz10_5 : w9.cell? ⟨gb104, 5, none⟩ = some (.int .i64 a0_5) := (jC BK104.out 5).trans rfl; have hfz10_0 := jB BK104.out 0; have hfz10_1 := jB BK104.out 1; have hfz10_2 := jB BK104.out 2; have hfz10_3 := jB BK104.out 3; have hfz10_4 := jB BK104.out 4; have hfz10_5 := jB BK104.out 5) | ((with_reducible refine jd (f := 65) rfl ?_); refine goesL_ (some 5) rfl rfl Try.func65 zr rfl #[.int .i64 a0_5, .int .i64 0, .int .i64 4] rfl zm ?_; (with_reducible refine (impl_within.calls a0_5 0 4 true _ A2.out).mono ?_); rintro e w' ⟨rfl, ⟨nd, rfl⟩⟩; refine ⟨_, rfl, ?_⟩))
       go_ret
       exact ⟨by first | rfl | (simp [errW_none, errW_some] <;> rfl) | (simp [*, errW_none, errW_some] <;> rfl), zb1 HB GE104⟩
      ·replace c8 := Bool.eq_false_iff.mpr c8
       subst c8
       have H1 : (some (decide (a0_5 ≤ 3))) = some r := by rw [if_neg (show ¬ (false = true) by decide)] at H; exact H
       clear H
       have H := H1
       clear H1
       obtain rfl := jT H
       go_enter Try.func27, Try.ntmps27
       go_wp2_with (first | ((with_reducible refine jO (N := 1) rfl ?_); refine jN ?hg (N := 1) ?hd (cs := #[.bool true, .bool true, .bool true, .bool true, .bool false, .int .i64 a0_5]) (t := 23) ?hr ?_; (case hd => rfl); (case hg => rfl); (case hr => first | (go_simp; done) | (go_simp; rfl)); intro gb104 hg w11 hbox hb; have n0_ := jA (jJ (zb0 HB) hb); have n1_ := jA (hbox); have n2_ := jA ((by rw [hg]; exact (jG (zb0 HB)) : w.heap.size ≤ gb104)); have n3_ := jA ((by rw [hg]; exact (jG (zb0 HB)) : w.heap.size ≤ gb104)); clear HB; have HB := n0_; have BK104 := n1_; have GW104 := n2_; have GE104 := n3_; clear n0_ n1_ n2_ n3_; clear hb hbox hg; have hcz12_0 : w11.cell? ⟨gb104, 0, none⟩ = some (.bool true) := (jC BK104.out 0).trans rfl; have hcz12_1 : w11.cell? ⟨gb104, 1, none⟩ = some (.bool true) := (jC BK104.out 1).trans rfl; have hcz12_2 : w11.cell? ⟨gb104, 2, none⟩ = some (.bool true) := (jC BK104.out 2).trans rfl; have hcz12_3 : w11.cell? ⟨gb104, 3, none⟩ = some (.bool true) := (jC BK104.out 3).trans rfl; have hcz12_4 : w11.cell? ⟨gb104, 4, none⟩ = some (.bool false) := (jC BK104.out 4).trans rfl; have hcz12_5 : w11.cell? ⟨gb104, 5, none⟩ = some (.int .i64 a0_5) := (jC BK104.out 5).trans rfl; have hfz12_0 := jB BK104.out 0; have hfz12_1 := jB BK104.out 1; have hfz12_2 := jB BK104.out 2; have hfz12_3 := jB BK104.out 3; have hfz12_4 := jB BK104.out 4; have hfz12_5 := jB BK104.out 5) | ((with_reducible refine jd (f := 65) rfl ?_); refine goesL_ (some 5) rfl rfl Try.func65 zr rfl #[.int .i64 a0_5, .int .i64 0, .int .i64 4] rfl zm ?_; (with_reducible refine (impl_within.calls a0_5 0 4 true _ A2.out).mono ?_); rintro e w' ⟨rfl, ⟨nd, rfl⟩⟩; refine ⟨_, rfl, ?_⟩))
       go_ret
       exact ⟨by first | rfl | (simp [errW_none, errW_some] <;> rfl) | (simp [*, errW_none, errW_some] <;> rfl), zb1 HB GE104⟩
     ·replace c7 := Bool.eq_false_iff.mpr c7
      subst c7
      have H1 : (some false) = some r := by rw [if_neg (show ¬ (false = true) by decide)] at H; exact H
      clear H
      have H := H1
      clear H1
      obtain rfl := jT H
      go_enter Try.func27, Try.ntmps27
      go_wp2_with (first | ((with_reducible refine jO (N := 1) rfl ?_); refine jN ?hg (N := 1) ?hd (cs := #[.bool true, .bool false, .bool true, .bool true, .bool a0_4, .int .i64 a0_5]) (t := 23) ?hr ?_; (case hd => rfl); (case hg => rfl); (case hr => first | (go_simp; done) | (go_simp; rfl)); intro gb104 hg w13 hbox hb; have n0_ := jA (jJ (zb0 HB) hb); have n1_ := jA (hbox); have n2_ := jA ((by rw [hg]; exact (jG (zb0 HB)) : w.heap.size ≤ gb104)); have n3_ := jA ((by rw [hg]; exact (jG (zb0 HB)) : w.heap.size ≤ gb104)); clear HB; have HB := n0_; have BK104 := n1_; have GW104 := n2_; have GE104 := n3_; clear n0_ n1_ n2_ n3_; clear hb hbox hg; have hcz14_0 : w13.cell? ⟨gb104, 0, none⟩ = some (.bool true) := (jC BK104.out 0).trans rfl; have hcz14_1 : w13.cell? ⟨gb104, 1, none⟩ = some (.bool false) := (jC BK104.out 1).trans rfl; have hcz14_2 : w13.cell? ⟨gb104, 2, none⟩ = some (.bool true) := (jC BK104.out 2).trans rfl; have hcz14_3 : w13.cell? ⟨gb104, 3, none⟩ = some (.bool true) := (jC BK104.out 3).trans rfl; have hcz14_4 : w13.cell? ⟨gb104, 4, none⟩ = some (.bool a0_4) := (jC BK104.out 4).trans rfl; have hcz14_5 : w13.cell? ⟨gb104, 5, none⟩ = some (.int .i64 a0_5) := (jC BK104.out 5).trans rfl; have hfz14_0 := jB BK104.out 0; have hfz14_1 := jB BK104.out 1; have hfz14_2 := jB BK104.out 2; have hfz14_3 := jB BK104.out 3; have hfz14_4 := jB BK104.out 4; have hfz14_5 := jB BK104.out 5) | ((with_reducible refine jd (f := 65) rfl ?_); refine goesL_ (some 5) rfl rfl Try.func65 zr rfl #[.int .i64 a0_5, .int .i64 0, .int .i64 4] rfl zm ?_; (with_reducible refine (impl_within.calls a0_5 0 4 true _ A2.out).mono ?_); rintro e w' ⟨rfl, ⟨nd, rfl⟩⟩; refine ⟨_, rfl, ?_⟩))
      go_ret
      exact ⟨by first | rfl | (simp [errW_none, errW_some] <;> rfl) | (simp [*, errW_none, errW_some] <;> rfl), zb1 HB GE104⟩
    ·replace c6 := Bool.eq_false_iff.mpr c6
     subst c6
     have H1 : (some false) = some r := by rw [if_neg (show ¬ (false = true) by decide)] at H; exact H
     clear H
     have H := H1
     clear H1
     obtain rfl := jT H
     go_enter Try.func27, Try.ntmps27
     go_wp2_with (first | ((with_reducible refine jO (N := 1) rfl ?_); refine jN ?hg (N := 1) ?hd (cs := #[.bool false, .bool a0_1, .bool true, .bool true, .bool a0_4, .int .i64 a0_5]) (t := 23) ?hr ?_; (case hd => rfl); (case hg => rfl); (case hr => first | (go_simp; done) | (go_simp; rfl)); intro gb104 hg w15 hbox hb; have n0_ := jA (jJ (zb0 HB) hb); have n1_ := jA (hbox); have n2_ := jA ((by rw [hg]; exact (jG (zb0 HB)) : w.heap.size ≤ gb104)); have n3_ := jA ((by rw [hg]; exact (jG (zb0 HB)) : w.heap.size ≤ gb104)); clear HB; have HB := n0_; have BK104 := n1_; have GW104 := n2_; have GE104 := n3_; clear n0_ n1_ n2_ n3_; clear hb hbox hg; have hcz16_0 : w15.cell? ⟨gb104, 0, none⟩ = some (.bool false) := (jC BK104.out 0).trans rfl; have hcz16_1 : w15.cell? ⟨gb104, 1, none⟩ = some (.bool a0_1) := (jC BK104.out 1).trans rfl; have hcz16_2 : w15.cell? ⟨gb104, 2, none⟩ = some (.bool true) := (jC BK104.out 2).trans rfl; have hcz16_3 : w15.cell? ⟨gb104, 3, none⟩ = some (.bool true) := (jC BK104.out 3).trans rfl; have hcz16_4 : w15.cell? ⟨gb104, 4, none⟩ = some (.bool a0_4) := (jC BK104.out 4).trans rfl; have hcz16_5 : w15.cell? ⟨gb104, 5, none⟩ = some (.int .i64 a0_5) := (jC BK104.out 5).trans rfl; have hfz16_0 := jB BK104.out 0; have hfz16_1 := jB BK104.out 1; have hfz16_2 := jB BK104.out 2; have hfz16_3 := jB BK104.out 3; have hfz16_4 := jB BK104.out 4; have hfz16_5 := jB BK104.out 5) | ((with_reducible refine jd (f := 65) rfl ?_); refine goesL_ (some 5) rfl rfl Try.func65 zr rfl #[.int .i64 a0_5, .int .i64 0, .int .i64 4] rfl zm ?_; (with_reducible refine (impl_within.calls a0_5 0 4 true _ A2.out).mono ?_); rintro e w' ⟨rfl, ⟨nd, rfl⟩⟩; refine ⟨_, rfl, ?_⟩))
     go_ret
     exact ⟨by first | rfl | (simp [errW_none, errW_some] <;> rfl) | (simp [*, errW_none, errW_some] <;> rfl), zb1 HB GE104⟩
   ·replace c5 := Bool.eq_false_iff.mpr c5
    subst c5
    have H1 : (some false) = some r := by rw [if_neg (show ¬ (false = true) by decide)] at H; exact H
    clear H
    have H := H1
    clear H1
    obtain rfl := jT H
    go_enter Try.func27, Try.ntmps27
    go_wp2_with (first | ((with_reducible refine jO (N := 1) rfl ?_); refine jN ?hg (N := 1) ?hd (cs := #[.bool a0_0, .bool a0_1, .bool false, .bool true, .bool a0_4, .int .i64 a0_5]) (t := 23) ?hr ?_; (case hd => rfl); (case hg => rfl); (case hr => first | (go_simp; done) | (go_simp; rfl)); intro gb104 hg w17 hbox hb; have n0_ := jA (jJ (zb0 HB) hb); have n1_ := jA (hbox); have n2_ := jA ((by rw [hg]; exact (jG (zb0 HB)) : w.heap.size ≤ gb104)); have n3_ := jA ((by rw [hg]; exact (jG (zb0 HB)) : w.heap.size ≤ gb104)); clear HB; have HB := n0_; have BK104 := n1_; have GW104 := n2_; have GE104 := n3_; clear n0_ n1_ n2_ n3_; clear hb hbox hg; have hcz18_0 : w17.cell? ⟨gb104, 0, none⟩ = some (.bool a0_0) := (jC BK104.out 0).trans rfl; have hcz18_1 : w17.cell? ⟨gb104, 1, none⟩ = some (.bool a0_1) := (jC BK104.out 1).trans rfl; have hcz18_2 : w17.cell? ⟨gb104, 2, none⟩ = some (.bool false) := (jC BK104.out 2).trans rfl; have hcz18_3 : w17.cell? ⟨gb104, 3, none⟩ = some (.bool true) := (jC BK104.out 3).trans rfl; have hcz18_4 : w17.cell? ⟨gb104, 4, none⟩ = some (.bool a0_4) := (jC BK104.out 4).trans rfl; have hcz18_5 : w17.cell? ⟨gb104, 5, none⟩ = some (.int .i64 a0_5) := (jC BK104.out 5).trans rfl; have hfz18_0 := jB BK104.out 0; have hfz18_1 := jB BK104.out 1; have hfz18_2 := jB BK104.out 2; have hfz18_3 := jB BK104.out 3; have hfz18_4 := jB BK104.out 4; have hfz18_5 := jB BK104.out 5) | ((with_reducible refine jd (f := 65) rfl ?_); refine goesL_ (some 5) rfl rfl Try.func65 zr rfl #[.int .i64 a0_5, .int .i64 0, .int .i64 4] rfl zm ?_; (with_reducible refine (impl_within.calls a0_5 0 4 true _ A2.out).mono ?_); rintro e w' ⟨rfl, ⟨nd, rfl⟩⟩; refine ⟨_, rfl, ?_⟩))
    go_ret
    exact ⟨by first | rfl | (simp [errW_none, errW_some] <;> rfl) | (simp [*, errW_none, errW_some] <;> rfl), zb1 HB GE104⟩
  ·replace c4 := Bool.eq_false_iff.mpr c4
   subst c4
   have H1 : (if a0_2 = true then (if a0_0 = true then (if a0_1 = true then (if a0_4 = true then (some false) else (some (decide (a0_5 ≤ 3)))) else (some false)) else (some false)) else (some true)) = some r := by rw [if_neg (show ¬ (false = true) by decide)] at H; exact H
   clear H
   have H := H1
   clear H1
   by_cases c19 : a0_2 = true
   ·subst c19
    have H1 : (if a0_0 = true then (if a0_1 = true then (if a0_4 = true then (some false) else (some (decide (a0_5 ≤ 3)))) else (some false)) else (some false)) = some r := by rw [if_pos rfl] at H; exact H
    clear H
    have H := H1
    clear H1
    by_cases c20 : a0_0 = true
    ·subst c20
     have H1 : (if a0_1 = true then (if a0_4 = true then (some false) else (some (decide (a0_5 ≤ 3)))) else (some false)) = some r := by rw [if_pos rfl] at H; exact H
     clear H
     have H := H1
     clear H1
     by_cases c21 : a0_1 = true
     ·subst c21
      have H1 : (if a0_4 = true then (some false) else (some (decide (a0_5 ≤ 3)))) = some r := by rw [if_pos rfl] at H; exact H
      clear H
      have H := H1
      clear H1
      by_cases c22 : a0_4 = true
      ·subst c22
       have H1 : (some false) = some r := by rw [if_pos rfl] at H; exact H
       clear H
       have H := H1
       clear H1
       obtain rfl := jT H
       go_enter Try.func27, Try.ntmps27
       go_wp2_with (first | ((with_reducible refine jO (N := 1) rfl ?_); refine jN ?hg (N := 1) ?hd (cs := #[.bool true, .bool true, .bool true, .bool false, .bool true, .int .i64 a0_5]) (t := 23) ?hr ?_; (case hd => rfl); (case hg => rfl); (case hr => first | (go_simp; done) | (go_simp; rfl)); intro gb104 hg w23 hbox hb; have n0_ := jA (jJ (zb0 HB) hb); have n1_ := jA (hbox); have n2_ := jA ((by rw [hg]; exact (jG (zb0 HB)) : w.heap.size ≤ gb104)); have n3_ := jA ((by rw [hg]; exact (jG (zb0 HB)) : w.heap.size ≤ gb104)); clear HB; have HB := n0_; have BK104 := n1_; have GW104 := n2_; have GE104 := n3_; clear n0_ n1_ n2_ n3_; clear hb hbox hg; have hcz24_0 : w23.cell? ⟨gb104, 0, none⟩ = some (.bool true) := (jC BK104.out 0).trans rfl; have hcz24_1 : w23.cell? ⟨gb104, 1, none⟩ = some (.bool true) := (jC BK104.out 1).trans rfl; have hcz24_2 : w23.cell? ⟨gb104, 2, none⟩ = some (.bool true) := (jC BK104.out 2).trans rfl; have hcz24_3 : w23.cell? ⟨gb104, 3, none⟩ = some (.bool false) := (jC BK104.out 3).trans rfl; have hcz24_4 : w23.cell? ⟨gb104, 4, none⟩ = some (.bool true) := (jC BK104.out 4).trans rfl; have hcz24_5 : w23.cell? ⟨gb104, 5, none⟩ = some (.int .i64 a0_5) := (jC BK104.out 5).trans rfl; have hfz24_0 := jB BK104.out 0; have hfz24_1 := jB BK104.out 1; have hfz24_2 := jB BK104.out 2; have hfz24_3 := jB BK104.out 3; have hfz24_4 := jB BK104.out 4; have hfz24_5 := jB BK104.out 5) | ((with_reducible refine jd (f := 65) rfl ?_); refine goesL_ (some 5) rfl rfl Try.func65 zr rfl #[.int .i64 a0_5, .int .i64 0, .int .i64 4] rfl zm ?_; (with_reducible refine (impl_within.calls a0_5 0 4 true _ A2.out).mono ?_); rintro e w' ⟨rfl, ⟨nd, rfl⟩⟩; refine ⟨_, rfl, ?_⟩))
       go_ret
       exact ⟨by first | rfl | (simp [errW_none, errW_some] <;> rfl) | (simp [*, errW_none, errW_some] <;> rfl), zb1 HB GE104⟩
      ·replace c22 := Bool.eq_false_iff.mpr c22
       subst c22
       have H1 : (some (decide (a0_5 ≤ 3))) = some r := by rw [if_neg (show ¬ (false = true) by decide)] at H; exact H
       clear H
       have H := H1
       clear H1
       obtain rfl := jT H
       go_enter Try.func27, Try.ntmps27
       go_wp2_with (first | ((with_reducible refine jO (N := 1) rfl ?_); refine jN ?hg (N := 1) ?hd (cs := #[.bool true, .bool true, .bool true, .bool false, .bool false, .int .i64 a0_5]) (t := 23) ?hr ?_; (case hd => rfl); (case hg => rfl); (case hr => first | (go_simp; done) | (go_simp; rfl)); intro gb104 hg w25 hbox hb; have n0_ := jA (jJ (zb0 HB) hb); have n1_ := jA (hbox); have n2_ := jA ((by rw [hg]; exact (jG (zb0 HB)) : w.heap.size ≤ gb104)); have n3_ := jA ((by rw [hg]; exact (jG (zb0 HB)) : w.heap.size ≤ gb104)); clear HB; have HB := n0_; have BK104 := n1_; have GW104 := n2_; have GE104 := n3_; clear n0_ n1_ n2_ n3_; clear hb hbox hg; have hcz26_0 : w25.cell? ⟨gb104, 0, none⟩ = some (.bool true) := (jC BK104.out 0).trans rfl; have hcz26_1 : w25.cell? ⟨gb104, 1, none⟩ = some (.bool true) := (jC BK104.out 1).trans rfl; have hcz26_2 : w25.cell? ⟨gb104, 2, none⟩ = some (.bool true) := (jC BK104.out 2).trans rfl; have hcz26_3 : w25.cell? ⟨gb104, 3, none⟩ = some (.bool false) := (jC BK104.out 3).trans rfl; have hcz26_4 : w25.cell? ⟨gb104, 4, none⟩ = some (.bool false) := (jC BK104.out 4).trans rfl; have hcz26_5 : w25.cell? ⟨gb104, 5, none⟩ = some (.int .i64 a0_5) := (jC BK104.out 5).trans rfl; have hfz26_0 := jB BK104.out 0; have hfz26_1 := jB BK104.out 1; have hfz26_2 := jB BK104.out 2; have hfz26_3 := jB BK104.out 3; have hfz26_4 := jB BK104.out 4; have hfz26_5 := jB BK104.out 5) | ((with_reducible refine jd (f := 65) rfl ?_); refine goesL_ (some 5) rfl rfl Try.func65 zr rfl #[.int .i64 a0_5, .int .i64 0, .int .i64 4] rfl zm ?_; (with_reducible refine (impl_within.calls a0_5 0 4 true _ A2.out).mono ?_); rintro e w' ⟨rfl, ⟨nd, rfl⟩⟩; refine ⟨_, rfl, ?_⟩))
       go_ret
       exact ⟨by first | rfl | (simp [errW_none, errW_some] <;> rfl) | (simp [*, errW_none, errW_some] <;> rfl), zb1 HB GE104⟩
     ·replace c21 := Bool.eq_false_iff.mpr c21
      subst c21
      have H1 : (some false) = some r := by rw [if_neg (show ¬ (false = true) by decide)] at H; exact H
      clear H
      have H := H1
      clear H1
      obtain rfl := jT H
      go_enter Try.func27, Try.ntmps27
      go_wp2_with (first | ((with_reducible refine jO (N := 1) rfl ?_); refine jN ?hg (N := 1) ?hd (cs := #[.bool true, .bool false, .bool true, .bool false, .bool a0_4, .int .i64 a0_5]) (t := 23) ?hr ?_; (case hd => rfl); (case hg => rfl); (case hr => first | (go_simp; done) | (go_simp; rfl)); intro gb104 hg w27 hbox hb; have n0_ := jA (jJ (zb0 HB) hb); have n1_ := jA (hbox); have n2_ := jA ((by rw [hg]; exact (jG (zb0 HB)) : w.heap.size ≤ gb104)); have n3_ := jA ((by rw [hg]; exact (jG (zb0 HB)) : w.heap.size ≤ gb104)); clear HB; have HB := n0_; have BK104 := n1_; have GW104 := n2_; have GE104 := n3_; clear n0_ n1_ n2_ n3_; clear hb hbox hg; have hcz28_0 : w27.cell? ⟨gb104, 0, none⟩ = some (.bool true) := (jC BK104.out 0).trans rfl; have hcz28_1 : w27.cell? ⟨gb104, 1, none⟩ = some (.bool false) := (jC BK104.out 1).trans rfl; have hcz28_2 : w27.cell? ⟨gb104, 2, none⟩ = some (.bool true) := (jC BK104.out 2).trans rfl; have hcz28_3 : w27.cell? ⟨gb104, 3, none⟩ = some (.bool false) := (jC BK104.out 3).trans rfl; have hcz28_4 : w27.cell? ⟨gb104, 4, none⟩ = some (.bool a0_4) := (jC BK104.out 4).trans rfl; have hcz28_5 : w27.cell? ⟨gb104, 5, none⟩ = some (.int .i64 a0_5) := (jC BK104.out 5).trans rfl; have hfz28_0 := jB BK104.out 0; have hfz28_1 := jB BK104.out 1; have hfz28_2 := jB BK104.out 2; have hfz28_3 := jB BK104.out 3; have hfz28_4 := jB BK104.out 4; have hfz28_5 := jB BK104.out 5) | ((with_reducible refine jd (f := 65) rfl ?_); refine goesL_ (some 5) rfl rfl Try.func65 zr rfl #[.int .i64 a0_5, .int .i64 0, .int .i64 4] rfl zm ?_; (with_reducible refine (impl_within.calls a0_5 0 4 true _ A2.out).mono ?_); rintro e w' ⟨rfl, ⟨nd, rfl⟩⟩; refine ⟨_, rfl, ?_⟩))
      go_ret
      exact ⟨by first | rfl | (simp [errW_none, errW_some] <;> rfl) | (simp [*, errW_none, errW_some] <;> rfl), zb1 HB GE104⟩
    ·replace c20 := Bool.eq_false_iff.mpr c20
     subst c20
     have H1 : (some false) = some r := by rw [if_neg (show ¬ (false = true) by decide)] at H; exact H
     clear H
     have H := H1
     clear H1
     obtain rfl := jT H
     go_enter Try.func27, Try.ntmps27
     go_wp2_with (first | ((with_reducible refine jO (N := 1) rfl ?_); refine jN ?hg (N := 1) ?hd (cs := #[.bool false, .bool a0_1, .bool true, .bool false, .bool a0_4, .int .i64 a0_5]) (t := 23) ?hr ?_; (case hd => rfl); (case hg => rfl); (case hr => first | (go_simp; done) | (go_simp; rfl)); intro gb104 hg w29 hbox hb; have n0_ := jA (jJ (zb0 HB) hb); have n1_ := jA (hbox); have n2_ := jA ((by rw [hg]; exact (jG (zb0 HB)) : w.heap.size ≤ gb104)); have n3_ := jA ((by rw [hg]; exact (jG (zb0 HB)) : w.heap.size ≤ gb104)); clear HB; have HB := n0_; have BK104 := n1_; have GW104 := n2_; have GE104 := n3_; clear n0_ n1_ n2_ n3_; clear hb hbox hg; have hcz30_0 : w29.cell? ⟨gb104, 0, none⟩ = some (.bool false) := (jC BK104.out 0).trans rfl; have hcz30_1 : w29.cell? ⟨gb104, 1, none⟩ = some (.bool a0_1) := (jC BK104.out 1).trans rfl; have hcz30_2 : w29.cell? ⟨gb104, 2, none⟩ = some (.bool true) := (jC BK104.out 2).trans rfl; have hcz30_3 : w29.cell? ⟨gb104, 3, none⟩ = some (.bool false) := (jC BK104.out 3).trans rfl; have hcz30_4 : w29.cell? ⟨gb104, 4, none⟩ = some (.bool a0_4) := (jC BK104.out 4).trans rfl; have hcz30_5 : w29.cell? ⟨gb104, 5, none⟩ = some (.int .i64 a0_5) := (jC BK104.out 5).trans rfl; have hfz30_0 := jB BK104.out 0; have hfz30_1 := jB BK104.out 1; have hfz30_2 := jB BK104.out 2; have hfz30_3 := jB BK104.out 3; have hfz30_4 := jB BK104.out 4; have hfz30_5 := jB BK104.out 5) | ((with_reducible refine jd (f := 65) rfl ?_); refine goesL_ (some 5) rfl rfl Try.func65 zr rfl #[.int .i64 a0_5, .int .i64 0, .int .i64 4] rfl zm ?_; (with_reducible refine (impl_within.calls a0_5 0 4 true _ A2.out).mono ?_); rintro e w' ⟨rfl, ⟨nd, rfl⟩⟩; refine ⟨_, rfl, ?_⟩))
     go_ret
     exact ⟨by first | rfl | (simp [errW_none, errW_some] <;> rfl) | (simp [*, errW_none, errW_some] <;> rfl), zb1 HB GE104⟩
   ·replace c19 := Bool.eq_false_iff.mpr c19
    subst c19
    have H1 : (some true) = some r := by rw [if_neg (show ¬ (false = true) by decide)] at H; exact H
    clear H
    have H := H1
    clear H1
    obtain rfl := jT H
    go_enter Try.func27, Try.ntmps27
    go_wp2_with (first | ((with_reducible refine jO (N := 1) rfl ?_); refine jN ?hg (N := 1) ?hd (cs := #[.bool a0_0, .bool a0_1, .bool false, .bool false, .bool a0_4, .int .i64 a0_5]) (t := 23) ?hr ?_; (case hd => rfl); (case hg => rfl); (case hr => first | (go_simp; done) | (go_simp; rfl)); intro gb104 hg w31 hbox hb; have n0_ := jA (jJ (zb0 HB) hb); have n1_ := jA (hbox); have n2_ := jA ((by rw [hg]; exact (jG (zb0 HB)) : w.heap.size ≤ gb104)); have n3_ := jA ((by rw [hg]; exact (jG (zb0 HB)) : w.heap.size ≤ gb104)); clear HB; have HB := n0_; have BK104 := n1_; have GW104 := n2_; have GE104 := n3_; clear n0_ n1_ n2_ n3_; clear hb hbox hg; have hcz32_0 : w31.cell? ⟨gb104, 0, none⟩ = some (.bool a0_0) := (jC BK104.out 0).trans rfl; have hcz32_1 : w31.cell? ⟨gb104, 1, none⟩ = some (.bool a0_1) := (jC BK104.out 1).trans rfl; have hcz32_2 : w31.cell? ⟨gb104, 2, none⟩ = some (.bool false) := (jC BK104.out 2).trans rfl; have hcz32_3 : w31.cell? ⟨gb104, 3, none⟩ = some (.bool false) := (jC BK104.out 3).trans rfl; have hcz32_4 : w31.cell? ⟨gb104, 4, none⟩ = some (.bool a0_4) := (jC BK104.out 4).trans rfl; have hcz32_5 : w31.cell? ⟨gb104, 5, none⟩ = some (.int .i64 a0_5) := (jC BK104.out 5).trans rfl; have hfz32_0 := jB BK104.out 0; have hfz32_1 := jB BK104.out 1; have hfz32_2 := jB BK104.out 2; have hfz32_3 := jB BK104.out 3; have hfz32_4 := jB BK104.out 4; have hfz32_5 := jB BK104.out 5) | ((with_reducible refine jd (f := 65) rfl ?_); refine goesL_ (some 5) rfl rfl Try.func65 zr rfl #[.int .i64 a0_5, .int .i64 0, .int .i64 4] rfl zm ?_; (with_reducible refine (impl_within.calls a0_5 0 4 true _ A2.out).mono ?_); rintro e w' ⟨rfl, ⟨nd, rfl⟩⟩; refine ⟨_, rfl, ?_⟩))
    go_ret
    exact ⟨by first | rfl | (simp [errW_none, errW_some] <;> rfl) | (simp [*, errW_none, errW_some] <;> rfl), zb1 HB GE104⟩
 ·replace c3 := Bool.eq_false_iff.mpr c3
  subst c3
  have H1 : (some false) = some r := by rw [if_neg (show ¬ (false = true) by decide)] at H; exact H
  clear H
  have H := H1
  clear H1
  obtain rfl := jT H
  go_enter Try.func27, Try.ntmps27
  go_wp2_with (first | ((with_reducible refine jO (N := 1) rfl ?_); refine jN ?hg (N := 1) ?hd (cs := #[.bool a0_0, .bool a0_1, .bool a0_2, .bool a0_3, .bool a0_4, .int .i64 a0_5]) (t := 23) ?hr ?_; (case hd => rfl); (case hg => rfl); (case hr => first | (go_simp; done) | (go_simp; rfl)); intro gb104 hg w33 hbox hb; have n0_ := jA (jJ (zb0 HB) hb); have n1_ := jA (hbox); have n2_ := jA ((by rw [hg]; exact (jG (zb0 HB)) : w.heap.size ≤ gb104)); have n3_ := jA ((by rw [hg]; exact (jG (zb0 HB)) : w.heap.size ≤ gb104)); clear HB; have HB := n0_; have BK104 := n1_; have GW104 := n2_; have GE104 := n3_; clear n0_ n1_ n2_ n3_; clear hb hbox hg; have hcz34_0 : w33.cell? ⟨gb104, 0, none⟩ = some (.bool a0_0) := (jC BK104.out 0).trans rfl; have hcz34_1 : w33.cell? ⟨gb104, 1, none⟩ = some (.bool a0_1) := (jC BK104.out 1).trans rfl; have hcz34_2 : w33.cell? ⟨gb104, 2, none⟩ = some (.bool a0_2) := (jC BK104.out 2).trans rfl; have hcz34_3 : w33.cell? ⟨gb104, 3, none⟩ = some (.bool a0_3) := (jC BK104.out 3).trans rfl; have hcz34_4 : w33.cell? ⟨gb104, 4, none⟩ = some (.bool a0_4) := (jC BK104.out 4).trans rfl; have hcz34_5 : w33.cell? ⟨gb104, 5, none⟩ = some (.int .i64 a0_5) := (jC BK104.out 5).trans rfl; have hfz34_0 := jB BK104.out 0; have hfz34_1 := jB BK104.out 1; have hfz34_2 := jB BK104.out 2; have hfz34_3 := jB BK104.out 3; have hfz34_4 := jB BK104.out 4; have hfz34_5 := jB BK104.out 5) | ((with_reducible refine jd (f := 65) rfl ?_); refine goesL_ (some 5) rfl rfl Try.func65 zr rfl #[.int .i64 a0_5, .int .i64 0, .int .i64 4] rfl zm ?_; (with_reducible refine (impl_within.calls a0_5 0 4 false _ A2.out).mono ?_); rintro e w' ⟨rfl, ⟨nd, rfl⟩⟩; refine ⟨_, rfl, ?_⟩))
  go_ret
  exact ⟨by first | rfl | (simp [errW_none, errW_some] <;> rfl) | (simp [*, errW_none, errW_some] <;> rfl), zb1 HB GE104⟩

/-! ### impl_controllerWith: function 50 -/
def impl_controllerWith.f (a0 : Int) : Option (Bool × Bool × Bool × Bool × Bool × Int) := some (((Go.bits .and .i64 a0 1) != 0), ((Go.bits .and .i64 a0 2) != 0), ((Go.bits .and .i64 a0 4) != 0), ((Go.bits .and .i64 a0 8) != 0), ((Go.bits .and .i64 a0 16) != 0), wrap64 (Int.tdiv a0 32))
set_option maxHeartbeats 8000000 in
set_option maxRecDepth 100000 in
theorem impl_controllerWith.calls (a0 : Int) (r1 : Bool) (r2 : Bool) (r3 : Bool) (r4 : Bool) (r5 : Bool) (r6 : Int) (w : World) (h : impl_controllerWith.f a0 = some (r1, r2, r3, r4, r5, r6)) :
  Calls Try.prog 50 #[.int .i64 a0] w fun e w' => e = .returned (.agg #[.bool r1, .bool r2, .bool r3, .bool r4, .bool r5, .int .i64 r6]) ∧ Below w.heap.size w w' := by
 have hu23 := Try.underlying23
 have HB := jA (Below.refl w.heap.size w)
 have H : (some (((Go.bits .and .i64 a0 1) != 0), ((Go.bits .and .i64 a0 2) != 0), ((Go.bits .and .i64 a0 4) != 0), ((Go.bits .and .i64 a0 8) != 0), ((Go.bits .and .i64 a0 16) != 0), wrap64 (Int.tdiv a0 32))) = some (r1, r2, r3, r4, r5, r6) := h
 clear h
 simp only [jS, jY] at H
 obtain ⟨rfl, rfl, rfl, rfl, rfl, rfl⟩ := H
 go_enter Try.func50, Try.ntmps50
 go_wp2_with (first | ((with_reducible refine jO (N := 2) rfl ?_); refine jN ?hg (N := 2) ?hd (cs := #[.bool false, .bool false, .bool false, .bool false, .bool false, .int .i64 0]) (t := 23) ?hr ?_; (case hd => rfl); (case hg => rfl); (case hr => first | (go_simp; done) | (go_simp; rfl)); intro gb106 hg w2 hbox hb; have n0_ := jA (jJ (zb0 HB) hb); have n1_ := jA (hbox); have n2_ := jA ((by rw [hg]; exact (jG (zb0 HB)) : w.heap.size ≤ gb106)); have n3_ := jA ((by rw [hg]; exact (jG (zb0 HB)) : w.heap.size ≤ gb106)); clear HB; have HB := n0_; have BK106 := n1_; have GW106 := n2_; have GE106 := n3_; clear n0_ n1_ n2_ n3_; clear hb hbox hg; have hcz3_0 : w2.cell? ⟨gb106, 0, none⟩ = some (.bool false) := (jC BK106.out 0).trans rfl; have hcz3_1 : w2.cell? ⟨gb106, 1, none⟩ = some (.bool false) := (jC BK106.out 1).trans rfl; have hcz3_2 : w2.cell? ⟨gb106, 2, none⟩ = some (.bool false) := (jC BK106.out 2).trans rfl; have hcz3_3 : w2.cell? ⟨gb106, 3, none⟩ = some (.bool false) := (jC BK106.out 3).trans rfl; have hcz3_4 : w2.cell? ⟨gb106, 4, none⟩ = some (.bool false) := (jC BK106.out 4).trans rfl; have hcz3_5 : w2.cell? ⟨gb106, 5, none⟩ = some (.int .i64 0) := (jC BK106.out 5).trans rfl; have hfz3_0 := jB BK106.out 0; have hfz3_1 := jB BK106.out 1; have hfz3_2 := jB BK106.out 2; have hfz3_3 := jB BK106.out 3; have hfz3_4 := jB BK106.out 4; have hfz3_5 := jB BK106.out 5))
 refine je (results_cell_row rfl _ _ gb106 23 #[.bool ((Go.bits .and .i64 a0 1) != 0), .bool ((Go.bits .and .i64 a0 2) != 0), .bool ((Go.bits .and .i64 a0 4) != 0), .bool ((Go.bits .and .i64 a0 8) != 0), .bool ((Go.bits .and .i64 a0 16) != 0), .int .i64 (wrap64 (Int.tdiv a0 32))] (0, 0) _ rfl (by (with_reducible repeat (first | refine jD ?_ _ | refine jF ?_ | refine jE ?_ _)); refine jI (cs := #[.bool ((Go.bits .and .i64 a0 1) != 0), .bool ((Go.bits .and .i64 a0 2) != 0), .bool ((Go.bits .and .i64 a0 4) != 0), .bool ((Go.bits .and .i64 a0 8) != 0), .bool ((Go.bits .and .i64 a0 16) != 0), .int .i64 0]) ?_ 5 _ rfl; (with_reducible repeat (first | refine jD ?_ _ | refine jF ?_ | refine jE ?_ _)); refine jI (cs := #[.bool ((Go.bits .and .i64 a0 1) != 0), .bool ((Go.bits .and .i64 a0 2) != 0), .bool ((Go.bits .and .i64 a0 4) != 0), .bool ((Go.bits .and .i64 a0 8) != 0), .bool false, .int .i64 0]) ?_ 4 _ rfl; (with_reducible repeat (first | refine jD ?_ _ | refine jF ?_ | refine jE ?_ _)); refine jI (cs := #[.bool ((Go.bits .and .i64 a0 1) != 0), .bool ((Go.bits .and .i64 a0 2) != 0), .bool ((Go.bits .and .i64 a0 4) != 0), .bool false, .bool false, .int .i64 0]) ?_ 3 _ rfl; (with_reducible repeat (first | refine jD ?_ _ | refine jF ?_ | refine jE ?_ _)); refine jI (cs := #[.bool ((Go.bits .and .i64 a0 1) != 0), .bool ((Go.bits .and .i64 a0 2) != 0), .bool false, .bool false, .bool false, .int .i64 0]) ?_ 2 _ rfl; (with_reducible repeat (first | refine jD ?_ _ | refine jF ?_ | refine jE ?_ _)); refine jI (cs := #[.bool ((Go.bits .and .i64 a0 1) != 0), .bool false, .bool false, .bool false, .bool false, .int .i64 0]) ?_ 1 _ rfl; (with_reducible repeat (first | refine jD ?_ _ | refine jF ?_ | refine jE ?_ _)); refine jI (cs := #[.bool false, .bool false, .bool false, .bool false, .bool false, .int .i64 0]) ?_ 0 _ rfl; (with_reducible repeat (first | refine jD ?_ _ | refine jF ?_ | refine jE ?_ _)); exact BK106.out) Try.underlying23 rfl zr) rfl ?_
 exact ⟨by first | rfl | (simp [errW_none, errW_some] <;> rfl) | (simp [*, errW_none, errW_some] <;> rfl), zb1 HB GE106⟩

/-! ### impl_isNumber: function 49 -/
def impl_isNumber.f (a0 : Int) : Option (Bool) := (impl_within.f a0 0 159).bind fun t107 => (if t107 = true then ((impl_controllerWith.f a0).bind fun bt108 => ((impl_IsSound.f bt108.1 bt108.2.1 bt108.2.2.1 bt108.2.2.2.1 bt108.2.2.2.2.1 bt108.2.2.2.2.2).bind fun t114 => (some t114))) else (some false))
set_option maxHeartbeats 8000000 in
set_option maxRecDepth 100000 in
theorem impl_isNumber.calls (a0 : Int) (r : Bool) (w : World) (h : impl_isNumber.f a0 = some r) :
  Calls Try.prog 49 #[.int .i64 a0] w fun e w' => e = .returned (.bool r) ∧ Below w.heap.size w w' := by
 have HB := jA (Below.refl w.heap.size w)
 have H : ((impl_within.f a0 0 159).bind fun t107 => (if t107 = true then ((impl_controllerWith.f a0).bind fun bt108 => ((impl_IsSound.f bt108.1 bt108.2.1 bt108.2.2.1 bt108.2.2.2.1 bt108.2.2.2.2.1 bt108.2.2.2.2.2).bind fun t114 => (some t114))) else (some false))) = some r := h
 clear h
 replace H := jQ.mp H
 obtain ⟨t107, A20, H⟩ := H
 replace H : (if t107 = true then ((impl_controllerWith.f a0).bind fun bt108 => ((impl_IsSound.f bt108.1 bt108.2.1 bt108.2.2.1 bt108.2.2.2.1 bt108.2.2.2.2.1 bt108.2.2.2.2.2).bind fun t114 => (some t114))) else (some false)) = some r := H
 have A2 := jA A20
 clear A20
 by_cases c3 : t107 = true
 ·subst c3
  have H1 : ((impl_controllerWith.f a0).bind fun bt108 => ((impl_IsSound.f bt108.1 bt108.2.1 bt108.2.2.1 bt108.2.2.2.1 bt108.2.2.2.2.1 bt108.2.2.2.2.2).bind fun t114 => (some t114))) = some r := by rw [if_pos rfl] at H; exact H
  clear H
  have H := H1
  clear H1
  replace H := jQ.mp H
  obtain ⟨⟨t108, t109, t110, t111, t112, t113⟩, A40, H⟩ := H
  replace H : ((impl_IsSound.f t108 t109 t110 t111 t112 t113).bind fun t114 => (some t114)) = some r := H
  have A4 := jA A40
  clear A40
  replace H := jQ.mp H
  obtain ⟨t114, A50, H⟩ := H
  replace H : (some t114) = some r := H
  have A5 := jA A50
  clear A50
  obtain rfl := jT H
  go_enter Try.func49, Try.ntmps49
  go_wp2_with (first | ((with_reducible refine jd (f := 65) rfl ?_); refine goesL_ (some 4) rfl rfl Try.func65 zr rfl #[.int .i64 a0, .int .i64 0, .int .i64 159] rfl zm ?_; (with_reducible refine (impl_within.calls a0 0 159 true _ A2.out).mono ?_); rintro e w' ⟨rfl, ⟨nd, rfl⟩⟩; refine ⟨_, rfl, ?_⟩) | (go_at_call 50; (with_reducible refine (impl_controllerWith.calls a0 t108 t109 t110 t111 t112 t113 _ A4.out).mono ?_); rintro e w6 ⟨rfl, hb⟩; have n0_ := jA (jJ (zb0 HB) hb); clear HB; have HB := n0_; clear n0_; (try clear hb); (try clear hb2); (try clear hk); (try clear hi)) | (go_at_call 27; (with_reducible refine (impl_IsSound.calls t108 t109 t110 t111 t112 t113 t114 _ A5.out).mono ?_); rintro e w7 ⟨rfl, hb⟩; have n0_ := jA (jJ (zb0 HB) hb); clear HB; have HB := n0_; clear n0_; (try clear hb); (try clear hb2); (try clear hk); (try clear hi)))
  go_ret
  exact ⟨by first | rfl | (simp [errW_none, errW_some] <;> rfl) | (simp [*, errW_none, errW_some] <;> rfl), zb0 HB⟩
 ·replace c3 := Bool.eq_false_iff.mpr c3
  subst c3
  have H1 : (some false) = some r := by rw [if_neg (show ¬ (false = true) by decide)] at H; exact H
  clear H
  have H := H1
  clear H1
  obtain rfl := jT H
  go_enter Try.func49, Try.ntmps49
  go_wp2_with (first | ((with_reducible refine jd (f := 65) rfl ?_); refine goesL_ (some 4) rfl rfl Try.func65 zr rfl #[.int .i64 a0, .int .i64 0, .int .i64 159] rfl zm ?_; (with_reducible refine (impl_within.calls a0 0 159 false _ A2.out).mono ?_); rintro e w' ⟨rfl, ⟨nd, rfl⟩⟩; refine ⟨_, rfl, ?_⟩))
  go_ret
  exact ⟨by first | rfl | (simp [errW_none, errW_some] <;> rfl) | (simp [*, errW_none, errW_some] <;> rfl), zb0 HB⟩

/-! ### impl_allWithin: function 80 -/
def impl_allWithin.l0 : Nat → Int → Int → List Int → Int → Int → Option (Bool)
 | 0, _, _, _, _, _ => none
 | k + 1, x1, x2, x9, x10, x11 => if x11 < x10 then (if 0 ≤ x11 then (if x11 < (x9.length : Int) then ((impl_within.f (rd x9 x11) x1 x2).bind fun t116 => (if t116 = true then (impl_allWithin.l0 k x1 x2 x9 x10 (wrap64 (x11 + 1))) else (some false))) else (none)) else (none)) else (some true)
def impl_allWithin.f (k : Nat) (l0 : List Int) (a1 : Int) (a2 : Int) : Option (Bool) := impl_allWithin.l0 k a1 a2 l0 (l0.length : Int) 0
theorem impl_allWithin.mono_l : ∀ k, (∀ y0 y1 y2 y3 y4, LeO (impl_allWithin.l0 k y0 y1 y2 y3 y4) (impl_allWithin.l0 (k + 1) y0 y1 y2 y3 y4))
 | 0 => fun _ _ _ _ _ r h => by simp [impl_allWithin.l0] at h
 | k + 1 => by
  have ih0 := impl_allWithin.mono_l k
  ·intro y0 y1 y2 y3 y4
   unfold impl_allWithin.l0
   repeat' first
   | (with_reducible exact ih0 _ _ _ _ _)
   | (with_reducible exact LeO.refl _)
   | (with_reducible exact LeO.none _)
   | (with_reducible refine LeO.ite ?_ ?_)
   | (with_reducible refine LeO.bind ?_ (fun _ => ?_))
   | exact ih0 _ _ _ _ _
   | exact LeO.none _
   | refine LeO.ite ?_ ?_
   | refine LeO.bind ?_ (fun _ => ?_)
theorem impl_allWithin.mono : ∀ a0 a1 a2 k, LeO (impl_allWithin.f k a0 a1 a2) (impl_allWithin.f (k + 1) a0 a1 a2) := by
 intro a0 a1 a2 k
 have ih0 := impl_allWithin.mono_l k
 unfold impl_allWithin.f
 repeat' first
   | (with_reducible exact ih0 _ _ _ _ _)
   | (with_reducible exact LeO.refl _)
   | (with_reducible exact LeO.none _)
   | (with_reducible refine LeO.ite ?_ ?_)
   | (with_reducible refine LeO.bind ?_ (fun _ => ?_))
   | exact ih0 _ _ _ _ _
   | exact LeO.none _
   | refine LeO.ite ?_ ?_
   | refine LeO.bind ?_ (fun _ => ?_)
set_option maxHeartbeats 8000000 in
set_option maxRecDepth 100000 in
theorem impl_allWithin.calls (k : Nat) (A0 : Option Addr) (c0 : Nat) (l0 : List Int) (a1 : Int) (a2 : Int) (r : Bool) (w : World) (hr0 : Kd.C (Kd.int .i64) w A0 l0.length l0) (hc0 : l0.length ≤ c0) (h : impl_allWithin.f k l0 a1 a2 = some r) :
  Calls Try.prog 80 #[.slice A0 l0.length c0, .int .i64 a1, .int .i64 a2] w fun e w' => e = .returned (.bool r) ∧ Drawn0 w w' := by
 have HR0 := jA hr0
 have HC0 := jA hc0
 clear hr0 hc0
 have H : (impl_allWithin.l0 k a1 a2 l0 (l0.length : Int) 0) = some r := h
 clear h
 have H' := jA H
 clear H
 go_enter Try.func80, Try.ntmps80
 go_wp2
 go_loopg [11] k (fun kq v11 w' => ∃ (x11_1 : Int), v11 = .int .i64 x11_1 ∧ Aside0 (impl_allWithin.l0 kq a1 a2 l0 (l0.length : Int) x11_1 = some r) ∧ Aside0 (kq ≤ k) ∧ Drawn0 w w')
 case atStart => exact ⟨(0), zz, H', ⟨Nat.le_refl _⟩, by repeat (first | exact Drawn0.refl _ | apply Drawn0.step)⟩
 case round =>
  clear H'
  try clear p2
  obtain ⟨x11_1, rfl, HA, HK1, ⟨m1, rfl⟩⟩ := hrel
  cases gk with
  | zero => exact absurd HA.out (by simp [impl_allWithin.l0])
  | succ k1 =>
   have H := HA.out
   clear HA
   simp only [impl_allWithin.l0] at H
   by_cases c4 : x11_1 < (l0.length : Int)
   ·rw [if_pos c4] at H
    have c4b0 : decide (x11_1 < (l0.length : Int)) = true := jR c4
    clear c4
    by_cases c5 : 0 ≤ x11_1
    ·rw [if_pos c5] at H
     have c5b0 : decide (0 ≤ x11_1) = true := jR c5
     clear c5
     by_cases c6 : x11_1 < (l0.length : Int)
     ·rw [if_pos c6] at H
      have c6b0 : decide (x11_1 < (l0.length : Int)) = true := jR c6
      clear c6
      replace H := jQ.mp H
      obtain ⟨t116, A70, H⟩ := H
      replace H : (if t116 = true then (impl_allWithin.l0 k1 a1 a2 l0 (l0.length : Int) (wrap64 (x11_1 + 1))) else (some false)) = some r := H
      have A7 := jA A70
      clear A70
      by_cases c8 : t116 = true
      ·subst c8
       have H1 : (impl_allWithin.l0 k1 a1 a2 l0 (l0.length : Int) (wrap64 (x11_1 + 1))) = some r := by rw [if_pos rfl] at H; exact H
       clear H
       have H := H1
       clear H1
       have H' := jA H
       clear H
       have p115 : 0 ≤ (x11_1 : Int) := jH za
       have q115 : x11_1 < (l0.length : Int) := jH za
       obtain ⟨ad115, e115, hx115_0⟩ := Kd.at_int HR0.out x11_1 p115 q115
       cases e115
       replace p115 := eq_true p115
       replace q115 := eq_true q115
       go_wp2_with (first | ((with_reducible refine jd (f := 65) rfl ?_); refine goesL_ (some 18) rfl rfl Try.func65 zr rfl #[.int .i64 (rd l0 x11_1), .int .i64 a1, .int .i64 a2] rfl zm ?_; (with_reducible refine (impl_within.calls (rd l0 x11_1) a1 a2 true _ A7.out).mono ?_); rintro e w' ⟨rfl, ⟨nd, rfl⟩⟩; refine ⟨_, rfl, ?_⟩))
       go_roundg k1
       case measure => have := HK1.out; omega
       case rel => exact ⟨(wrap64 (x11_1 + 1)), zz, H', ⟨by have := HK1.out; omega⟩, by repeat (first | exact Drawn0.refl _ | apply Drawn0.step)⟩
      ·replace c8 := Bool.eq_false_iff.mpr c8
       subst c8
       have H1 : (some false) = some r := by rw [if_neg (show ¬ (false = true) by decide)] at H; exact H
       clear H
       have H := H1
       clear H1
       obtain rfl := jT H
       have p115 : 0 ≤ (x11_1 : Int) := jH za
       have q115 : x11_1 < (l0.length : Int) := jH za
       obtain ⟨ad115, e115, hx115_0⟩ := Kd.at_int HR0.out x11_1 p115 q115
       cases e115
       replace p115 := eq_true p115
       replace q115 := eq_true q115
       go_wp2_with (first | ((with_reducible refine jd (f := 65) rfl ?_); refine goesL_ (some 18) rfl rfl Try.func65 zr rfl #[.int .i64 (rd l0 x11_1), .int .i64 a1, .int .i64 a2] rfl zm ?_; (with_reducible refine (impl_within.calls (rd l0 x11_1) a1 a2 false _ A7.out).mono ?_); rintro e w' ⟨rfl, ⟨nd, rfl⟩⟩; refine ⟨_, rfl, ?_⟩))
       go_ret
       exact ⟨by first | rfl | (simp; done) | (simp [*]; done), by repeat (first | exact Drawn0.refl _ | apply Drawn0.step)⟩
     ·rw [if_neg c6] at H
      exact absurd H (by simp)
    ·rw [if_neg c5] at H
     exact absurd H (by simp)
   ·rw [if_neg c4] at H
    have c4b0 : decide (x11_1 < (l0.length : Int)) = false := decide_eq_false c4
    clear c4
    obtain rfl := jT H
    go_wp2
    go_ret
    exact ⟨by first | rfl | (simp; done) | (simp [*]; done), by repeat (first | exact Drawn0.refl _ | apply Drawn0.step)⟩

/-! ### impl_isHand: function 56 -/
def impl_isHand.l0 : Nat → List Int → Int → Option (Bool)
 | 0, _, _ => none
 | k + 1, x0, x3 => if x3 < (x0.length : Int) then (if 0 ≤ (wrap64 (x3 - 1)) then (if (wrap64 (x3 - 1)) < (x0.length : Int) then (if 0 ≤ x3 then (if (rd x0 (wrap64 (x3 - 1))) ≥ (rd x0 x3) then (some false) else (impl_isHand.l0 k x0 (wrap64 (x3 + 1)))) else (none)) else (none)) else (none)) else (some true)
def impl_isHand.f (k : Nat) (l0 : List Int) : Option (Bool) := (impl_allWithin.f k l0 0 9).bind fun t117 => (if t117 = true then (impl_isHand.l0 k l0 1) else (some false))
theorem impl_isHand.mono_l : ∀ k, (∀ y0 y1, LeO (impl_isHand.l0 k y0 y1) (impl_isHand.l0 (k + 1) y0 y1))
 | 0 => fun _ _ r h => by simp [impl_isHand.l0] at h
 | k + 1 => by
  have ih0 := impl_isHand.mono_l k
  ·intro y0 y1
   unfold impl_isHand.l0
   repeat' first
   | (with_reducible exact ih0 _ _)
   | (with_reducible exact impl_allWithin.mono _ _ _ _)
   | (with_reducible exact LeO.refl _)
   | (with_reducible exact LeO.none _)
   | (with_reducible refine LeO.ite ?_ ?_)
   | (with_reducible refine LeO.bind ?_ (fun _ => ?_))
   | exact ih0 _ _
   | exact impl_allWithin.mono _ _ _ _
   | exact LeO.none _
   | refine LeO.ite ?_ ?_
   | refine LeO.bind ?_ (fun _ => ?_)
theorem impl_isHand.mono : ∀ a0 k, LeO (impl_isHand.f k a0) (impl_isHand.f (k + 1) a0) := by
 intro a0 k
 have ih0 := impl_isHand.mono_l k
 unfold impl_isHand.f
 repeat' first
   | (with_reducible exact ih0 _ _)
   | (with_reducible exact impl_allWithin.mono _ _ _ _)
   | (with_reducible exact LeO.refl _)
   | (with_reducible exact LeO.none _)
   | (with_reducible refine LeO.ite ?_ ?_)
   | (with_reducible refine LeO.bind ?_ (fun _ => ?_))
   | exact ih0 _ _
   | exact impl_allWithin.mono _ _ _ _
   | exact LeO.none _
   | refine LeO.ite ?_ ?_
   | refine LeO.bind ?_ (fun _ => ?_)
set_option maxHeartbeats 8000000 in
set_option maxRecDepth 100000 in
theorem impl_isHand.calls (k : Nat) (A0 : Option Addr) (c0 : Nat) (l0 : List Int) (r : Bool) (w : World) (hr0 : Kd.C (Kd.int .i64) w A0 l0.length l0) (hc0 : l0.length ≤ c0) (h : impl_isHand.f k l0 = some r) :
  Calls Try.prog 56 #[.slice A0 l0.length c0] w fun e w' => e = .returned (.bool r) ∧ Drawn0 w w' := by
 have HR0 := jA hr0
 have HC0 := jA hc0
 clear hr0 hc0
 have H : ((impl_allWithin.f k l0 0 9).bind fun t117 => (if t117 = true then (impl_isHand.l0 k l0 1) else (some false))) = some r := h
 clear h
 replace H := jQ.mp H
 obtain ⟨t117, A20, H⟩ := H
 replace H : (if t117 = true then (impl_isHand.l0 k l0 1) else (some false)) = some r := H
 have A2 := jA A20
 clear A20
 by_cases c3 : t117 = true
 ·subst c3
  have H1 : (impl_isHand.l0 k l0 1) = some r := by rw [if_pos rfl] at H; exact H
  clear H
  have H := H1
  clear H1
  have H' := jA H
  clear H
  go_enter Try.func56, Try.ntmps56
  go_wp2_with (first | (go_at_call 80; (with_reducible refine (impl_allWithin.calls k _ _ l0 0 9 true _ ?side1 ?side2 A2.out).mono ?_); (case side1 => repeat (first | exact HR0.out | (with_reducible refine Kd.C_alloc ?_ _) | (with_reducible refine Kd.C_drewN ?_ _) | (with_reducible refine Kd.C_drew ?_))); (case side2 => exact HC0.out); rintro e w' ⟨rfl, ⟨nd, rfl⟩⟩; (try first | exact ⟨rfl, _, World.drewN_drewN _ _ _⟩ | exact ⟨rfl, _, Eq.trans (World.drewN_drewN _ _ _) (congrArg (World.drewN _) (Nat.add_assoc _ _ _))⟩)))
  repeat (go_quiet (first | (go_at_call 80; (with_reducible refine (impl_allWithin.calls k _ _ l0 0 9 true _ ?side1 ?side2 A2.out).mono ?_); (case side1 => repeat (first | exact HR0.out | (with_reducible refine Kd.C_alloc ?_ _) | (with_reducible refine Kd.C_drewN ?_ _) | (with_reducible refine Kd.C_drew ?_))); (case side2 => exact HC0.out); rintro e w' ⟨rfl, ⟨nd, rfl⟩⟩; (try first | exact ⟨rfl, _, World.drewN_drewN _ _ _⟩ | exact ⟨rfl, _, Eq.trans (World.drewN_drewN _ _ _) (congrArg (World.drewN _) (Nat.add_assoc _ _ _))⟩))); try go_wp2_with (first | (go_at_call 80; (with_reducible refine (impl_allWithin.calls k _ _ l0 0 9 true _ ?side1 ?side2 A2.out).mono ?_); (case side1 => repeat (first | exact HR0.out | (with_reducible refine Kd.C_alloc ?_ _) | (with_reducible refine Kd.C_drewN ?_ _) | (with_reducible refine Kd.C_drew ?_))); (case side2 => exact HC0.out); rintro e w' ⟨rfl, ⟨nd, rfl⟩⟩; (try first | exact ⟨rfl, _, World.drewN_drewN _ _ _⟩ | exact ⟨rfl, _, Eq.trans (World.drewN_drewN _ _ _) (congrArg (World.drewN _) (Nat.add_assoc _ _ _))⟩))))
  go_loopg [3] k (fun kq v3 w' => ∃ (x3_1 : Int), v3 = .int .i64 x3_1 ∧ Aside0 (impl_isHand.l0 kq l0 x3_1 = some r) ∧ Aside0 (kq ≤ k) ∧ Drawn0 w w')
  case atStart => exact ⟨(1), zz, H', ⟨Nat.le_refl _⟩, by repeat (first | exact Drawn0.refl _ | apply Drawn0.step)⟩
  case round =>
   clear H'
   try clear p2
   try clear c3
   obtain ⟨x3_1, rfl, HA, HK1, ⟨m1, rfl⟩⟩ := hrel
   cases gk with
   | zero => exact absurd HA.out (by simp [impl_isHand.l0])
   | succ k1 =>
    have H := HA.out
    clear HA
    simp only [impl_isHand.l0] at H
    by_cases c4 : x3_1 < (l0.length : Int)
    ·rw [if_pos c4] at H
     have c4b0 : decide (x3_1 < (l0.length : Int)) = true := jR c4
     clear c4
     obtain ⟨ji5, hji5⟩ : ∃ j_ : Int, (wrap64 (x3_1 - 1)) = j_ := ⟨_, rfl⟩
     replace H : (if 0 ≤ (ji5) then (if (ji5) < (l0.length : Int) then (if 0 ≤ x3_1 then (if (rd l0 (ji5)) ≥ (rd l0 x3_1) then (some false) else (impl_isHand.l0 k1 l0 (wrap64 (x3_1 + 1)))) else (none)) else (none)) else (none)) = some r := by first | (rw [hji5] at H; exact H) | (simp only [hji5] at H ⊢; exact H)
     have hji5w : (IntKind.i64.wrap (x3_1 - 1)) = ji5 := (i64_w _).trans hji5
     by_cases c6 : 0 ≤ (ji5)
     ·rw [if_pos c6] at H
      have c6b0 : decide (0 ≤ (ji5)) = true := jR c6
      clear c6
      by_cases c7 : (ji5) < (l0.length : Int)
      ·rw [if_pos c7] at H
       have c7b0 : decide ((ji5) < (l0.length : Int)) = true := jR c7
       clear c7
       by_cases c8 : 0 ≤ x3_1
       ·rw [if_pos c8] at H
        have c8b0 : decide (0 ≤ x3_1) = true := jR c8
        clear c8
        by_cases c9 : (rd l0 (ji5)) ≥ (rd l0 x3_1)
        ·rw [if_pos c9] at H
         have c9b0 : decide ((rd l0 x3_1) ≤ (rd l0 (ji5))) = true := jR c9
         clear c9
         obtain rfl := jT H
         have p118 : 0 ≤ ((ji5) : Int) := jH za
         have q118 : (ji5) < (l0.length : Int) := jH za
         obtain ⟨ad118, e118, hx118_0⟩ := Kd.at_int HR0.out (ji5) p118 q118
         cases e118
         replace p118 := eq_true p118
         replace q118 := eq_true q118
         have p119 : 0 ≤ (x3_1 : Int) := jH za
         have q119 : x3_1 < (l0.length : Int) := jH za
         obtain ⟨ad119, e119, hx119_0⟩ := Kd.at_int HR0.out x3_1 p119 q119
         obtain rfl : ad118 = ad119 := (by injection e119)
         replace p119 := eq_true p119
         replace q119 := eq_true q119
         go_wp2
         repeat (go_quiet (fail); try go_wp2)
         go_ret
         exact ⟨by first | rfl | (simp; done) | (simp only [← hji5] <;> (first | rfl | simp)) | (simp [*]; done), by repeat (first | exact Drawn0.refl _ | apply Drawn0.step)⟩
        ·rw [if_neg c9] at H
         have c9b0 : decide ((rd l0 x3_1) ≤ (rd l0 (ji5))) = false := decide_eq_false c9
         clear c9
         have H' := jA H
         clear H
         have p118 : 0 ≤ ((ji5) : Int) := jH za
         have q118 : (ji5) < (l0.length : Int) := jH za
         obtain ⟨ad118, e118, hx118_0⟩ := Kd.at_int HR0.out (ji5) p118 q118
         cases e118
         replace p118 := eq_true p118
         replace q118 := eq_true q118
         have p119 : 0 ≤ (x3_1 : Int) := jH za
         have q119 : x3_1 < (l0.length : Int) := jH za
         obtain ⟨ad119, e119, hx119_0⟩ := Kd.at_int HR0.out x3_1 p119 q119
         obtain rfl : ad118 = ad119 := (by injection e119)
         replace p119 := eq_true p119
         replace q119 := eq_true q119
         go_wp2
         repeat (go_quiet (fail); try go_wp2)
         go_roundg k1
         case measure => have := HK1.out; omega
         case rel => exact ⟨(wrap64 (x3_1 + 1)), zz, H', ⟨by have := HK1.out; omega⟩, by repeat (first | exact Drawn0.refl _ | apply Drawn0.step)⟩
       ·rw [if_neg c8] at H
        exact absurd H (by simp)
      ·rw [if_neg c7] at H
       exact absurd H (by simp)
     ·rw [if_neg c6] at H
      exact absurd H (by simp)
    ·rw [if_neg c4] at H
     have c4b0 : decide (x3_1 < (l0.length : Int)) = false := decide_eq_false c4
     clear c4
     obtain rfl := jT H
     go_wp2
     repeat (go_quiet (fail); try go_wp2)
     go_ret
     exact ⟨by first | rfl | (simp; done) | (simp [*]; done), by repeat (first | exact Drawn0.refl _ | apply Drawn0.step)⟩
 ·replace c3 := Bool.eq_false_iff.mpr c3
  subst c3
  have H1 : (some false) = some r := by rw [if_neg (show ¬ (false = true) by decide)] at H; exact H
  clear H
  have H := H1
  clear H1
  obtain rfl := jT H
  go_enter Try.func56, Try.ntmps56
  go_wp2_with (first | (go_at_call 80; (with_reducible refine (impl_allWithin.calls k _ _ l0 0 9 false _ ?side1 ?side2 A2.out).mono ?_); (case side1 => repeat (first | exact HR0.out | (with_reducible refine Kd.C_alloc ?_ _) | (with_reducible refine Kd.C_drewN ?_ _) | (with_reducible refine Kd.C_drew ?_))); (case side2 => exact HC0.out); rintro e w' ⟨rfl, ⟨nd, rfl⟩⟩; (try first | exact ⟨rfl, _, World.drewN_drewN _ _ _⟩ | exact ⟨rfl, _, Eq.trans (World.drewN_drewN _ _ _) (congrArg (World.drewN _) (Nat.add_assoc _ _ _))⟩)))
  repeat (go_quiet (first | (go_at_call 80; (with_reducible refine (impl_allWithin.calls k _ _ l0 0 9 false _ ?side1 ?side2 A2.out).mono ?_); (case side1 => repeat (first | exact HR0.out | (with_reducible refine Kd.C_alloc ?_ _) | (with_reducible refine Kd.C_drewN ?_ _) | (with_reducible refine Kd.C_drew ?_))); (case side2 => exact HC0.out); rintro e w' ⟨rfl, ⟨nd, rfl⟩⟩; (try first | exact ⟨rfl, _, World.drewN_drewN _ _ _⟩ | exact ⟨rfl, _, Eq.trans (World.drewN_drewN _ _ _) (congrArg (World.drewN _) (Nat.add_assoc _ _ _))⟩))); try go_wp2_with (first | (go_at_call 80; (with_reducible refine (impl_allWithin.calls k _ _ l0 0 9 false _ ?side1 ?side2 A2.out).mono ?_); (case side1 => repeat (first | exact HR0.out | (with_reducible refine Kd.C_alloc ?_ _) | (with_reducible refine Kd.C_drewN ?_ _) | (with_reducible refine Kd.C_drew ?_))); (case side2 => exact HC0.out); rintro e w' ⟨rfl, ⟨nd, rfl⟩⟩; (try first | exact ⟨rfl, _, World.drewN_drewN _ _ _⟩ | exact ⟨rfl, _, Eq.trans (World.drewN_drewN _ _ _) (congrArg (World.drewN _) (Nat.add_assoc _ _ _))⟩))))
  go_ret
  exact ⟨by first | rfl | (simp; done) | (simp [*]; done), by repeat (first | exact Drawn0.refl _ | apply Drawn0.step)⟩

/-! ### impl_bit: function 79 -/
def impl_bit.f (a0 : Bool) (a1 : Int) : Option (Int) := if a0 = true then (some a1) else (some 0)
set_option maxHeartbeats 8000000 in
set_option maxRecDepth 100000 in
theorem impl_bit.calls (a0 : Bool) (a1 : Int) (r : Int) (w : World) (h : impl_bit.f a0 a1 = some r) :
  Calls Try.prog 79 #[.bool a0, .int .i64 a1] w fun e w' => e = .returned (.int .i64 r) ∧ Drawn0 w w' := by
 have H : (if a0 = true then (some a1) else (some 0)) = some r := h
 clear h
 by_cases c3 : a0 = true
 ·subst c3
  have H1 : (some a1) = some r := by rw [if_pos rfl] at H; exact H
  clear H
  have H := H1
  clear H1
  obtain rfl := jT H
  go_enter Try.func79, Try.ntmps79
  go_wp2
  go_ret
  exact ⟨by first | rfl | (simp; done) | (simp [*]; done), by repeat (first | exact Drawn0.refl _ | apply Drawn0.step)⟩
 ·replace c3 := Bool.eq_false_iff.mpr c3
  subst c3
  have H1 : (some 0) = some r := by rw [if_neg (show ¬ (false = true) by decide)] at H; exact H
  clear H
  have H := H1
  clear H1
  obtain rfl := jT H
  go_enter Try.func79, Try.ntmps79
  go_wp2
  go_ret
  exact ⟨by first | rfl | (simp; done) | (simp [*]; done), by repeat (first | exact Drawn0.refl _ | apply Drawn0.step)⟩

end Go.Proofs.Ythieppjmjgijfaa.PFnExactShortestInputs
