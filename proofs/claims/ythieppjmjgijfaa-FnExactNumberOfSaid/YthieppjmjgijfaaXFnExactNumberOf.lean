/- FnExactNumberOf: the parts of the law that look behind a row's length, and the law's walk: with the answers that the functions give, it tells true. -/
import Derived.Test.YthieppjmjgijfaaQFnExactNumberOfx1
namespace Go.Proofs.Ythieppjmjgijfaa.PFnExactNumberOf
open Go.RowKit Go.Proofs.YthieppjmjgijfaaW.PrintWords Go.Proofs.YthieppjmjgijfaaW.PrintLast Go.Proofs.YthieppjmjgijfaaW.PrintMore
attribute [local go_sem] max2_int min2_int max_two min_two max_three min_three max_four min_four   -- for this text's walks alone
set_option linter.unusedVariables false
set_option linter.unusedSimpArgs false
open Go.Proofs.YthieppjmjgijfaaX



/-! ### the law: function 4 -/
set_option maxHeartbeats 8000000 in
set_option maxRecDepth 100000 in
theorem laws_FnExactNumberOf.true_ (k : Nat) (a0_0 : Bool) (a0_1 : Bool) (a0_2 : Bool) (a0_3 : Bool) (a0_4 : Bool) (a0_5 : Int) (w : World) (res_r1 : Int) (res_r2 : Int) (hvac_ : laws_toController.f a0_0 a0_1 a0_2 a0_3 a0_4 a0_5 = some (a0_0, a0_1, a0_2, a0_3, a0_4, a0_5)) (hfspec_ : spec_NumberOf.f k a0_0 a0_1 a0_2 a0_3 a0_4 a0_5 = some (res_r1, res_r2)) (hfimpl_ : impl_NumberOf.f a0_0 a0_1 a0_2 a0_3 a0_4 a0_5 = some (res_r1, res_r2)) :
    Calls Try.prog 4 #[.agg #[.bool a0_0, .bool a0_1, .bool a0_2, .bool a0_3, .bool a0_4, .int .i64 a0_5]] w fun e w' => e = .returned (.bool true) ∧ Below w.heap.size w w' := by
  have HVaC := Aside0.mk hvac_
  have HFspec := Aside0.mk hfspec_
  have HFimpl := Aside0.mk hfimpl_
  clear hvac_ hfspec_ hfimpl_
  have HB := Aside0.mk (Below.refl w.heap.size w)
  go_enter Try.func4, Try.ntmps4
  go_wp2_with (first | ((with_reducible refine gate_dst (N := 1) rfl ?_); refine box_event ?hg (N := 1) ?hd (cs := #[.bool a0_0, .bool a0_1, .bool a0_2, .bool a0_3, .bool a0_4, .int .i64 a0_5]) (t := 28) ?hr ?_; (case hd => rfl); (case hg => rfl); (case hr => first | (go_simp; done) | (go_simp; rfl)); intro gb1 hg_ w_3 hbox hb; have BK2 := Aside0.mk hbox; have HGgb1 : Aside0 (gb1 < w_3.heap.size) := ⟨blk_lt hbox⟩; have hbA_ := Aside0.mk hb; clear hbox hg_ hb; have hcz_0 : w_3.cell? ⟨gb1, 0, none⟩ = some (.bool a0_0) := (blk_cell BK2.out 0).trans rfl; have hfz_0 := blk_frozen BK2.out 0; have hcz_1 : w_3.cell? ⟨gb1, 1, none⟩ = some (.bool a0_1) := (blk_cell BK2.out 1).trans rfl; have hfz_1 := blk_frozen BK2.out 1; have hcz_2 : w_3.cell? ⟨gb1, 2, none⟩ = some (.bool a0_2) := (blk_cell BK2.out 2).trans rfl; have hfz_2 := blk_frozen BK2.out 2; have hcz_3 : w_3.cell? ⟨gb1, 3, none⟩ = some (.bool a0_3) := (blk_cell BK2.out 3).trans rfl; have hfz_3 := blk_frozen BK2.out 3; have hcz_4 : w_3.cell? ⟨gb1, 4, none⟩ = some (.bool a0_4) := (blk_cell BK2.out 4).trans rfl; have hfz_4 := blk_frozen BK2.out 4; have hcz_5 : w_3.cell? ⟨gb1, 5, none⟩ = some (.int .i64 a0_5) := (blk_cell BK2.out 5).trans rfl; have hfz_5 := blk_frozen BK2.out 5))
  clear hcz_0 hfz_0 hcz_1 hfz_1 hcz_2 hfz_2 hcz_3 hfz_3 hcz_4 hfz_4 hcz_5 hfz_5
  have hb := hbA_.out
  clear hbA_
  have HBi := Aside0.mk (below_step (by repeat (first | (with_reducible first | exact Below.refl _ _ | apply below_alloc | apply pw_below_drewN | apply below_drew1) | exact Below.refl _ _)) hb : Below w.heap.size w w_3)
  clear hb
  have HBn := Aside0.mk (below_step HB.out HBi.out)
  clear HB
  have HB := HBn
  clear HBn
  have HS4 := Aside0.mk HBi.out.size
  clear HBi
  have hcz_0 : w_3.cell? ⟨gb1, 0, none⟩ = some (.bool a0_0) := (blk_cell BK2.out 0).trans rfl
  have hfz_0 := blk_frozen BK2.out 0
  have hcz_1 : w_3.cell? ⟨gb1, 1, none⟩ = some (.bool a0_1) := (blk_cell BK2.out 1).trans rfl
  have hfz_1 := blk_frozen BK2.out 1
  have hcz_2 : w_3.cell? ⟨gb1, 2, none⟩ = some (.bool a0_2) := (blk_cell BK2.out 2).trans rfl
  have hfz_2 := blk_frozen BK2.out 2
  have hcz_3 : w_3.cell? ⟨gb1, 3, none⟩ = some (.bool a0_3) := (blk_cell BK2.out 3).trans rfl
  have hfz_3 := blk_frozen BK2.out 3
  have hcz_4 : w_3.cell? ⟨gb1, 4, none⟩ = some (.bool a0_4) := (blk_cell BK2.out 4).trans rfl
  have hfz_4 := blk_frozen BK2.out 4
  have hcz_5 : w_3.cell? ⟨gb1, 5, none⟩ = some (.int .i64 a0_5) := (blk_cell BK2.out 5).trans rfl
  have hfz_5 := blk_frozen BK2.out 5
  go_wp2_with (fail)
  clear hcz_0 hfz_0 hcz_1 hfz_1 hcz_2 hfz_2 hcz_3 hfz_3 hcz_4 hfz_4 hcz_5 hfz_5
  go_at_call 17
  (with_reducible refine (laws_toController.calls a0_0 a0_1 a0_2 a0_3 a0_4 a0_5 a0_0 a0_1 a0_2 a0_3 a0_4 a0_5 _ HVaC.out).mono ?_)
  rintro e w_5 ⟨rfl, hb⟩
  have HBi := Aside0.mk (below_step (by repeat (first | (with_reducible first | exact Below.refl _ _ | apply below_alloc | apply pw_below_drewN | apply below_drew1) | exact Below.refl _ _)) hb : Below w_3.heap.size w_3 w_5)
  clear hb
  have HBn := Aside0.mk (below_step HB.out HBi.out)
  clear HB
  have HB := HBn
  clear HBn
  have HS6 := Aside0.mk HBi.out.size
  have n0_ := Aside0.mk (blk_below BK2.out HBi.out)
  clear BK2
  have BK2 := n0_
  clear n0_
  clear HBi
  go_wp2_with (fail)
  go_at_call 16
  (with_reducible refine (spec_NumberOf.calls k a0_0 a0_1 a0_2 a0_3 a0_4 a0_5 res_r1 res_r2 _ HFspec.out).mono ?_)
  rintro e w_7 ⟨rfl, hb⟩
  have HBi := Aside0.mk (below_step (by repeat (first | (with_reducible first | exact Below.refl _ _ | apply below_alloc | apply pw_below_drewN | apply below_drew1) | exact Below.refl _ _)) hb : Below w_5.heap.size w_5 w_7)
  clear hb
  have HBn := Aside0.mk (below_step HB.out HBi.out)
  clear HB
  have HB := HBn
  clear HBn
  have HS8 := Aside0.mk HBi.out.size
  have n0_ := Aside0.mk (blk_below BK2.out HBi.out)
  clear BK2
  have BK2 := n0_
  clear n0_
  clear HBi
  have hcz_0 : w_7.cell? ⟨gb1, 0, none⟩ = some (.bool a0_0) := (blk_cell BK2.out 0).trans rfl
  have hfz_0 := blk_frozen BK2.out 0
  have hcz_1 : w_7.cell? ⟨gb1, 1, none⟩ = some (.bool a0_1) := (blk_cell BK2.out 1).trans rfl
  have hfz_1 := blk_frozen BK2.out 1
  have hcz_2 : w_7.cell? ⟨gb1, 2, none⟩ = some (.bool a0_2) := (blk_cell BK2.out 2).trans rfl
  have hfz_2 := blk_frozen BK2.out 2
  have hcz_3 : w_7.cell? ⟨gb1, 3, none⟩ = some (.bool a0_3) := (blk_cell BK2.out 3).trans rfl
  have hfz_3 := blk_frozen BK2.out 3
  have hcz_4 : w_7.cell? ⟨gb1, 4, none⟩ = some (.bool a0_4) := (blk_cell BK2.out 4).trans rfl
  have hfz_4 := blk_frozen BK2.out 4
  have hcz_5 : w_7.cell? ⟨gb1, 5, none⟩ = some (.int .i64 a0_5) := (blk_cell BK2.out 5).trans rfl
  have hfz_5 := blk_frozen BK2.out 5
  go_wp2_with (fail)
  clear hcz_0 hfz_0 hcz_1 hfz_1 hcz_2 hfz_2 hcz_3 hfz_3 hcz_4 hfz_4 hcz_5 hfz_5
  go_at_call 17
  (with_reducible refine (laws_toController.calls a0_0 a0_1 a0_2 a0_3 a0_4 a0_5 a0_0 a0_1 a0_2 a0_3 a0_4 a0_5 _ HVaC.out).mono ?_)
  rintro e w_9 ⟨rfl, hb⟩
  have HBi := Aside0.mk (below_step (by repeat (first | (with_reducible first | exact Below.refl _ _ | apply below_alloc | apply pw_below_drewN | apply below_drew1) | exact Below.refl _ _)) hb : Below w_7.heap.size w_7 w_9)
  clear hb
  have HBn := Aside0.mk (below_step HB.out HBi.out)
  clear HB
  have HB := HBn
  clear HBn
  have HS10 := Aside0.mk HBi.out.size
  have n0_ := Aside0.mk (blk_below BK2.out HBi.out)
  clear BK2
  have BK2 := n0_
  clear n0_
  clear HBi
  go_wp2_with (fail)
  go_at_call 18
  (with_reducible refine (impl_NumberOf.calls a0_0 a0_1 a0_2 a0_3 a0_4 a0_5 res_r1 res_r2 _ HFimpl.out).mono ?_)
  rintro e w_11 ⟨rfl, hb⟩
  have HBi := Aside0.mk (below_step (by repeat (first | (with_reducible first | exact Below.refl _ _ | apply below_alloc | apply pw_below_drewN | apply below_drew1) | exact Below.refl _ _)) hb : Below w_9.heap.size w_9 w_11)
  clear hb
  have HBn := Aside0.mk (below_step HB.out HBi.out)
  clear HB
  have HB := HBn
  clear HBn
  have HS12 := Aside0.mk HBi.out.size
  have n0_ := Aside0.mk (blk_below BK2.out HBi.out)
  clear BK2
  have BK2 := n0_
  clear n0_
  clear HBi
  go_wp2
  go_ret
  exact ⟨by first | rfl | (simp; done) | (simp [*]; done), by repeat (first | (with_reducible first | exact HB.out | apply below_alloc | apply pw_below_drewN | apply below_drew1) | exact HB.out)⟩

/-- What is to be told of the answers, for the law to tell true. -/
structure laws_FnExactNumberOf.Facts (k : Nat) (a0_0 : Bool) (a0_1 : Bool) (a0_2 : Bool) (a0_3 : Bool) (a0_4 : Bool) (a0_5 : Int) (res_r1 : Int) (res_r2 : Int) : Prop where
  hvac : laws_toController.f a0_0 a0_1 a0_2 a0_3 a0_4 a0_5 = some (a0_0, a0_1, a0_2, a0_3, a0_4, a0_5)
  hfspec : spec_NumberOf.f k a0_0 a0_1 a0_2 a0_3 a0_4 a0_5 = some (res_r1, res_r2)
  hfimpl : impl_NumberOf.f a0_0 a0_1 a0_2 a0_3 a0_4 a0_5 = some (res_r1, res_r2)
/-- The statement over numbers and lists. -/
def laws_FnExactNumberOf.Pure : Prop := ∀ (a0_0 : Bool) (a0_1 : Bool) (a0_2 : Bool) (a0_3 : Bool) (a0_4 : Bool) (a0_5 : Int), (Lit.int .i64 a0_5).wf = true → 
    (∃ k res_r1 res_r2, laws_FnExactNumberOf.Facts k a0_0 a0_1 a0_2 a0_3 a0_4 a0_5 res_r1 res_r2)

theorem laws_FnExactNumberOf.walk (P_ : laws_FnExactNumberOf.Pure) (a0_0 : Bool) (a0_1 : Bool) (a0_2 : Bool) (a0_3 : Bool) (a0_4 : Bool) (a0_5 : Int) (w : World) (wa0_5 : (Lit.int .i64 a0_5).wf = true) :
    Calls Try.prog 4 #[.agg #[.bool a0_0, .bool a0_1, .bool a0_2, .bool a0_3, .bool a0_4, .int .i64 a0_5]] w fun e w' => e = .returned (.bool true) ∧ Below w.heap.size w w' := by
  rcases P_ a0_0 a0_1 a0_2 a0_3 a0_4 a0_5 wa0_5 with ⟨k, res_r1, res_r2, F⟩
  · exact laws_FnExactNumberOf.true_ k a0_0 a0_1 a0_2 a0_3 a0_4 a0_5 w res_r1 res_r2 F.hvac F.hfspec F.hfimpl

end Go.Proofs.Ythieppjmjgijfaa.PFnExactNumberOf
