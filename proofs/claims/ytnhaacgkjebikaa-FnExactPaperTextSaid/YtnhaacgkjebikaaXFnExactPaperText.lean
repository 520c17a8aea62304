/- FnExactPaperText: the parts of the law that look behind a row's length, and the law's walk: with the answers that the functions give, it tells true. -/
import Derived.Test.YtnhaacgkjebikaaQFnExactPaperTextx5
namespace Go.Proofs.Ytnhaacgkjebikaa.PFnExactPaperText
open Go.RowKit Go.Proofs.YtnhaacgkjebikaaW.PrintWords Go.Proofs.YtnhaacgkjebikaaW.PrintLast Go.Proofs.YtnhaacgkjebikaaW.PrintMore
attribute [local go_sem] max2_int min2_int max_two min_two max_three min_three max_four min_four   -- for this text's walks alone
set_option linter.unusedVariables false
set_option linter.unusedSimpArgs false
open Go.Proofs.YtnhaacgkjebikaaX

/-! ### laws_intactLineS, over rows with what lies behind their lengths: function 19 -/
def laws_intactLineS.T2 : Bool × List (List Nat × List Nat) := (true, [([], []), ([0], [0]), ([], []), ([2], [2]), ([1, 3], [1, 3]), ([4], [4]), ([5], [5]), ([5], [5]), ([6, 7, 5], [5, 6, 7]), ([5], [5]), ([5], [5]), ([9, 10, 5], [5, 9, 10]), ([8, 11, 5, 5], [5, 8, 11]), ([5, 12], [5, 12]), ([13, 12, 0, 1, 2, 3, 4, 5, 6, 7, 8, 9, 10, 11, 12, 13], [13])])
def laws_intactLineS.B2 : List Nat := [0, 1, 0, 4, 15, 31, 63, 63, 255, 63, 63, 1599, 4095, 8191, 16383]
theorem laws_intactLineS.tab2 : rtab .any (opsOf Try.f19 2) = laws_intactLineS.T2 := by kernel_rfl
theorem laws_intactLineS.bits2 : waitsOk laws_intactLineS.T2.2 laws_intactLineS.B2 = true := by kernel_rfl
set_option maxHeartbeats 8000000 in
set_option maxRecDepth 100000 in
theorem laws_intactLineSX.calls (k : Nat) (A0 : Option Addr) (c0 : Nat) (l0 : List (S38)) (A1 : Option Addr) (c1 : Nat) (l1 : List (S38)) (n0 : Nat) (rm : Int) (r : Bool) (w : World) (hr0 : Kd.C k38 w A0 l0.length l0) (hc0 : l0.length ≤ c0) (hr1 : Kd.C k38 w A1 l1.length l1) (hc1 : l1.length ≤ c1) (hrm : laws_roomBehind.f (n0 : Int) = some rm) (hj : wrap64 ((n0 : Int) + rm) = (l0.length : Int)) (hl : l1.length = l0.length) (h : laws_eqLineS.f k l0 l1 = some r) :
    Calls Try.prog 19 #[.slice A0 n0 c0, .slice A1 n0 c1] w fun e w' => e = .returned (.bool r) ∧ Below w.heap.size w w' := by
  have HR0 := Aside0.mk hr0
  have HR1 := Aside0.mk hr1
  have HC0 := Aside0.mk hc0
  have HC1 := Aside0.mk hc1
  have HL := Aside0.mk hl
  clear hr0 hr1 hc0 hc1 hl
  have HB := Aside0.mk (Below.refl w.heap.size w)
  obtain ⟨ji5, hji5⟩ : ∃ j_ : Int, j_ = (l0.length : Int) := ⟨_, rfl⟩
  rw [← hji5] at hj
  have HJ := Aside0.mk hji5
  have hji5w : (IntKind.i64.wrap ((n0 : Int) + rm)) = ji5 := (i64_w _).trans hj
  clear hji5
  have A3 := Aside0.mk hrm
  have A10 := Aside0.mk h
  clear hrm h
  go_enter Try.func19, Try.ntmps19
  try go_wp2_with (first | (go_at_call 23; (with_reducible refine (laws_roomBehind.calls (n0 : Int) rm _ A3.out).mono ?_); rintro e w' ⟨rfl, ⟨nd, rfl⟩⟩))
  have n0_ := Aside0.mk (below_drew1 (pw_below_drewN HB.out nd))
  clear HB
  have HB := n0_
  clear n0_
  obtain ⟨i0, hi0, _, hsz0, _⟩ := info_parts info38
  have hcut0 := cut_cap (P := Try.prog) 27 38 .i64 Try.underlying27 hi0 A0 n0 c0 l0.length ji5 HJ.out HC0.out
  have hcut1 := cut_cap (P := Try.prog) 27 38 .i64 Try.underlying27 hi0 A1 n0 c1 l1.length ji5 (HJ.out.trans (by rw [HL.out])) HC1.out
  clear hi0 hsz0
  refine start_ (n := 15) (S := fun w' => True) (ds := []) #[false, false, false, false, false, false, false, false, false, false, false, false, false, false, false] (by kernel_rfl) rfl rfl trivial (fun hHeld => ?_); refine with_tabW laws_intactLineS.tab2 laws_intactLineS.bits2 (fun HT_ HW_ => ?_)
  try generalize (w.drewN nd).drew = w11 at HB hHeld ⊢
  refine pure_ (i := 0) (N := some 12) (v := ?_) (a' := ?_) #[true, false, false, false, false, false, false, false, false, false, false, false, false, false, false] rfl rfl (any_of HT_.out (by kernel_rfl)) (fun _ _ _ h => h) (Or.inl ⟨by rfl, ?_⟩) ?_ ?_
  rotate_left
  · intro w'
    go_simp
    with_reducible rfl
  rotate_left
  · simp only [Act.put, List.setIfInBounds_toArray, List.set_cons_zero, List.set_cons_succ, i64_w, i32_w]
    rfl
  refine pure_ (i := 1) (N := some 13) (v := ?_) (a' := ?_) #[true, true, false, false, false, false, false, false, false, false, false, false, false, false, false] rfl rfl (any_of HT_.out (by kernel_rfl)) (fun _ _ _ h => h) (Or.inl ⟨by rfl, ?_⟩) ?_ ?_
  rotate_left
  · intro w'
    go_simp
    with_reducible rfl
  rotate_left
  · simp only [Act.put, List.setIfInBounds_toArray, List.set_cons_zero, List.set_cons_succ, i64_w, i32_w]
    rfl
  refine pure_ (i := 2) (N := some 14) (v := ?_) (a' := ?_) #[true, true, true, false, false, false, false, false, false, false, false, false, false, false, false] rfl rfl (any_of HT_.out (by kernel_rfl)) (fun _ _ _ h => h) (Or.inl ⟨by rfl, ?_⟩) ?_ ?_
  rotate_left
  · intro w'
    go_simp
    with_reducible rfl
  rotate_left
  · simp only [Act.put, List.setIfInBounds_toArray, List.set_cons_zero, List.set_cons_succ, i64_w, i32_w]
    rfl
  refine pure_ (i := 3) (N := some 15) (v := ?_) (a' := ?_) #[true, true, true, true, false, false, false, false, false, false, false, false, false, false, false] rfl rfl (any_of HT_.out (by kernel_rfl)) (fun _ _ _ h => h) (Or.inl ⟨by rfl, ?_⟩) ?_ ?_
  rotate_left
  · intro w'
    go_simp
    with_reducible rfl
  rotate_left
  · simp only [Act.put, List.setIfInBounds_toArray, List.set_cons_zero, List.set_cons_succ, i64_w, i32_w]
    rfl
  refine pure_ (i := 4) (N := some 16) (v := ?_) (a' := ?_) #[true, true, true, true, true, false, false, false, false, false, false, false, false, false, false] rfl rfl (any_of HT_.out (by kernel_rfl)) (fun _ _ _ h => h) (Or.inl ⟨by rfl, ?_⟩) ?_ ?_
  rotate_left
  · intro w'
    go_simp
    with_reducible rfl
  rotate_left
  · simp only [Act.put, List.setIfInBounds_toArray, List.set_cons_zero, List.set_cons_succ, i64_w, i32_w]
    rfl
  refine pure_ (i := 5) (N := some 17) (v := ?_) (a' := ?_) #[true, true, true, true, true, true, false, false, false, false, false, false, false, false, false] rfl rfl (any_of HT_.out (by kernel_rfl)) (fun _ _ _ h => h) (Or.inl ⟨by rfl, ?_⟩) ?_ ?_
  rotate_left
  · intro w'
    go_simp
    with_reducible rfl
  rotate_left
  · simp only [Act.put, List.setIfInBounds_toArray, List.set_cons_zero, List.set_cons_succ, i64_w, i32_w]
    rfl
  refine pure_ (i := 6) (N := some 18) (v := ?_) (a' := ?_) #[true, true, true, true, true, true, true, false, false, false, false, false, false, false, false] rfl rfl (any_of HT_.out (by kernel_rfl)) (fun _ _ _ h => h) (Or.inl ⟨by rfl, ?_⟩) ?_ ?_
  rotate_left
  · intro w'
    go_simp
    with_reducible rfl
  rotate_left
  · simp only [Act.put, List.setIfInBounds_toArray, List.set_cons_zero, List.set_cons_succ, i64_w, i32_w]
    rfl
  refine pure_ (i := 7) (N := some 19) (v := ?_) (a' := ?_) #[true, true, true, true, true, true, true, true, false, false, false, false, false, false, false] rfl rfl (any_of HT_.out (by kernel_rfl)) (fun _ _ _ h => h) (Or.inl ⟨by rfl, ?_⟩) ?_ ?_
  rotate_left
  · intro w'
    go_simp
    with_reducible rfl
  rotate_left
  · simp only [Act.put, List.setIfInBounds_toArray, List.set_cons_zero, List.set_cons_succ, i64_w, i32_w]
    rfl
  refine pure_ (i := 8) (N := some 20) (v := ?_) (a' := ?_) #[true, true, true, true, true, true, true, true, true, false, false, false, false, false, false] rfl rfl (any_of HT_.out (by kernel_rfl)) (fun _ _ _ h => h) (Or.inl ⟨by rfl, ?_⟩) ?_ ?_
  rotate_left
  · intro w'
    go_simp
    with_reducible rfl
  rotate_left
  · simp only [Act.put, List.setIfInBounds_toArray, List.set_cons_zero, List.set_cons_succ, i64_w, i32_w]
    rfl
  refine pure_ (i := 9) (N := some 21) (v := ?_) (a' := ?_) #[true, true, true, true, true, true, true, true, true, true, false, false, false, false, false] rfl rfl (any_of HT_.out (by kernel_rfl)) (fun _ _ _ h => h) (Or.inl ⟨by rfl, ?_⟩) ?_ ?_
  rotate_left
  · intro w'
    go_simp
    with_reducible rfl
  rotate_left
  · simp only [Act.put, List.setIfInBounds_toArray, List.set_cons_zero, List.set_cons_succ, i64_w, i32_w]
    rfl
  refine pure_ (i := 10) (N := some 22) (v := ?_) (a' := ?_) #[true, true, true, true, true, true, true, true, true, true, true, false, false, false, false] rfl rfl (any_of HT_.out (by kernel_rfl)) (fun _ _ _ h => h) (Or.inl ⟨by rfl, ?_⟩) ?_ ?_
  rotate_left
  · intro w'
    go_simp
    with_reducible rfl
  rotate_left
  · simp only [Act.put, List.setIfInBounds_toArray, List.set_cons_zero, List.set_cons_succ, i64_w, i32_w]
    rfl
  refine pure_ (i := 11) (N := some 23) (v := ?_) (a' := ?_) #[true, true, true, true, true, true, true, true, true, true, true, true, false, false, false] rfl rfl (any_of HT_.out (by kernel_rfl)) (fun _ _ _ h => h) (Or.inl ⟨by rfl, ?_⟩) ?_ ?_
  rotate_left
  · intro w'
    go_simp
    with_reducible rfl
  rotate_left
  · simp only [Act.put, List.setIfInBounds_toArray, List.set_cons_zero, List.set_cons_succ, i64_w, i32_w]
    rfl
  refine one_ (i := 12) (N := some 24) #[true, true, true, true, true, true, true, true, true, true, true, true, true, false, false] rfl rfl (one_of HT_.out (by kernel_rfl)) (by decide) (fun K hK => ?_)
  refine goes_ Try.func27 (by kernel_rfl) rfl #[.slice A0 l0.length c0, .slice A1 l1.length c1] (by rfl) rfl rfl (by (try simp only [List.map_toArray, List.map_cons, List.map_nil]); first | done | rfl | (simp only [List.length_drop, List.length_take]; rfl)) ?_
  with_reducible refine (laws_eqLineS.calls k _ _ l0 _ _ l1 r _ ?side1 ?side2 ?side3 ?side4 A10.out).mono ?_
  (case side1 => repeat (first | exact HR0.out | exact (Kd.C_below HR0.out HB.out) | (with_reducible refine Kd.C_alloc ?_ _) | (with_reducible refine Kd.C_drewN ?_ _) | (with_reducible refine Kd.C_drew ?_)))
  (case side2 => exact HC0.out)
  (case side3 => repeat (first | exact HR1.out | exact (Kd.C_below HR1.out HB.out) | (with_reducible refine Kd.C_alloc ?_ _) | (with_reducible refine Kd.C_drewN ?_ _) | (with_reducible refine Kd.C_drew ?_)))
  (case side4 => exact HC1.out)
  rintro e w14 ⟨rfl, hd⟩
  have hb : Below _ _ w14 := hd
  refine ⟨_, rfl, ?_⟩
  have n0_ := Aside0.mk (below_step (by repeat (first | (with_reducible first | exact HB.out | exact Below.refl _ _ | apply below_alloc | apply pw_below_drewN | apply below_drew1) | exact HB.out)) hb)
  clear HB hb hd
  have HB := n0_
  clear n0_
  refine hK.out _ _ trivial (fun hHeld => ?_)
  clear hK K
  refine norm_ (a' := ?_) ?_ ?_
  rotate_left
  · show Act.put _ (some 24) _ = _
    simp only [Act.put, List.setIfInBounds_toArray, List.set_cons_zero, List.set_cons_succ, i64_w, i32_w]
    rfl
  refine pure_ (i := 13) (N := some 25) (v := ?_) (a' := ?_) #[true, true, true, true, true, true, true, true, true, true, true, true, true, true, false] rfl rfl (any_of HT_.out (by kernel_rfl)) (fun _ _ _ h => h) (Or.inl ⟨by rfl, ?_⟩) ?_ ?_
  rotate_left
  · intro w'
    go_simp
    with_reducible rfl
  rotate_left
  · simp only [Act.put, List.setIfInBounds_toArray, List.set_cons_zero, List.set_cons_succ, i64_w, i32_w]
    rfl
  refine pure_ (i := 14) (N := some 4) (v := ?_) (a' := ?_) #[true, true, true, true, true, true, true, true, true, true, true, true, true, true, true] rfl rfl (any_of HT_.out (by kernel_rfl)) (fun _ _ _ h => h) (Or.inl ⟨by rfl, ?_⟩) ?_ ?_
  rotate_left
  · intro w'
    go_simp
    with_reducible rfl
  rotate_left
  · simp only [Act.put, List.setIfInBounds_toArray, List.set_cons_zero, List.set_cons_succ, i64_w, i32_w]
    rfl
  refine done_ (done_of HT_.out (by kernel_rfl)) ?_
  try go_wp2
  go_ret
  exact ⟨by first | rfl | (simp [errW_none, errW_some] <;> rfl) | (simp [*, errW_none, errW_some] <;> rfl), by repeat (first | (with_reducible first | exact HB.out | apply below_alloc | apply pw_below_drewN | apply below_drew1) | exact HB.out)⟩
/-! ### laws_intactPaper, over the row with what lies behind its length: function 9 -/
set_option maxHeartbeats 8000000 in
set_option maxRecDepth 100000 in
theorem laws_intactPaperX.calls (k : Nat) (a0_0 : ByteArray) (a0_1 : Int) (A0_2 : Option Addr) (c0_2 : Nat) (l0_2 : List (S38)) (A1_2 : Option Addr) (c1_2 : Nat) (l1_2 : List (S38)) (n0 : Nat) (rm : Int) (w : World) (hr0_2 : Kd.C k38 w A0_2 l0_2.length l0_2) (hc0_2 : l0_2.length ≤ c0_2) (hr1_2 : Kd.C k38 w A1_2 l1_2.length l1_2) (hc1_2 : l1_2.length ≤ c1_2) (hrm : laws_roomBehind.f (n0 : Int) = some rm) (hj : wrap64 ((n0 : Int) + rm) = (l0_2.length : Int)) (hl : l1_2.length = l0_2.length) (h : laws_eqLineS.f k l0_2 l1_2 = some true) :
    Calls Try.prog 9 #[.agg #[.string a0_0, .int .i64 a0_1, .slice A0_2 n0 c0_2], .agg #[.string a0_0, .int .i64 a0_1, .slice A1_2 n0 c1_2]] w fun e w' => e = .returned (.bool true) ∧ Below w.heap.size w w' := by
  have hu29 := Try.underlying29
  have HR0_2 := Aside0.mk hr0_2
  have HC0_2 := Aside0.mk hc0_2
  have HR1_2 := Aside0.mk hr1_2
  have HC1_2 := Aside0.mk hc1_2
  clear hr0_2 hc0_2 hr1_2 hc1_2
  have HRM := Aside0.mk hrm
  have HJ := Aside0.mk hj
  have HL := Aside0.mk hl
  have A4 := Aside0.mk h
  clear hrm hj hl h
  have HB := Aside0.mk (Below.refl w.heap.size w)
  have c4b1 : (a0_1 != a0_1) = false := bne_self_eq_false _
  have c4b0 : (a0_1 == a0_1) = true := beq_self_eq_true _
  have c3b1 : (a0_0.toList != a0_0.toList) = false := bne_self_eq_false _
  have c3b0 : (a0_0.toList == a0_0.toList) = true := beq_self_eq_true _
  go_enter Try.func9, Try.ntmps9
  go_wp2_with (first | ((with_reducible refine gate_dst (N := 2) rfl ?_); refine box_event ?hg (N := 2) ?hd (cs := #[.string a0_0, .int .i64 a0_1, .slice A0_2 n0 c0_2]) (t := 29) ?hr ?_; (case hd => rfl); (case hg => rfl); (case hr => first | (go_simp; done) | (go_simp; rfl)); intro gb145 hg w7 hbox hb; have n0_ := Aside0.mk (below_step (by repeat (first | (with_reducible first | exact HB.out | apply below_alloc | apply pw_below_drewN | apply below_drew1) | exact HB.out)) hb); have n1_ := Aside0.mk (hbox); have n2_ := Aside0.mk ((by rw [hg]; exact (below_size (by repeat (first | (with_reducible first | exact HB.out | apply below_alloc | apply pw_below_drewN | apply below_drew1) | exact HB.out))) : w.heap.size ≤ gb145)); have n3_ := Aside0.mk ((by rw [hg]; exact (below_size (by repeat (first | (with_reducible first | exact HB.out | apply below_alloc | apply pw_below_drewN | apply below_drew1) | exact HB.out))) : w.heap.size ≤ gb145)); clear HB; have HB := n0_; have BK145 := n1_; have GW145 := n2_; have GE145 := n3_; clear n0_ n1_ n2_ n3_; clear hb hbox hg) | ((with_reducible refine gate_dst (N := 3) rfl ?_); refine box_event ?hg (N := 3) ?hd (cs := #[.string a0_0, .int .i64 a0_1, .slice A1_2 n0 c1_2]) (t := 29) ?hr ?_; (case hd => rfl); (case hg => rfl); (case hr => first | (go_simp; done) | (go_simp; rfl)); intro gb146 hg w8 hbox hb; have n0_ := Aside0.mk (blk_below (g := gb145) (o := .cells #[.string a0_0, .int .i64 a0_1, .slice A0_2 n0 c0_2] 29 (0, 0)) (by (with_reducible repeat (first | refine blk_drewN ?_ _ | refine blk_drew ?_ | refine blk_alloc ?_ _)); exact BK145.out) hb); have n1_ := Aside0.mk (below_step (by repeat (first | (with_reducible first | exact HB.out | apply below_alloc | apply pw_below_drewN | apply below_drew1 | refine below_set ?_ GE145.out) | exact HB.out)) hb); have n2_ := Aside0.mk (hbox); have n3_ := Aside0.mk ((by rw [hg]; exact (below_size (by repeat (first | (with_reducible first | exact HB.out | apply below_alloc | apply pw_below_drewN | apply below_drew1 | refine below_set ?_ GE145.out) | exact HB.out))) : w.heap.size ≤ gb146)); have n4_ := Aside0.mk ((by rw [hg]; exact (below_size (by repeat (first | (with_reducible first | exact HB.out | apply below_alloc | apply pw_below_drewN | apply below_drew1 | refine below_set ?_ GE145.out) | exact HB.out))) : w.heap.size ≤ gb146)); have n5_ := Aside0.mk ((by rw [hg]; exact Nat.ne_of_lt (blk_lt (g := gb145) (o := .cells #[.string a0_0, .int .i64 a0_1, .slice A0_2 n0 c0_2] 29 (0, 0)) (by (with_reducible repeat (first | refine blk_drewN ?_ _ | refine blk_drew ?_ | refine blk_alloc ?_ _)); exact BK145.out)) : gb145 ≠ gb146)); have n6_ := Aside0.mk ((by rw [hg]; exact Nat.ne_of_gt (blk_lt (g := gb145) (o := .cells #[.string a0_0, .int .i64 a0_1, .slice A0_2 n0 c0_2] 29 (0, 0)) (by (with_reducible repeat (first | refine blk_drewN ?_ _ | refine blk_drew ?_ | refine blk_alloc ?_ _)); exact BK145.out)) : gb146 ≠ gb145)); clear BK145; clear HB; have BK145 := n0_; have HB := n1_; have BK146 := n2_; have GW146 := n3_; have GE146 := n4_; have NB145_146 := n5_; have NB146_145 := n6_; clear n0_ n1_ n2_ n3_ n4_ n5_ n6_; clear hb hbox hg; have hnb9 := NB145_146.out; have hnc9 := NB146_145.out; have hcz10_0 : w8.cell? ⟨gb145, 0, none⟩ = some (.string a0_0) := (blk_cell BK145.out 0).trans rfl; have hcz10_1 : w8.cell? ⟨gb145, 1, none⟩ = some (.int .i64 a0_1) := (blk_cell BK145.out 1).trans rfl; have hcz10_2 : w8.cell? ⟨gb145, 2, none⟩ = some (.slice A0_2 n0 c0_2) := (blk_cell BK145.out 2).trans rfl; have hfz10_0 := blk_frozen BK145.out 0; have hfz10_1 := blk_frozen BK145.out 1; have hfz10_2 := blk_frozen BK145.out 2; have hcz11_0 : w8.cell? ⟨gb146, 0, none⟩ = some (.string a0_0) := (blk_cell BK146.out 0).trans rfl; have hcz11_1 : w8.cell? ⟨gb146, 1, none⟩ = some (.int .i64 a0_1) := (blk_cell BK146.out 1).trans rfl; have hcz11_2 : w8.cell? ⟨gb146, 2, none⟩ = some (.slice A1_2 n0 c1_2) := (blk_cell BK146.out 2).trans rfl; have hfz11_0 := blk_frozen BK146.out 0; have hfz11_1 := blk_frozen BK146.out 1; have hfz11_2 := blk_frozen BK146.out 2) | ((with_reducible refine gate_callee (f := 19) rfl ?_); refine goesL_ (some 19) rfl rfl Try.func19 (by kernel_rfl) rfl #[.slice A0_2 n0 c0_2, .slice A1_2 n0 c1_2] rfl (by (try simp only [List.map_toArray, List.map_cons, List.map_nil]); first | done | rfl | (simp only [List.length_drop, List.length_take]; rfl)) ?_; (with_reducible refine (laws_intactLineSX.calls k _ _ l0_2 _ _ l1_2 n0 rm true _ ?side1 ?side2 ?side3 ?side4 HRM.out HJ.out HL.out A4.out).mono ?_); (case side1 => repeat (first | exact (Kd.C_below HR0_2.out HB.out) | (with_reducible refine Kd.C_alloc ?_ _) | (with_reducible refine Kd.C_drewN ?_ _) | (with_reducible refine Kd.C_drew ?_))); (case side2 => exact HC0_2.out); (case side3 => repeat (first | exact (Kd.C_below HR1_2.out HB.out) | (with_reducible refine Kd.C_alloc ?_ _) | (with_reducible refine Kd.C_drewN ?_ _) | (with_reducible refine Kd.C_drew ?_))); (case side4 => exact HC1_2.out); rintro e w12 ⟨rfl, hb⟩; refine ⟨_, rfl, ?_⟩; have n0_ := Aside0.mk (blk_below (g := gb145) (o := .cells #[.string a0_0, .int .i64 a0_1, .slice A0_2 n0 c0_2] 29 (0, 0)) (by (with_reducible repeat (first | refine blk_drewN ?_ _ | refine blk_drew ?_ | refine blk_alloc ?_ _)); exact BK145.out) hb); have n1_ := Aside0.mk (blk_below (g := gb146) (o := .cells #[.string a0_0, .int .i64 a0_1, .slice A1_2 n0 c1_2] 29 (0, 0)) (by (with_reducible repeat (first | refine blk_drewN ?_ _ | refine blk_drew ?_ | refine blk_alloc ?_ _)); exact BK146.out) hb); have n2_ := Aside0.mk (below_step (by repeat (first | (with_reducible first | exact HB.out | apply below_alloc | apply pw_below_drewN | apply below_drew1 | refine below_set ?_ GE145.out | refine below_set ?_ GE146.out) | exact HB.out)) hb); clear BK145; clear BK146; clear HB; have BK145 := n0_; have BK146 := n1_; have HB := n2_; clear n0_ n1_ n2_; (try clear hb); (try clear hb2); (try clear hk); (try clear hi)))
  go_ret
  exact ⟨by first | rfl | (simp [errW_none, errW_some] <;> rfl) | (simp [*, errW_none, errW_some] <;> rfl), by repeat (first | (with_reducible first | exact HB.out | apply below_alloc | apply pw_below_drewN | apply below_drew1 | refine below_set ?_ GE145.out | refine below_set ?_ GE146.out) | exact HB.out)⟩

/-! ### the law: function 4 -/
set_option maxHeartbeats 8000000 in
set_option maxRecDepth 100000 in
theorem laws_FnExactPaperText.skip1_ (a0_0 : ByteArray) (a0_1 : Int) (A0_2 : Option Addr) (c0_2 : Nat) (l0_2 : List (S46)) (w : World) (hr0_2 : Kd.C k46 w A0_2 l0_2.length l0_2) (hc0_2 : l0_2.length ≤ c0_2) (k : Nat) (t_1 : Int) (hz1_ : laws_szPaper.f k a0_0 a0_1 l0_2 1000000 = some t_1) (hn_ : decide (t_1 < 0) = true) :
    Calls Try.prog 4 #[.agg #[.string a0_0, .int .i64 a0_1, .slice A0_2 l0_2.length c0_2]] w fun e w' => e = .returned (.bool true) ∧ Below w.heap.size w w' := by
  have HR0_2 := Aside0.mk hr0_2
  have HC0_2 := Aside0.mk hc0_2
  clear hr0_2 hc0_2
  have HZ1 := Aside0.mk hz1_
  have HN := Aside0.mk hn_
  clear hz1_ hn_
  have HB := Aside0.mk (Below.refl w.heap.size w)
  go_enter Try.func4, Try.ntmps4
  go_wp2_with (first | ((with_reducible refine gate_dst (N := 1) rfl ?_); refine box_event ?hg (N := 1) ?hd (cs := #[.string a0_0, .int .i64 a0_1, .slice A0_2 l0_2.length c0_2]) (t := 24) ?hr ?_; (case hd => rfl); (case hg => rfl); (case hr => first | (go_simp; done) | (go_simp; rfl)); intro gb1 hg_ w_3 hbox hb; have BK2 := Aside0.mk hbox; have HGgb1 : Aside0 (gb1 < w_3.heap.size) := ⟨blk_lt hbox⟩; have hbA_ := Aside0.mk hb; clear hbox hg_ hb; have hcz_0 : w_3.cell? ⟨gb1, 0, none⟩ = some (.string a0_0) := (blk_cell BK2.out 0).trans rfl; have hfz_0 := blk_frozen BK2.out 0; have hcz_1 : w_3.cell? ⟨gb1, 1, none⟩ = some (.int .i64 a0_1) := (blk_cell BK2.out 1).trans rfl; have hfz_1 := blk_frozen BK2.out 1; have hcz_2 : w_3.cell? ⟨gb1, 2, none⟩ = some (.slice A0_2 l0_2.length c0_2) := (blk_cell BK2.out 2).trans rfl; have hfz_2 := blk_frozen BK2.out 2))
  clear hcz_0 hfz_0 hcz_1 hfz_1 hcz_2 hfz_2
  have hb := hbA_.out
  clear hbA_
  have HBi := Aside0.mk (below_step (by repeat (first | (with_reducible first | exact Below.refl _ _ | apply below_alloc | apply pw_below_drewN | apply below_drew1) | exact Below.refl _ _)) hb : Below w.heap.size w w_3)
  clear hb
  have HBn := Aside0.mk (below_step HB.out HBi.out)
  clear HB
  have HB := HBn
  clear HBn
  have HS4 := Aside0.mk HBi.out.size
  clear HBi
  have HWw_3 := Aside0.mk HB.out.size
  have hczgb1_0 : w_3.cell? ⟨gb1, 0, none⟩ = some (.string a0_0) := (blk_cell BK2.out 0).trans rfl
  have hfzgb1_0 := blk_frozen BK2.out 0
  have hczgb1_1 : w_3.cell? ⟨gb1, 1, none⟩ = some (.int .i64 a0_1) := (blk_cell BK2.out 1).trans rfl
  have hfzgb1_1 := blk_frozen BK2.out 1
  have hczgb1_2 : w_3.cell? ⟨gb1, 2, none⟩ = some (.slice A0_2 l0_2.length c0_2) := (blk_cell BK2.out 2).trans rfl
  have hfzgb1_2 := blk_frozen BK2.out 2
  go_wp2_with (fail)
  clear hczgb1_0 hfzgb1_0 hczgb1_1 hfzgb1_1 hczgb1_2 hfzgb1_2
  go_at_call 5
  (with_reducible refine (laws_szPaper.calls k a0_0 a0_1 _ _ l0_2 1000000 t_1 _ ?side1 ?side2 HZ1.out).mono ?_)
  (case side1 => repeat (first | exact HR0_2.out | exact (Kd.C_below HR0_2.out HB.out) | (with_reducible refine Kd.C_alloc ?_ _) | (with_reducible refine Kd.C_drewN ?_ _) | (with_reducible refine Kd.C_drew ?_)))
  (case side2 => exact HC0_2.out)
  rintro e w_5 ⟨rfl, hb⟩
  have HBi := Aside0.mk (below_step (by repeat (first | (with_reducible first | exact Below.refl _ _ | apply below_alloc | apply pw_below_drewN | apply below_drew1) | exact Below.refl _ _)) hb : Below w_3.heap.size w_3 w_5)
  clear hb
  have HBn := Aside0.mk (below_step HB.out HBi.out)
  clear HB
  have HB := HBn
  clear HBn
  have HS6 := Aside0.mk HBi.out.size
  have n0_ := Aside0.mk (blk_below BK2.out HBi.out)
  clear BK2
  have BK2 := n0_
  clear n0_
  clear HBi
  have HWw_5 := Aside0.mk HB.out.size
  have hn_ := HN.out
  go_wp2
  go_ret
  exact ⟨by first | rfl | (simp; done) | (simp [*]; done), by repeat (first | (with_reducible first | exact HB.out | apply below_alloc | apply pw_below_drewN | apply below_drew1) | exact HB.out)⟩
set_option maxHeartbeats 8000000 in
set_option maxRecDepth 100000 in
theorem laws_FnExactPaperText.true_ (k : Nat) (a0_0 : ByteArray) (a0_1 : Int) (A0_2 : Option Addr) (c0_2 : Nat) (l0_2 : List (S46)) (w : World) (hr0_2 : Kd.C k46 w A0_2 l0_2.length l0_2) (hc0_2 : l0_2.length ≤ c0_2) (xs0_2 ext0_2 extb0_2 : List (S38)) (rm0_2 : Int) (t_1 : Int) (res_r1 : ByteArray) (res_r2 : Int) (hto0_2_ : laws_toLineSX.f k l0_2 false = some ext0_2) (htob0_2_ : laws_toLineSX.f k l0_2 true = some extb0_2) (hxl0_2_ : xs0_2.length = l0_2.length) (hnb0_2_ : extb0_2 = [] → l0_2.length = 0) (hne0_2_ : ¬ (ext0_2 = [])) (hxe0_2_ : xs0_2 = ext0_2.take xs0_2.length) (hxb0_2_ : xs0_2 = extb0_2.take xs0_2.length) (hle0_2_ : xs0_2.length ≤ ext0_2.length) (hlb0_2_ : xs0_2.length ≤ extb0_2.length) (hrm0_2_ : laws_roomBehind.f (xs0_2.length : Int) = some rm0_2) (hj0_2_ : wrap64 ((xs0_2.length : Int) + rm0_2) = (ext0_2.length : Int)) (heqx0_2_ : laws_eqLineS.f k ext0_2 ext0_2 = some true) (hz1_ : laws_szPaper.f k a0_0 a0_1 l0_2 1000000 = some t_1) (hn1_ : decide (t_1 < 0) = false) (hfspec_ : spec_PaperText.f k a0_0 a0_1 xs0_2 = some (res_r1, res_r2)) (hfimpl_ : impl_PaperText.f k a0_0 a0_1 xs0_2 = some (res_r1, res_r2)) :
    Calls Try.prog 4 #[.agg #[.string a0_0, .int .i64 a0_1, .slice A0_2 l0_2.length c0_2]] w fun e w' => e = .returned (.bool true) ∧ Below w.heap.size w w' := by
  have HR0_2 := Aside0.mk hr0_2
  have HC0_2 := Aside0.mk hc0_2
  clear hr0_2 hc0_2
  have HTO0_2 := Aside0.mk hto0_2_
  have HTOB0_2 := Aside0.mk htob0_2_
  have HXL0_2 := Aside0.mk hxl0_2_
  have HNB0_2 := Aside0.mk hnb0_2_
  have HNE0_2 := Aside0.mk hne0_2_
  have HXE0_2 := Aside0.mk hxe0_2_
  have HXB0_2 := Aside0.mk hxb0_2_
  have HLE0_2 := Aside0.mk hle0_2_
  have HLB0_2 := Aside0.mk hlb0_2_
  have HRM0_2 := Aside0.mk hrm0_2_
  have HJ0_2 := Aside0.mk hj0_2_
  have HEQX0_2 := Aside0.mk heqx0_2_
  have HZ1 := Aside0.mk hz1_
  have HN1 := Aside0.mk hn1_
  have HFspec := Aside0.mk hfspec_
  have HFimpl := Aside0.mk hfimpl_
  clear hto0_2_ htob0_2_ hxl0_2_ hnb0_2_ hne0_2_ hxe0_2_ hxb0_2_ hle0_2_ hlb0_2_ hrm0_2_ hj0_2_ heqx0_2_ hz1_ hn1_ hfspec_ hfimpl_
  have HB := Aside0.mk (Below.refl w.heap.size w)
  go_enter Try.func4, Try.ntmps4
  go_wp2_with (first | ((with_reducible refine gate_dst (N := 1) rfl ?_); refine box_event ?hg (N := 1) ?hd (cs := #[.string a0_0, .int .i64 a0_1, .slice A0_2 l0_2.length c0_2]) (t := 24) ?hr ?_; (case hd => rfl); (case hg => rfl); (case hr => first | (go_simp; done) | (go_simp; rfl)); intro gb1 hg_ w_3 hbox hb; have BK2 := Aside0.mk hbox; have HGgb1 : Aside0 (gb1 < w_3.heap.size) := ⟨blk_lt hbox⟩; have hbA_ := Aside0.mk hb; clear hbox hg_ hb; have hcz_0 : w_3.cell? ⟨gb1, 0, none⟩ = some (.string a0_0) := (blk_cell BK2.out 0).trans rfl; have hfz_0 := blk_frozen BK2.out 0; have hcz_1 : w_3.cell? ⟨gb1, 1, none⟩ = some (.int .i64 a0_1) := (blk_cell BK2.out 1).trans rfl; have hfz_1 := blk_frozen BK2.out 1; have hcz_2 : w_3.cell? ⟨gb1, 2, none⟩ = some (.slice A0_2 l0_2.length c0_2) := (blk_cell BK2.out 2).trans rfl; have hfz_2 := blk_frozen BK2.out 2))
  clear hcz_0 hfz_0 hcz_1 hfz_1 hcz_2 hfz_2
  have hb := hbA_.out
  clear hbA_
  have HBi := Aside0.mk (below_step (by repeat (first | (with_reducible first | exact Below.refl _ _ | apply below_alloc | apply pw_below_drewN | apply below_drew1) | exact Below.refl _ _)) hb : Below w.heap.size w w_3)
  clear hb
  have HBn := Aside0.mk (below_step HB.out HBi.out)
  clear HB
  have HB := HBn
  clear HBn
  have HS4 := Aside0.mk HBi.out.size
  clear HBi
  have HWw_3 := Aside0.mk HB.out.size
  have hczgb1_0 : w_3.cell? ⟨gb1, 0, none⟩ = some (.string a0_0) := (blk_cell BK2.out 0).trans rfl
  have hfzgb1_0 := blk_frozen BK2.out 0
  have hczgb1_1 : w_3.cell? ⟨gb1, 1, none⟩ = some (.int .i64 a0_1) := (blk_cell BK2.out 1).trans rfl
  have hfzgb1_1 := blk_frozen BK2.out 1
  have hczgb1_2 : w_3.cell? ⟨gb1, 2, none⟩ = some (.slice A0_2 l0_2.length c0_2) := (blk_cell BK2.out 2).trans rfl
  have hfzgb1_2 := blk_frozen BK2.out 2
  go_wp2_with (fail)
  clear hczgb1_0 hfzgb1_0 hczgb1_1 hfzgb1_1 hczgb1_2 hfzgb1_2
  go_at_call 5
  (with_reducible refine (laws_szPaper.calls k a0_0 a0_1 _ _ l0_2 1000000 t_1 _ ?side1 ?side2 HZ1.out).mono ?_)
  (case side1 => repeat (first | exact HR0_2.out | exact (Kd.C_below HR0_2.out HB.out) | (with_reducible refine Kd.C_alloc ?_ _) | (with_reducible refine Kd.C_drewN ?_ _) | (with_reducible refine Kd.C_drew ?_)))
  (case side2 => exact HC0_2.out)
  rintro e w_5 ⟨rfl, hb⟩
  have HBi := Aside0.mk (below_step (by repeat (first | (with_reducible first | exact Below.refl _ _ | apply below_alloc | apply pw_below_drewN | apply below_drew1) | exact Below.refl _ _)) hb : Below w_3.heap.size w_3 w_5)
  clear hb
  have HBn := Aside0.mk (below_step HB.out HBi.out)
  clear HB
  have HB := HBn
  clear HBn
  have HS6 := Aside0.mk HBi.out.size
  have n0_ := Aside0.mk (blk_below BK2.out HBi.out)
  clear BK2
  have BK2 := n0_
  clear n0_
  clear HBi
  have HWw_5 := Aside0.mk HB.out.size
  have hn_ := HN1.out
  have hczgb1_0 : w_5.cell? ⟨gb1, 0, none⟩ = some (.string a0_0) := (blk_cell BK2.out 0).trans rfl
  have hfzgb1_0 := blk_frozen BK2.out 0
  have hczgb1_1 : w_5.cell? ⟨gb1, 1, none⟩ = some (.int .i64 a0_1) := (blk_cell BK2.out 1).trans rfl
  have hfzgb1_1 := blk_frozen BK2.out 1
  have hczgb1_2 : w_5.cell? ⟨gb1, 2, none⟩ = some (.slice A0_2 l0_2.length c0_2) := (blk_cell BK2.out 2).trans rfl
  have hfzgb1_2 := blk_frozen BK2.out 2
  go_wp2_with (fail)
  clear hczgb1_0 hfzgb1_0 hczgb1_1 hfzgb1_1 hczgb1_2 hfzgb1_2
  clear hn_
  have hczgb1_0 : w_5.cell? ⟨gb1, 0, none⟩ = some (.string a0_0) := (blk_cell BK2.out 0).trans rfl
  have hfzgb1_0 := blk_frozen BK2.out 0
  have hczgb1_1 : w_5.cell? ⟨gb1, 1, none⟩ = some (.int .i64 a0_1) := (blk_cell BK2.out 1).trans rfl
  have hfzgb1_1 := blk_frozen BK2.out 1
  have hczgb1_2 : w_5.cell? ⟨gb1, 2, none⟩ = some (.slice A0_2 l0_2.length c0_2) := (blk_cell BK2.out 2).trans rfl
  have hfzgb1_2 := blk_frozen BK2.out 2
  go_wp2_with (fail)
  clear hczgb1_0 hfzgb1_0 hczgb1_1 hfzgb1_1 hczgb1_2 hfzgb1_2
  go_at_call 7
  (with_reducible refine (laws_toPaperX.calls k a0_0 a0_1 _ _ l0_2 false a0_0 a0_1 ext0_2 _ ?side1 ?side2 (by unfold laws_toPaperX.f; rw [HTO0_2.out, Option.bind_some])).mono ?_)
  (case side1 => repeat (first | exact HR0_2.out | exact (Kd.C_below HR0_2.out HB.out) | (with_reducible refine Kd.C_alloc ?_ _) | (with_reducible refine Kd.C_drewN ?_ _) | (with_reducible refine Kd.C_drew ?_)))
  (case side2 => exact HC0_2.out)
  rintro e w_7 ⟨Ao9, no10, co11, rfl, hn, ho, hb⟩
  obtain rfl : no10 = xs0_2.length := hn.full HXL0_2.out HNE0_2.out
  clear hn
  have ho1 := Aside0.mk (Kd.R_lower (R_span ho) (Nat.le_trans HB.out.size (by repeat (first | (with_reducible first | exact Below.refl _ _ | apply below_alloc | apply pw_below_drewN | apply below_drew1) | exact Below.refl _ _) : Below w_5.heap.size w_5 _).size))
  clear ho
  have HBi := Aside0.mk (below_step (by repeat (first | (with_reducible first | exact Below.refl _ _ | apply below_alloc | apply pw_below_drewN | apply below_drew1) | exact Below.refl _ _)) hb : Below w_5.heap.size w_5 w_7)
  clear hb
  have HBn := Aside0.mk (below_step HB.out HBi.out)
  clear HB
  have HB := HBn
  clear HBn
  have HS12 := Aside0.mk HBi.out.size
  have n0_ := Aside0.mk (blk_below BK2.out HBi.out)
  clear BK2
  have BK2 := n0_
  clear n0_
  clear HBi
  have HWw_7 := Aside0.mk HB.out.size
  have HO8 := Aside0.mk (Kd.R_mono (ok' := fun k_ => w_5.heap.size ≤ k_ ∧ k_ < w_7.heap.size) ho1.out (fun k_ hk_ => hk_))
  clear ho1
  have hczgb1_0 : w_7.cell? ⟨gb1, 0, none⟩ = some (.string a0_0) := (blk_cell BK2.out 0).trans rfl
  have hfzgb1_0 := blk_frozen BK2.out 0
  have hczgb1_1 : w_7.cell? ⟨gb1, 1, none⟩ = some (.int .i64 a0_1) := (blk_cell BK2.out 1).trans rfl
  have hfzgb1_1 := blk_frozen BK2.out 1
  have hczgb1_2 : w_7.cell? ⟨gb1, 2, none⟩ = some (.slice A0_2 l0_2.length c0_2) := (blk_cell BK2.out 2).trans rfl
  have hfzgb1_2 := blk_frozen BK2.out 2
  go_wp2_with (fail)
  clear hczgb1_0 hfzgb1_0 hczgb1_1 hfzgb1_1 hczgb1_2 hfzgb1_2
  go_at_call 10
  (with_reducible refine (spec_PaperText.calls k a0_0 a0_1 _ _ xs0_2 res_r1 res_r2 _ ?side1 ?side2 HFspec.out).mono ?_)
  (case side1 => repeat (first | exact C_ext (Kd.R_reads' HO8.out).2.2 HXE0_2.out HLE0_2.out | (with_reducible refine Kd.C_alloc ?_ _) | (with_reducible refine Kd.C_drewN ?_ _) | (with_reducible refine Kd.C_drew ?_)))
  (case side2 => exact Nat.le_trans HLE0_2.out (Kd.R_reads' HO8.out).2.1)
  rintro e w_13 ⟨rfl, hb⟩
  have HBi := Aside0.mk (below_step (by repeat (first | (with_reducible first | exact Below.refl _ _ | apply below_alloc | apply pw_below_drewN | apply below_drew1) | exact Below.refl _ _)) hb : Below w_7.heap.size w_7 w_13)
  clear hb
  have HBn := Aside0.mk (below_step HB.out HBi.out)
  clear HB
  have HB := HBn
  clear HBn
  have HS14 := Aside0.mk HBi.out.size
  have n0_ := Aside0.mk (blk_below BK2.out HBi.out)
  clear BK2
  have BK2 := n0_
  clear n0_
  have n0_ := Aside0.mk (Kd.R_below HO8.out HBi.out)
  clear HO8
  have HO8 := n0_
  clear n0_
  clear HBi
  have HWw_13 := Aside0.mk HB.out.size
  clear HO8
  have hczgb1_0 : w_13.cell? ⟨gb1, 0, none⟩ = some (.string a0_0) := (blk_cell BK2.out 0).trans rfl
  have hfzgb1_0 := blk_frozen BK2.out 0
  have hczgb1_1 : w_13.cell? ⟨gb1, 1, none⟩ = some (.int .i64 a0_1) := (blk_cell BK2.out 1).trans rfl
  have hfzgb1_1 := blk_frozen BK2.out 1
  have hczgb1_2 : w_13.cell? ⟨gb1, 2, none⟩ = some (.slice A0_2 l0_2.length c0_2) := (blk_cell BK2.out 2).trans rfl
  have hfzgb1_2 := blk_frozen BK2.out 2
  go_wp2_with (fail)
  clear hczgb1_0 hfzgb1_0 hczgb1_1 hfzgb1_1 hczgb1_2 hfzgb1_2
  go_at_call 7
  (with_reducible refine (laws_toPaperX.calls k a0_0 a0_1 _ _ l0_2 false a0_0 a0_1 ext0_2 _ ?side1 ?side2 (by unfold laws_toPaperX.f; rw [HTO0_2.out, Option.bind_some])).mono ?_)
  (case side1 => repeat (first | exact HR0_2.out | exact (Kd.C_below HR0_2.out HB.out) | (with_reducible refine Kd.C_alloc ?_ _) | (with_reducible refine Kd.C_drewN ?_ _) | (with_reducible refine Kd.C_drew ?_)))
  (case side2 => exact HC0_2.out)
  rintro e w_15 ⟨Ao17, no18, co19, rfl, hn, ho, hb⟩
  obtain rfl : no18 = xs0_2.length := hn.full HXL0_2.out HNE0_2.out
  clear hn
  have ho1 := Aside0.mk (Kd.R_lower (R_span ho) (Nat.le_trans HB.out.size (by repeat (first | (with_reducible first | exact Below.refl _ _ | apply below_alloc | apply pw_below_drewN | apply below_drew1) | exact Below.refl _ _) : Below w_13.heap.size w_13 _).size))
  clear ho
  have HBi := Aside0.mk (below_step (by repeat (first | (with_reducible first | exact Below.refl _ _ | apply below_alloc | apply pw_below_drewN | apply below_drew1) | exact Below.refl _ _)) hb : Below w_13.heap.size w_13 w_15)
  clear hb
  have HBn := Aside0.mk (below_step HB.out HBi.out)
  clear HB
  have HB := HBn
  clear HBn
  have HS20 := Aside0.mk HBi.out.size
  have n0_ := Aside0.mk (blk_below BK2.out HBi.out)
  clear BK2
  have BK2 := n0_
  clear n0_
  clear HBi
  have HWw_15 := Aside0.mk HB.out.size
  have HO16 := Aside0.mk (Kd.R_mono (ok' := fun k_ => w_13.heap.size ≤ k_ ∧ k_ < w_15.heap.size) ho1.out (fun k_ hk_ => hk_))
  clear ho1
  go_wp2_with (first | ((with_reducible refine gate_dst (N := 6) rfl ?_); refine box_event ?hg (N := 6) ?hd (cs := #[.string (⟨#[]⟩ : ByteArray), .int .i64 0, .slice none 0 0]) (t := 29) ?hr ?_; (case hd => rfl); (case hg => rfl); (case hr => first | (go_simp; done) | (go_simp; rfl)); intro gb21 hg_ w_23 hbox hb; have BK22 := Aside0.mk hbox; have HGgb21 : Aside0 (gb21 < w_23.heap.size) := ⟨blk_lt hbox⟩; have HLgb21 : Aside0 (w_15.heap.size ≤ gb21) := ⟨by rw [hg_]; exact Nat.le_refl _⟩; have hbA_ := Aside0.mk hb; have hbB_ := Aside0.mk (below_step (by repeat (first | (with_reducible first | exact Below.refl _ _ | apply below_alloc | apply pw_below_drewN | apply below_drew1) | exact Below.refl _ _)) hb : Below w_15.heap.size w_15 w_23); clear hbox hg_ hb; have hczgb21_0 : w_23.cell? ⟨gb21, 0, none⟩ = some (.string (⟨#[]⟩ : ByteArray)) := (blk_cell BK22.out 0).trans rfl; have hfzgb21_0 := blk_frozen BK22.out 0; have hczgb21_1 : w_23.cell? ⟨gb21, 1, none⟩ = some (.int .i64 0) := (blk_cell BK22.out 1).trans rfl; have hfzgb21_1 := blk_frozen BK22.out 1; have hczgb21_2 : w_23.cell? ⟨gb21, 2, none⟩ = some (.slice none 0 0) := (blk_cell BK22.out 2).trans rfl; have hfzgb21_2 := blk_frozen BK22.out 2; have hczgb1_0 : w_23.cell? ⟨gb1, 0, none⟩ = some (.string a0_0) := (blk_cell (blk_below BK2.out hbB_.out) 0).trans rfl; have hfzgb1_0 := blk_frozen (blk_below BK2.out hbB_.out) 0; have hczgb1_1 : w_23.cell? ⟨gb1, 1, none⟩ = some (.int .i64 a0_1) := (blk_cell (blk_below BK2.out hbB_.out) 1).trans rfl; have hfzgb1_1 := blk_frozen (blk_below BK2.out hbB_.out) 1; have hczgb1_2 : w_23.cell? ⟨gb1, 2, none⟩ = some (.slice A0_2 l0_2.length c0_2) := (blk_cell (blk_below BK2.out hbB_.out) 2).trans rfl; have hfzgb1_2 := blk_frozen (blk_below BK2.out hbB_.out) 2; have hnegb1 : gb1 ≠ gb21 := Nat.ne_of_lt (Nat.lt_of_lt_of_le (blk_lt BK2.out) HLgb21.out); have hnfgb1 := hnegb1.symm))
  clear hczgb21_0 hfzgb21_0 hczgb21_1 hfzgb21_1 hczgb21_2 hfzgb21_2 hczgb1_0 hfzgb1_0 hczgb1_1 hfzgb1_1 hczgb1_2 hfzgb1_2 hnegb1 hnfgb1
  have hb := hbA_.out
  clear hbA_ hbB_
  have HBi := Aside0.mk (below_step (by repeat (first | (with_reducible first | exact Below.refl _ _ | apply below_alloc | apply pw_below_drewN | apply below_drew1) | exact Below.refl _ _)) hb : Below w_15.heap.size w_15 w_23)
  clear hb
  have HBn := Aside0.mk (below_step HB.out HBi.out)
  clear HB
  have HB := HBn
  clear HBn
  have HS25 := Aside0.mk HBi.out.size
  have n0_ := Aside0.mk (blk_below BK2.out HBi.out)
  clear BK2
  have BK2 := n0_
  clear n0_
  have n0_ := Aside0.mk (Kd.R_below HO16.out HBi.out)
  clear HO16
  have HO16 := n0_
  clear n0_
  clear HBi
  have HWw_23 := Aside0.mk HB.out.size
  generalize hq_ : World.setCell (World.setCell (World.setCell w_23 ⟨gb21, 0, none⟩ (.string a0_0)) ⟨gb21, 1, none⟩ (.int .i64 a0_1)) ⟨gb21, 2, none⟩ (.slice Ao17 xs0_2.length co19) = w_26
  have hk1 : Aside0 (Kept w_23 w_26 (fun k_ => k_ = gb21)) := ⟨by rw [← hq_]; exact Kept.then_ (Kept.then_ (kept_set w_23 gb21 0 _) (kept_set (World.setCell w_23 ⟨gb21, 0, none⟩ (.string a0_0)) gb21 1 _) (fun _ h_ => .inl h_)) (kept_set (World.setCell (World.setCell w_23 ⟨gb21, 0, none⟩ (.string a0_0)) ⟨gb21, 1, none⟩ (.int .i64 a0_1)) gb21 2 _) (fun _ h_ => .inl h_)⟩
  have hz_ : w.heap.size ≤ w_15.heap.size := HWw_15.out
  have n0_ : Aside0 (Below w.heap.size w w_26) := ⟨by rw [← hq_]; exact (below_set (below_set (below_set HB.out (Nat.le_trans hz_ HLgb21.out)) (Nat.le_trans hz_ HLgb21.out)) (Nat.le_trans hz_ HLgb21.out))⟩
  clear HB hz_
  have HB := n0_
  clear n0_
  have n0_ : Aside0 (w_26.heap[gb21]? = some (.cells #[.string a0_0, .int .i64 a0_1, .slice Ao17 xs0_2.length co19] 29 (0, 0))) := ⟨by rw [← hq_]; exact (blk_put (cs := #[.string a0_0, .int .i64 a0_1, .slice none 0 0]) (blk_put (cs := #[.string a0_0, .int .i64 0, .slice none 0 0]) (blk_put (cs := #[.string (⟨#[]⟩ : ByteArray), .int .i64 0, .slice none 0 0]) BK22.out 0 _ rfl) 1 _ rfl) 2 _ rfl)⟩
  clear BK22 hq_
  have BK22 := n0_
  clear n0_
  have HS27 := Aside0.mk hk1.out.1
  have n0_ := Aside0.mk ((hk1.out.2 gb1 (blk_lt BK2.out) (fun h_ => by have sHGgb1 := HGgb1.out; have sHS4 := HS4.out; have sHS6 := HS6.out; have sHS12 := HS12.out; have sHS14 := HS14.out; have sHS20 := HS20.out; have sHGgb21 := HGgb21.out; have sHLgb21 := HLgb21.out; have sHS25 := HS25.out; have sHS27 := HS27.out; omega)).trans BK2.out)
  clear BK2
  have BK2 := n0_
  clear n0_
  have n0_ := Aside0.mk (Kd.R_kept HO16.out hk1.out (fun k_ (h1_ : w_13.heap.size ≤ k_ ∧ k_ < w_15.heap.size) (h2_ : k_ = gb21) => by have sHGgb1 := HGgb1.out; have sHS4 := HS4.out; have sHS6 := HS6.out; have sHS12 := HS12.out; have sHS14 := HS14.out; have sHS20 := HS20.out; have sHGgb21 := HGgb21.out; have sHLgb21 := HLgb21.out; have sHS25 := HS25.out; have sHS27 := HS27.out; omega))
  clear HO16
  have HO16 := n0_
  clear n0_
  clear hk1
  have HWw_26 := Aside0.mk HB.out.size
  have hczgb1_0 : w_26.cell? ⟨gb1, 0, none⟩ = some (.string a0_0) := (blk_cell BK2.out 0).trans rfl
  have hfzgb1_0 := blk_frozen BK2.out 0
  have hczgb1_1 : w_26.cell? ⟨gb1, 1, none⟩ = some (.int .i64 a0_1) := (blk_cell BK2.out 1).trans rfl
  have hfzgb1_1 := blk_frozen BK2.out 1
  have hczgb1_2 : w_26.cell? ⟨gb1, 2, none⟩ = some (.slice A0_2 l0_2.length c0_2) := (blk_cell BK2.out 2).trans rfl
  have hfzgb1_2 := blk_frozen BK2.out 2
  have hczgb21_0 : w_26.cell? ⟨gb21, 0, none⟩ = some (.string a0_0) := (blk_cell BK22.out 0).trans rfl
  have hfzgb21_0 := blk_frozen BK22.out 0
  have hczgb21_1 : w_26.cell? ⟨gb21, 1, none⟩ = some (.int .i64 a0_1) := (blk_cell BK22.out 1).trans rfl
  have hfzgb21_1 := blk_frozen BK22.out 1
  have hczgb21_2 : w_26.cell? ⟨gb21, 2, none⟩ = some (.slice Ao17 xs0_2.length co19) := (blk_cell BK22.out 2).trans rfl
  have hfzgb21_2 := blk_frozen BK22.out 2
  go_wp2_with (fail)
  clear hczgb1_0 hfzgb1_0 hczgb1_1 hfzgb1_1 hczgb1_2 hfzgb1_2 hczgb21_0 hfzgb21_0 hczgb21_1 hfzgb21_1 hczgb21_2 hfzgb21_2
  go_at_call 11
  (with_reducible refine (impl_PaperText.calls k a0_0 a0_1 _ _ xs0_2 res_r1 res_r2 _ ?side1 ?side2 HFimpl.out).mono ?_)
  (case side1 => repeat (first | exact C_ext (Kd.R_reads' HO16.out).2.2 HXE0_2.out HLE0_2.out | (with_reducible refine Kd.C_alloc ?_ _) | (with_reducible refine Kd.C_drewN ?_ _) | (with_reducible refine Kd.C_drew ?_)))
  (case side2 => exact Nat.le_trans HLE0_2.out (Kd.R_reads' HO16.out).2.1)
  rintro e w_28 ⟨rfl, hb⟩
  have HBi := Aside0.mk (below_step (by repeat (first | (with_reducible first | exact Below.refl _ _ | apply below_alloc | apply pw_below_drewN | apply below_drew1) | exact Below.refl _ _)) hb : Below w_26.heap.size w_26 w_28)
  clear hb
  have HBn := Aside0.mk (below_step HB.out HBi.out)
  clear HB
  have HB := HBn
  clear HBn
  have HS29 := Aside0.mk HBi.out.size
  have n0_ := Aside0.mk (blk_below BK2.out HBi.out)
  clear BK2
  have BK2 := n0_
  clear n0_
  have n0_ := Aside0.mk (Kd.R_below HO16.out HBi.out)
  clear HO16
  have HO16 := n0_
  clear n0_
  have n0_ := Aside0.mk (blk_below BK22.out HBi.out)
  clear BK22
  have BK22 := n0_
  clear n0_
  clear HBi
  have HWw_28 := Aside0.mk HB.out.size
  have hczgb1_0 : w_28.cell? ⟨gb1, 0, none⟩ = some (.string a0_0) := (blk_cell BK2.out 0).trans rfl
  have hfzgb1_0 := blk_frozen BK2.out 0
  have hczgb1_1 : w_28.cell? ⟨gb1, 1, none⟩ = some (.int .i64 a0_1) := (blk_cell BK2.out 1).trans rfl
  have hfzgb1_1 := blk_frozen BK2.out 1
  have hczgb1_2 : w_28.cell? ⟨gb1, 2, none⟩ = some (.slice A0_2 l0_2.length c0_2) := (blk_cell BK2.out 2).trans rfl
  have hfzgb1_2 := blk_frozen BK2.out 2
  have hczgb21_0 : w_28.cell? ⟨gb21, 0, none⟩ = some (.string a0_0) := (blk_cell BK22.out 0).trans rfl
  have hfzgb21_0 := blk_frozen BK22.out 0
  have hczgb21_1 : w_28.cell? ⟨gb21, 1, none⟩ = some (.int .i64 a0_1) := (blk_cell BK22.out 1).trans rfl
  have hfzgb21_1 := blk_frozen BK22.out 1
  have hczgb21_2 : w_28.cell? ⟨gb21, 2, none⟩ = some (.slice Ao17 xs0_2.length co19) := (blk_cell BK22.out 2).trans rfl
  have hfzgb21_2 := blk_frozen BK22.out 2
  go_wp2_with (fail)
  clear hczgb1_0 hfzgb1_0 hczgb1_1 hfzgb1_1 hczgb1_2 hfzgb1_2 hczgb21_0 hfzgb21_0 hczgb21_1 hfzgb21_1 hczgb21_2 hfzgb21_2
  refine start_ (n := 5) (S := fun w' => w'.cell? ⟨gb1, 0, none⟩ = some (.string a0_0) ∧ w'.cell? ⟨gb1, 1, none⟩ = some (.int .i64 a0_1) ∧ w'.cell? ⟨gb1, 2, none⟩ = some (.slice A0_2 l0_2.length c0_2) ∧ w'.cell? ⟨gb21, 0, none⟩ = some (.string a0_0) ∧ w'.cell? ⟨gb21, 1, none⟩ = some (.int .i64 a0_1) ∧ w'.cell? ⟨gb21, 2, none⟩ = some (.slice Ao17 xs0_2.length co19)) (ds := []) #[false, false, false, false, false] (by kernel_rfl) rfl rfl ⟨(blk_cell BK2.out 0).trans rfl, (blk_cell BK2.out 1).trans rfl, (blk_cell BK2.out 2).trans rfl, (blk_cell BK22.out 0).trans rfl, (blk_cell BK22.out 1).trans rfl, (blk_cell BK22.out 2).trans rfl⟩ (fun hHeld => ?_)
  generalize hq_ : World.drew _ = w_30 at hHeld ⊢
  have n0_ : Aside0 (Below w.heap.size w w_30) := ⟨by rw [← hq_]; (repeat (first | (with_reducible first | exact HB.out | apply below_alloc | apply pw_below_drewN | apply below_drew1) | exact HB.out))⟩
  clear HB
  have HB := n0_
  clear n0_
  have HS31 : Aside0 (w_28.heap.size ≤ w_30.heap.size) := ⟨by rw [← hq_]; exact Nat.le_refl _⟩
  have n0_ : Aside0 (w_30.heap[gb1]? = some (.cells #[.string a0_0, .int .i64 a0_1, .slice A0_2 l0_2.length c0_2] 24 (0, 0))) := ⟨by rw [← hq_]; (with_reducible repeat (first | refine blk_drewN ?_ _ | refine blk_drew ?_ | refine blk_alloc ?_ _)); exact BK2.out⟩
  clear BK2
  have BK2 := n0_
  clear n0_
  have n0_ : Aside0 (Kd.R k38 38 w_30 w.heap.size (fun k_ => w_13.heap.size ≤ k_ ∧ k_ < w_15.heap.size) (.slice Ao17 ext0_2.length co19) ext0_2) := ⟨by rw [← hq_]; (with_reducible repeat (first | apply Kd.R_alloc | apply Kd.R_drewN | apply Kd.R_drew)); exact HO16.out⟩
  clear HO16
  have HO16 := n0_
  clear n0_
  have n0_ : Aside0 (w_30.heap[gb21]? = some (.cells #[.string a0_0, .int .i64 a0_1, .slice Ao17 xs0_2.length co19] 29 (0, 0))) := ⟨by rw [← hq_]; (with_reducible repeat (first | refine blk_drewN ?_ _ | refine blk_drew ?_ | refine blk_alloc ?_ _)); exact BK22.out⟩
  clear BK22
  have BK22 := n0_
  clear n0_
  clear hq_
  have HWw_30 := Aside0.mk HB.out.size
  refine take_ (i := 0) (N := some 37) (v := ?_) (a' := ?_) #[true, false, false, false, false] rfl rfl (by kernel_rfl) (fun _ _ _ h => h) (Or.inl ⟨by rfl, ?_⟩) hHeld ?_ ?_
  rotate_left
  · rintro w' ⟨s0, s1, s2, s3, s4, s5⟩
    go_simp
    with_reducible rfl
  rotate_left
  · simp only [Act.put, List.setIfInBounds_toArray, List.set_cons_zero, List.set_cons_succ, i64_w, i32_w]
    rfl
  refine take_ (i := 1) (N := some 38) (v := ?_) (a' := ?_) #[true, true, false, false, false] rfl rfl (by kernel_rfl) (fun _ _ _ h => h) (Or.inl ⟨by rfl, ?_⟩) hHeld ?_ ?_
  rotate_left
  · rintro w' ⟨s0, s1, s2, s3, s4, s5⟩
    go_simp
    with_reducible rfl
  rotate_left
  · simp only [Act.put, List.setIfInBounds_toArray, List.set_cons_zero, List.set_cons_succ, i64_w, i32_w]
    rfl
  refine one_ (i := 2) (N := some 39) #[true, true, true, false, false] rfl rfl (by kernel_rfl) (by decide) (fun K hK => ?_)
  refine goes_ Try.func7 (by kernel_rfl) rfl #[.agg #[.string a0_0, .int .i64 a0_1, .slice A0_2 l0_2.length c0_2], .bool false] (by rfl) rfl rfl (by (try simp only [List.map_toArray, List.map_cons, List.map_nil]); first | done | rfl | (simp only [List.length_drop, List.length_take]; rfl)) ?_
  (with_reducible refine (laws_toPaperX.calls k a0_0 a0_1 _ _ l0_2 false a0_0 a0_1 ext0_2 _ ?side1 ?side2 (by unfold laws_toPaperX.f; rw [HTO0_2.out, Option.bind_some])).mono ?_)
  (case side1 => repeat (first | exact HR0_2.out | exact (Kd.C_below HR0_2.out HB.out) | (with_reducible refine Kd.C_alloc ?_ _) | (with_reducible refine Kd.C_drewN ?_ _) | (with_reducible refine Kd.C_drew ?_)))
  (case side2 => exact HC0_2.out)
  rintro e w_32 ⟨Ao34, no35, co36, rfl, hn, ho, hb⟩
  obtain rfl : no35 = xs0_2.length := hn.full HXL0_2.out HNE0_2.out
  clear hn
  have ho1 := Aside0.mk (Kd.R_lower (R_span ho) (Nat.le_trans HB.out.size (by repeat (first | (with_reducible first | exact Below.refl _ _ | apply below_alloc | apply pw_below_drewN | apply below_drew1) | exact Below.refl _ _) : Below w_30.heap.size w_30 _).size))
  clear ho
  have HBi := Aside0.mk (below_step (by repeat (first | (with_reducible first | exact Below.refl _ _ | apply below_alloc | apply pw_below_drewN | apply below_drew1) | exact Below.refl _ _)) hb : Below w_30.heap.size w_30 w_32)
  clear hb
  have HBn := Aside0.mk (below_step HB.out HBi.out)
  clear HB
  have HB := HBn
  clear HBn
  have HS37 := Aside0.mk HBi.out.size
  have n0_ := Aside0.mk (blk_below BK2.out HBi.out)
  clear BK2
  have BK2 := n0_
  clear n0_
  have n0_ := Aside0.mk (Kd.R_below HO16.out HBi.out)
  clear HO16
  have HO16 := n0_
  clear n0_
  have n0_ := Aside0.mk (blk_below BK22.out HBi.out)
  clear BK22
  have BK22 := n0_
  clear n0_
  clear HBi
  have HWw_32 := Aside0.mk HB.out.size
  have HO33 := Aside0.mk (Kd.R_mono (ok' := fun k_ => w_30.heap.size ≤ k_ ∧ k_ < w_32.heap.size) ho1.out (fun k_ hk_ => hk_))
  clear ho1
  refine ⟨_, rfl, ?_⟩
  refine hK.out _ _ ⟨(blk_cell BK2.out 0).trans rfl, (blk_cell BK2.out 1).trans rfl, (blk_cell BK2.out 2).trans rfl, (blk_cell BK22.out 0).trans rfl, (blk_cell BK22.out 1).trans rfl, (blk_cell BK22.out 2).trans rfl⟩ (fun hHeld => ?_)
  clear hK K
  refine norm_ (a' := ?_) ?_ ?_
  rotate_left
  · show Act.put _ (some 39) _ = _
    simp only [Act.put, List.setIfInBounds_toArray, List.set_cons_zero, List.set_cons_succ, i64_w, i32_w]
    rfl
  refine one_ (i := 3) (N := some 40) #[true, true, true, true, false] rfl rfl (by kernel_rfl) (by decide) (fun K hK => ?_)
  refine goes_ Try.func9 (by kernel_rfl) rfl #[.agg #[.string a0_0, .int .i64 a0_1, .slice Ao17 xs0_2.length co19], .agg #[.string a0_0, .int .i64 a0_1, .slice Ao34 xs0_2.length co36]] (by rfl) rfl rfl (by (try simp only [List.map_toArray, List.map_cons, List.map_nil]); first | done | rfl | (simp only [List.length_drop, List.length_take]; rfl)) ?_
  (with_reducible refine (laws_intactPaperX.calls k a0_0 a0_1 _ _ ext0_2 _ _ ext0_2 xs0_2.length rm0_2 _ ?side1 ?side2 ?side3 ?side4 HRM0_2.out HJ0_2.out rfl HEQX0_2.out).mono ?_)
  (case side1 => repeat (first | exact (Kd.R_reads' HO16.out).2.2 | (with_reducible refine Kd.C_alloc ?_ _) | (with_reducible refine Kd.C_drewN ?_ _) | (with_reducible refine Kd.C_drew ?_)))
  (case side2 => exact (Kd.R_reads' HO16.out).2.1)
  (case side3 => repeat (first | exact (Kd.R_reads' HO33.out).2.2 | (with_reducible refine Kd.C_alloc ?_ _) | (with_reducible refine Kd.C_drewN ?_ _) | (with_reducible refine Kd.C_drew ?_)))
  (case side4 => exact (Kd.R_reads' HO33.out).2.1)
  rintro e w_38 ⟨rfl, hb⟩
  have HBi := Aside0.mk (below_step (by repeat (first | (with_reducible first | exact Below.refl _ _ | apply below_alloc | apply pw_below_drewN | apply below_drew1) | exact Below.refl _ _)) hb : Below w_32.heap.size w_32 w_38)
  clear hb
  have HBn := Aside0.mk (below_step HB.out HBi.out)
  clear HB
  have HB := HBn
  clear HBn
  have HS39 := Aside0.mk HBi.out.size
  have n0_ := Aside0.mk (blk_below BK2.out HBi.out)
  clear BK2
  have BK2 := n0_
  clear n0_
  have n0_ := Aside0.mk (Kd.R_below HO16.out HBi.out)
  clear HO16
  have HO16 := n0_
  clear n0_
  have n0_ := Aside0.mk (blk_below BK22.out HBi.out)
  clear BK22
  have BK22 := n0_
  clear n0_
  have n0_ := Aside0.mk (Kd.R_below HO33.out HBi.out)
  clear HO33
  have HO33 := n0_
  clear n0_
  clear HBi
  have HWw_38 := Aside0.mk HB.out.size
  refine ⟨_, rfl, ?_⟩
  refine hK.out _ _ ⟨(blk_cell BK2.out 0).trans rfl, (blk_cell BK2.out 1).trans rfl, (blk_cell BK2.out 2).trans rfl, (blk_cell BK22.out 0).trans rfl, (blk_cell BK22.out 1).trans rfl, (blk_cell BK22.out 2).trans rfl⟩ (fun hHeld => ?_)
  clear hK K
  refine norm_ (a' := ?_) ?_ ?_
  rotate_left
  · show Act.put _ (some 40) _ = _
    simp only [Act.put, List.setIfInBounds_toArray, List.set_cons_zero, List.set_cons_succ, i64_w, i32_w]
    rfl
  refine pure_ (i := 4) (N := some 41) (v := ?_) (a' := ?_) #[true, true, true, true, true] rfl rfl (by kernel_rfl) (fun _ _ _ h => h) (Or.inl ⟨by rfl, ?_⟩) ?_ ?_
  rotate_left
  · intro w'
    go_simp
    with_reducible rfl
  rotate_left
  · simp only [Act.put, List.setIfInBounds_toArray, List.set_cons_zero, List.set_cons_succ, i64_w, i32_w]
    rfl
  refine done_ (by kernel_rfl) ?_
  clear HO33
  have hczgb1_0 : w_38.cell? ⟨gb1, 0, none⟩ = some (.string a0_0) := (blk_cell BK2.out 0).trans rfl
  have hfzgb1_0 := blk_frozen BK2.out 0
  have hczgb1_1 : w_38.cell? ⟨gb1, 1, none⟩ = some (.int .i64 a0_1) := (blk_cell BK2.out 1).trans rfl
  have hfzgb1_1 := blk_frozen BK2.out 1
  have hczgb1_2 : w_38.cell? ⟨gb1, 2, none⟩ = some (.slice A0_2 l0_2.length c0_2) := (blk_cell BK2.out 2).trans rfl
  have hfzgb1_2 := blk_frozen BK2.out 2
  have hczgb21_0 : w_38.cell? ⟨gb21, 0, none⟩ = some (.string a0_0) := (blk_cell BK22.out 0).trans rfl
  have hfzgb21_0 := blk_frozen BK22.out 0
  have hczgb21_1 : w_38.cell? ⟨gb21, 1, none⟩ = some (.int .i64 a0_1) := (blk_cell BK22.out 1).trans rfl
  have hfzgb21_1 := blk_frozen BK22.out 1
  have hczgb21_2 : w_38.cell? ⟨gb21, 2, none⟩ = some (.slice Ao17 xs0_2.length co19) := (blk_cell BK22.out 2).trans rfl
  have hfzgb21_2 := blk_frozen BK22.out 2
  go_wp2_with (fail)
  clear hczgb1_0 hfzgb1_0 hczgb1_1 hfzgb1_1 hczgb1_2 hfzgb1_2 hczgb21_0 hfzgb21_0 hczgb21_1 hfzgb21_1 hczgb21_2 hfzgb21_2
  go_at_call 7
  (with_reducible refine (laws_toPaperX.calls k a0_0 a0_1 _ _ l0_2 true a0_0 a0_1 extb0_2 _ ?side1 ?side2 (by unfold laws_toPaperX.f; rw [HTOB0_2.out, Option.bind_some])).mono ?_)
  (case side1 => repeat (first | exact HR0_2.out | exact (Kd.C_below HR0_2.out HB.out) | (with_reducible refine Kd.C_alloc ?_ _) | (with_reducible refine Kd.C_drewN ?_ _) | (with_reducible refine Kd.C_drew ?_)))
  (case side2 => exact HC0_2.out)
  rintro e w_40 ⟨Ao42, no43, co44, rfl, hn, ho, hb⟩
  obtain rfl : no43 = xs0_2.length := hn.bare HXL0_2.out HNB0_2.out
  clear hn
  have ho1 := Aside0.mk (Kd.R_lower (R_span ho) (Nat.le_trans HB.out.size (by repeat (first | (with_reducible first | exact Below.refl _ _ | apply below_alloc | apply pw_below_drewN | apply below_drew1) | exact Below.refl _ _) : Below w_38.heap.size w_38 _).size))
  clear ho
  have HBi := Aside0.mk (below_step (by repeat (first | (with_reducible first | exact Below.refl _ _ | apply below_alloc | apply pw_below_drewN | apply below_drew1) | exact Below.refl _ _)) hb : Below w_38.heap.size w_38 w_40)
  clear hb
  have HBn := Aside0.mk (below_step HB.out HBi.out)
  clear HB
  have HB := HBn
  clear HBn
  have HS45 := Aside0.mk HBi.out.size
  have n0_ := Aside0.mk (blk_below BK2.out HBi.out)
  clear BK2
  have BK2 := n0_
  clear n0_
  have n0_ := Aside0.mk (Kd.R_below HO16.out HBi.out)
  clear HO16
  have HO16 := n0_
  clear n0_
  have n0_ := Aside0.mk (blk_below BK22.out HBi.out)
  clear BK22
  have BK22 := n0_
  clear n0_
  clear HBi
  have HWw_40 := Aside0.mk HB.out.size
  have HO41 := Aside0.mk (Kd.R_mono (ok' := fun k_ => w_38.heap.size ≤ k_ ∧ k_ < w_40.heap.size) ho1.out (fun k_ hk_ => hk_))
  clear ho1
  have hczgb1_0 : w_40.cell? ⟨gb1, 0, none⟩ = some (.string a0_0) := (blk_cell BK2.out 0).trans rfl
  have hfzgb1_0 := blk_frozen BK2.out 0
  have hczgb1_1 : w_40.cell? ⟨gb1, 1, none⟩ = some (.int .i64 a0_1) := (blk_cell BK2.out 1).trans rfl
  have hfzgb1_1 := blk_frozen BK2.out 1
  have hczgb1_2 : w_40.cell? ⟨gb1, 2, none⟩ = some (.slice A0_2 l0_2.length c0_2) := (blk_cell BK2.out 2).trans rfl
  have hfzgb1_2 := blk_frozen BK2.out 2
  have hczgb21_0 : w_40.cell? ⟨gb21, 0, none⟩ = some (.string a0_0) := (blk_cell BK22.out 0).trans rfl
  have hfzgb21_0 := blk_frozen BK22.out 0
  have hczgb21_1 : w_40.cell? ⟨gb21, 1, none⟩ = some (.int .i64 a0_1) := (blk_cell BK22.out 1).trans rfl
  have hfzgb21_1 := blk_frozen BK22.out 1
  have hczgb21_2 : w_40.cell? ⟨gb21, 2, none⟩ = some (.slice Ao17 xs0_2.length co19) := (blk_cell BK22.out 2).trans rfl
  have hfzgb21_2 := blk_frozen BK22.out 2
  go_wp2_with (fail)
  clear hczgb1_0 hfzgb1_0 hczgb1_1 hfzgb1_1 hczgb1_2 hfzgb1_2 hczgb21_0 hfzgb21_0 hczgb21_1 hfzgb21_1 hczgb21_2 hfzgb21_2
  go_at_call 11
  (with_reducible refine (impl_PaperText.calls k a0_0 a0_1 _ _ xs0_2 res_r1 res_r2 _ ?side1 ?side2 HFimpl.out).mono ?_)
  (case side1 => repeat (first | exact C_ext (Kd.R_reads' HO41.out).2.2 HXB0_2.out HLB0_2.out | (with_reducible refine Kd.C_alloc ?_ _) | (with_reducible refine Kd.C_drewN ?_ _) | (with_reducible refine Kd.C_drew ?_)))
  (case side2 => exact Nat.le_trans HLB0_2.out (Kd.R_reads' HO41.out).2.1)
  rintro e w_46 ⟨rfl, hb⟩
  have HBi := Aside0.mk (below_step (by repeat (first | (with_reducible first | exact Below.refl _ _ | apply below_alloc | apply pw_below_drewN | apply below_drew1) | exact Below.refl _ _)) hb : Below w_40.heap.size w_40 w_46)
  clear hb
  have HBn := Aside0.mk (below_step HB.out HBi.out)
  clear HB
  have HB := HBn
  clear HBn
  have HS47 := Aside0.mk HBi.out.size
  have n0_ := Aside0.mk (blk_below BK2.out HBi.out)
  clear BK2
  have BK2 := n0_
  clear n0_
  have n0_ := Aside0.mk (Kd.R_below HO16.out HBi.out)
  clear HO16
  have HO16 := n0_
  clear n0_
  have n0_ := Aside0.mk (blk_below BK22.out HBi.out)
  clear BK22
  have BK22 := n0_
  clear n0_
  have n0_ := Aside0.mk (Kd.R_below HO41.out HBi.out)
  clear HO41
  have HO41 := n0_
  clear n0_
  clear HBi
  have HWw_46 := Aside0.mk HB.out.size
  clear HO41
  go_wp2
  go_ret
  exact ⟨by first | rfl | (simp; done) | (simp [*]; done), by repeat (first | (with_reducible first | exact HB.out | apply below_alloc | apply pw_below_drewN | apply below_drew1) | exact HB.out)⟩

/-- What is to be told of the answers, for the law to tell true. -/
structure laws_FnExactPaperText.Facts (k : Nat) (a0_0 : ByteArray) (a0_1 : Int) (l0_2 : List (S46)) (xs0_2 : List (S38)) (ext0_2 : List (S38)) (extb0_2 : List (S38)) (rm0_2 : Int) (t_1 : Int) (res_r1 : ByteArray) (res_r2 : Int) : Prop where
  hto0_2 : laws_toLineSX.f k l0_2 false = some ext0_2
  htob0_2 : laws_toLineSX.f k l0_2 true = some extb0_2
  hxl0_2 : xs0_2.length = l0_2.length
  hnb0_2 : extb0_2 = [] → l0_2.length = 0
  hne0_2 : ¬ (ext0_2 = [])
  hxe0_2 : xs0_2 = ext0_2.take xs0_2.length
  hxb0_2 : xs0_2 = extb0_2.take xs0_2.length
  hle0_2 : xs0_2.length ≤ ext0_2.length
  hlb0_2 : xs0_2.length ≤ extb0_2.length
  hrm0_2 : laws_roomBehind.f (xs0_2.length : Int) = some rm0_2
  hj0_2 : wrap64 ((xs0_2.length : Int) + rm0_2) = (ext0_2.length : Int)
  heqx0_2 : laws_eqLineS.f k ext0_2 ext0_2 = some true
  hz1 : laws_szPaper.f k a0_0 a0_1 l0_2 1000000 = some t_1
  hn1 : decide (t_1 < 0) = false
  hfspec : spec_PaperText.f k a0_0 a0_1 xs0_2 = some (res_r1, res_r2)
  hfimpl : impl_PaperText.f k a0_0 a0_1 xs0_2 = some (res_r1, res_r2)
/-- The statement over numbers and lists. -/
def laws_FnExactPaperText.Pure : Prop := ∀ (a0_0 : ByteArray) (a0_1 : Int) (l0_2 : List (S46)), (l0_2.length ≤ 9223372036854775807) → (a0_0.size ≤ maxLen) → ((Lit.int .i64 a0_1).wf = true) → (∀ x ∈ l0_2, x.f0.size ≤ maxLen) → 
    (∃ k t_1, laws_szPaper.f k a0_0 a0_1 l0_2 1000000 = some t_1 ∧ decide (t_1 < 0) = true) ∨
    (∃ k xs0_2 ext0_2 extb0_2 rm0_2 t_1 res_r1 res_r2, laws_FnExactPaperText.Facts k a0_0 a0_1 l0_2 xs0_2 ext0_2 extb0_2 rm0_2 t_1 res_r1 res_r2)

theorem laws_FnExactPaperText.walk (P_ : laws_FnExactPaperText.Pure) (a0_0 : ByteArray) (a0_1 : Int) (A0_2 : Option Addr) (c0_2 : Nat) (l0_2 : List (S46)) (w : World) (hr0_2 : Kd.C k46 w A0_2 l0_2.length l0_2) (hc0_2 : l0_2.length ≤ c0_2) (wa0_0 : a0_0.size ≤ maxLen) (wa0_1 : (Lit.int .i64 a0_1).wf = true) (wsl0_2 : ∀ x ∈ l0_2, x.f0.size ≤ maxLen) :
    Calls Try.prog 4 #[.agg #[.string a0_0, .int .i64 a0_1, .slice A0_2 l0_2.length c0_2]] w fun e w' => e = .returned (.bool true) ∧ Below w.heap.size w w' := by
  rcases P_ a0_0 a0_1 l0_2 (Kd.C_max hr0_2) wa0_0 wa0_1 wsl0_2 with ⟨k, t_1, h0_, h1_⟩ | ⟨k, xs0_2, ext0_2, extb0_2, rm0_2, t_1, res_r1, res_r2, F⟩
  · exact laws_FnExactPaperText.skip1_ a0_0 a0_1 _ _ l0_2 w hr0_2 hc0_2 k t_1 h0_ h1_
  · exact laws_FnExactPaperText.true_ k a0_0 a0_1 _ _ l0_2 w hr0_2 hc0_2 xs0_2 ext0_2 extb0_2 rm0_2 t_1 res_r1 res_r2 F.hto0_2 F.htob0_2 F.hxl0_2 F.hnb0_2 F.hne0_2 F.hxe0_2 F.hxb0_2 F.hle0_2 F.hlb0_2 F.hrm0_2 F.hj0_2 F.heqx0_2 F.hz1 F.hn1 F.hfspec F.hfimpl

end Go.Proofs.Ytnhaacgkjebikaa.PFnExactPaperText
