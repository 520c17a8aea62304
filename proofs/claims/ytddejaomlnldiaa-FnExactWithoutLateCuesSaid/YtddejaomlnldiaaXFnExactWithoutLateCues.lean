/- FnExactWithoutLateCues: the parts of the law that look behind a row's length, and the law's walk: with the answers that the functions give, it tells true. -/
import Derived.Test.YtddejaomlnldiaaQFnExactWithoutLateCuesx10
namespace Go.Proofs.Ytddejaomlnldiaa.PFnExactWithoutLateCues
open Go.RowKit Go.Proofs.YtddejaomlnldiaaW.PrintWords Go.Proofs.YtddejaomlnldiaaW.PrintLast Go.Proofs.YtddejaomlnldiaaW.PrintMore
attribute [local go_sem] max2_int min2_int max_two min_two max_three min_three max_four min_four   -- for this text's walks alone
set_option linter.unusedVariables false
set_option linter.unusedSimpArgs false
open Go.Proofs.YtddejaomlnldiaaX

/-! ### laws_intactModuleS, over rows with what lies behind their lengths: function 15 -/
def laws_intactModuleS.T2 : Bool × List (List Nat × List Nat) := (true, [([], []), ([0], [0]), ([], []), ([2], [2]), ([1, 3], [1, 3]), ([4], [4]), ([5], [5]), ([5], [5]), ([6, 7, 5], [5, 6, 7]), ([5], [5]), ([5], [5]), ([9, 10, 5], [5, 9, 10]), ([8, 11, 5, 5], [5, 8, 11]), ([5, 12], [5, 12]), ([13, 12, 0, 1, 2, 3, 4, 5, 6, 7, 8, 9, 10, 11, 12, 13], [13])])
def laws_intactModuleS.B2 : List Nat := [0, 1, 0, 4, 15, 31, 63, 63, 255, 63, 63, 1599, 4095, 8191, 16383]
theorem laws_intactModuleS.tab2 : rtab .any (opsOf Try.f15 2) = laws_intactModuleS.T2 := by kernel_rfl
theorem laws_intactModuleS.bits2 : waitsOk laws_intactModuleS.T2.2 laws_intactModuleS.B2 = true := by kernel_rfl
set_option maxHeartbeats 8000000 in
set_option maxRecDepth 100000 in
theorem laws_intactModuleSX.calls (k : Nat) (A0 : Option Addr) (c0 : Nat) (l0 : List (S63)) (A1 : Option Addr) (c1 : Nat) (l1 : List (S63)) (n0 : Nat) (rm : Int) (r : Bool) (w : World) (hr0 : Kd.C k63 w A0 l0.length l0) (hc0 : l0.length ≤ c0) (hr1 : Kd.C k63 w A1 l1.length l1) (hc1 : l1.length ≤ c1) (hrm : laws_roomBehind.f (n0 : Int) = some rm) (hj : wrap64 ((n0 : Int) + rm) = (l0.length : Int)) (hl : l1.length = l0.length) (h : laws_eqModuleS.f k l0 l1 = some r) :
    Calls Try.prog 15 #[.slice A0 n0 c0, .slice A1 n0 c1] w fun e w' => e = .returned (.bool r) ∧ Below w.heap.size w w' := by
  have HR0 := Aside0.mk hr0
  have HR1 := Aside0.mk hr1
  have HC0 := Aside0.mk hc0
  have HC1 := Aside0.mk hc1
  have HL := Aside0.mk hl
  clear hr0 hr1 hc0 hc1 hl
  have HB := Aside0.mk (Below.refl w.heap.size w)
  obtain ⟨ji5, hji5⟩ : ∃ j_ : Int, j_ = (l0.length : Int) := ⟨_, rfl⟩
  rw [← hji5] at hj
  have HJ := Aside0.mk hji5
  have hji5w : (IntKind.i64.wrap ((n0 : Int) + rm)) = ji5 := (i64_w _).trans hj
  clear hji5
  have A3 := Aside0.mk hrm
  have A10 := Aside0.mk h
  clear hrm h
  go_enter Try.func15, Try.ntmps15
  try go_wp2_with (first | (go_at_call 51; (with_reducible refine (laws_roomBehind.calls (n0 : Int) rm _ A3.out).mono ?_); rintro e w' ⟨rfl, ⟨nd, rfl⟩⟩))
  have n0_ := Aside0.mk (below_drew1 (pw_below_drewN HB.out nd))
  clear HB
  have HB := n0_
  clear n0_
  obtain ⟨i0, hi0, _, hsz0, _⟩ := info_parts info63
  have hcut0 := cut_cap (P := Try.prog) 26 63 .i64 Try.underlying26 hi0 A0 n0 c0 l0.length ji5 HJ.out HC0.out
  have hcut1 := cut_cap (P := Try.prog) 26 63 .i64 Try.underlying26 hi0 A1 n0 c1 l1.length ji5 (HJ.out.trans (by rw [HL.out])) HC1.out
  clear hi0 hsz0
  refine start_ (n := 15) (S := fun w' => True) (ds := []) #[false, false, false, false, false, false, false, false, false, false, false, false, false, false, false] (by kernel_rfl) rfl rfl trivial (fun hHeld => ?_); refine with_tabW laws_intactModuleS.tab2 laws_intactModuleS.bits2 (fun HT_ HW_ => ?_)
  try generalize (w.drewN nd).drew = w11 at HB hHeld ⊢
  refine pure_ (i := 0) (N := some 12) (v := ?_) (a' := ?_) #[true, false, false, false, false, false, false, false, false, false, false, false, false, false, false] rfl rfl (any_of HT_.out (by kernel_rfl)) (fun _ _ _ h => h) (Or.inl ⟨by rfl, ?_⟩) ?_ ?_
  rotate_left
  · intro w'
    go_simp
    with_reducible rfl
  rotate_left
  · simp only [Act.put, List.setIfInBounds_toArray, List.set_cons_zero, List.set_cons_succ, i64_w, i32_w]
    rfl
  refine pure_ (i := 1) (N := some 13) (v := ?_) (a' := ?_) #[true, true, false, false, false, false, false, false, false, false, false, false, false, false, false] rfl rfl (any_of HT_.out (by kernel_rfl)) (fun _ _ _ h => h) (Or.inl ⟨by rfl, ?_⟩) ?_ ?_
  rotate_left
  · intro w'
    go_simp
    with_reducible rfl
  rotate_left
  · simp only [Act.put, List.setIfInBounds_toArray, List.set_cons_zero, List.set_cons_succ, i64_w, i32_w]
    rfl
  refine pure_ (i := 2) (N := some 14) (v := ?_) (a' := ?_) #[true, true, true, false, false, false, false, false, false, false, false, false, false, false, false] rfl rfl (any_of HT_.out (by kernel_rfl)) (fun _ _ _ h => h) (Or.inl ⟨by rfl, ?_⟩) ?_ ?_
  rotate_left
  · intro w'
    go_simp
    with_reducible rfl
  rotate_left
  · simp only [Act.put, List.setIfInBounds_toArray, List.set_cons_zero, List.set_cons_succ, i64_w, i32_w]
    rfl
  refine pure_ (i := 3) (N := some 15) (v := ?_) (a' := ?_) #[true, true, true, true, false, false, false, false, false, false, false, false, false, false, false] rfl rfl (any_of HT_.out (by kernel_rfl)) (fun _ _ _ h => h) (Or.inl ⟨by rfl, ?_⟩) ?_ ?_
  rotate_left
  · intro w'
    go_simp
    with_reducible rfl
  rotate_left
  · simp only [Act.put, List.setIfInBounds_toArray, List.set_cons_zero, List.set_cons_succ, i64_w, i32_w]
    rfl
  refine pure_ (i := 4) (N := some 16) (v := ?_) (a' := ?_) #[true, true, true, true, true, false, false, false, false, false, false, false, false, false, false] rfl rfl (any_of HT_.out (by kernel_rfl)) (fun _ _ _ h => h) (Or.inl ⟨by rfl, ?_⟩) ?_ ?_
  rotate_left
  · intro w'
    go_simp
    with_reducible rfl
  rotate_left
  · simp only [Act.put, List.setIfInBounds_toArray, List.set_cons_zero, List.set_cons_succ, i64_w, i32_w]
    rfl
  refine pure_ (i := 5) (N := some 17) (v := ?_) (a' := ?_) #[true, true, true, true, true, true, false, false, false, false, false, false, false, false, false] rfl rfl (any_of HT_.out (by kernel_rfl)) (fun _ _ _ h => h) (Or.inl ⟨by rfl, ?_⟩) ?_ ?_
  rotate_left
  · intro w'
    go_simp
    with_reducible rfl
  rotate_left
  · simp only [Act.put, List.setIfInBounds_toArray, List.set_cons_zero, List.set_cons_succ, i64_w, i32_w]
    rfl
  refine pure_ (i := 6) (N := some 18) (v := ?_) (a' := ?_) #[true, true, true, true, true, true, true, false, false, false, false, false, false, false, false] rfl rfl (any_of HT_.out (by kernel_rfl)) (fun _ _ _ h => h) (Or.inl ⟨by rfl, ?_⟩) ?_ ?_
  rotate_left
  · intro w'
    go_simp
    with_reducible rfl
  rotate_left
  · simp only [Act.put, List.setIfInBounds_toArray, List.set_cons_zero, List.set_cons_succ, i64_w, i32_w]
    rfl
  refine pure_ (i := 7) (N := some 19) (v := ?_) (a' := ?_) #[true, true, true, true, true, true, true, true, false, false, false, false, false, false, false] rfl rfl (any_of HT_.out (by kernel_rfl)) (fun _ _ _ h => h) (Or.inl ⟨by rfl, ?_⟩) ?_ ?_
  rotate_left
  · intro w'
    go_simp
    with_reducible rfl
  rotate_left
  · simp only [Act.put, List.setIfInBounds_toArray, List.set_cons_zero, List.set_cons_succ, i64_w, i32_w]
    rfl
  refine pure_ (i := 8) (N := some 20) (v := ?_) (a' := ?_) #[true, true, true, true, true, true, true, true, true, false, false, false, false, false, false] rfl rfl (any_of HT_.out (by kernel_rfl)) (fun _ _ _ h => h) (Or.inl ⟨by rfl, ?_⟩) ?_ ?_
  rotate_left
  · intro w'
    go_simp
    with_reducible rfl
  rotate_left
  · simp only [Act.put, List.setIfInBounds_toArray, List.set_cons_zero, List.set_cons_succ, i64_w, i32_w]
    rfl
  refine pure_ (i := 9) (N := some 21) (v := ?_) (a' := ?_) #[true, true, true, true, true, true, true, true, true, true, false, false, false, false, false] rfl rfl (any_of HT_.out (by kernel_rfl)) (fun _ _ _ h => h) (Or.inl ⟨by rfl, ?_⟩) ?_ ?_
  rotate_left
  · intro w'
    go_simp
    with_reducible rfl
  rotate_left
  · simp only [Act.put, List.setIfInBounds_toArray, List.set_cons_zero, List.set_cons_succ, i64_w, i32_w]
    rfl
  refine pure_ (i := 10) (N := some 22) (v := ?_) (a' := ?_) #[true, true, true, true, true, true, true, true, true, true, true, false, false, false, false] rfl rfl (any_of HT_.out (by kernel_rfl)) (fun _ _ _ h => h) (Or.inl ⟨by rfl, ?_⟩) ?_ ?_
  rotate_left
  · intro w'
    go_simp
    with_reducible rfl
  rotate_left
  · simp only [Act.put, List.setIfInBounds_toArray, List.set_cons_zero, List.set_cons_succ, i64_w, i32_w]
    rfl
  refine pure_ (i := 11) (N := some 23) (v := ?_) (a' := ?_) #[true, true, true, true, true, true, true, true, true, true, true, true, false, false, false] rfl rfl (any_of HT_.out (by kernel_rfl)) (fun _ _ _ h => h) (Or.inl ⟨by rfl, ?_⟩) ?_ ?_
  rotate_left
  · intro w'
    go_simp
    with_reducible rfl
  rotate_left
  · simp only [Act.put, List.setIfInBounds_toArray, List.set_cons_zero, List.set_cons_succ, i64_w, i32_w]
    rfl
  refine one_ (i := 12) (N := some 24) #[true, true, true, true, true, true, true, true, true, true, true, true, true, false, false] rfl rfl (one_of HT_.out (by kernel_rfl)) (by decide) (fun K hK => ?_)
  refine goes_ Try.func58 (by kernel_rfl) rfl #[.slice A0 l0.length c0, .slice A1 l1.length c1] (by rfl) rfl rfl (by (try simp only [List.map_toArray, List.map_cons, List.map_nil]); first | done | rfl | (simp only [List.length_drop, List.length_take]; rfl)) ?_
  with_reducible refine (laws_eqModuleS.calls k _ _ l0 _ _ l1 r _ ?side1 ?side2 ?side3 ?side4 A10.out).mono ?_
  (case side1 => repeat (first | exact HR0.out | exact (Kd.C_below HR0.out HB.out) | (with_reducible refine Kd.C_alloc ?_ _) | (with_reducible refine Kd.C_drewN ?_ _) | (with_reducible refine Kd.C_drew ?_)))
  (case side2 => exact HC0.out)
  (case side3 => repeat (first | exact HR1.out | exact (Kd.C_below HR1.out HB.out) | (with_reducible refine Kd.C_alloc ?_ _) | (with_reducible refine Kd.C_drewN ?_ _) | (with_reducible refine Kd.C_drew ?_)))
  (case side4 => exact HC1.out)
  rintro e w14 ⟨rfl, hd⟩
  have hb : Below _ _ w14 := hd
  refine ⟨_, rfl, ?_⟩
  have n0_ := Aside0.mk (below_step (by repeat (first | (with_reducible first | exact HB.out | exact Below.refl _ _ | apply below_alloc | apply pw_below_drewN | apply below_drew1) | exact HB.out)) hb)
  clear HB hb hd
  have HB := n0_
  clear n0_
  refine hK.out _ _ trivial (fun hHeld => ?_)
  clear hK K
  refine norm_ (a' := ?_) ?_ ?_
  rotate_left
  · show Act.put _ (some 24) _ = _
    simp only [Act.put, List.setIfInBounds_toArray, List.set_cons_zero, List.set_cons_succ, i64_w, i32_w]
    rfl
  refine pure_ (i := 13) (N := some 25) (v := ?_) (a' := ?_) #[true, true, true, true, true, true, true, true, true, true, true, true, true, true, false] rfl rfl (any_of HT_.out (by kernel_rfl)) (fun _ _ _ h => h) (Or.inl ⟨by rfl, ?_⟩) ?_ ?_
  rotate_left
  · intro w'
    go_simp
    with_reducible rfl
  rotate_left
  · simp only [Act.put, List.setIfInBounds_toArray, List.set_cons_zero, List.set_cons_succ, i64_w, i32_w]
    rfl
  refine pure_ (i := 14) (N := some 4) (v := ?_) (a' := ?_) #[true, true, true, true, true, true, true, true, true, true, true, true, true, true, true] rfl rfl (any_of HT_.out (by kernel_rfl)) (fun _ _ _ h => h) (Or.inl ⟨by rfl, ?_⟩) ?_ ?_
  rotate_left
  · intro w'
    go_simp
    with_reducible rfl
  rotate_left
  · simp only [Act.put, List.setIfInBounds_toArray, List.set_cons_zero, List.set_cons_succ, i64_w, i32_w]
    rfl
  refine done_ (done_of HT_.out (by kernel_rfl)) ?_
  try go_wp2
  go_ret
  exact ⟨by first | rfl | (simp [errW_none, errW_some] <;> rfl) | (simp [*, errW_none, errW_some] <;> rfl), by repeat (first | (with_reducible first | exact HB.out | apply below_alloc | apply pw_below_drewN | apply below_drew1) | exact HB.out)⟩
/-! ### laws_intactWireS, over rows with what lies behind their lengths: function 41 -/
def laws_intactWireS.T2 : Bool × List (List Nat × List Nat) := (true, [([], []), ([0], [0]), ([], []), ([2], [2]), ([1, 3], [1, 3]), ([4], [4]), ([5], [5]), ([5], [5]), ([6, 7, 5], [5, 6, 7]), ([5], [5]), ([5], [5]), ([9, 10, 5], [5, 9, 10]), ([8, 11, 5, 5], [5, 8, 11]), ([5, 12], [5, 12]), ([13, 12, 0, 1, 2, 3, 4, 5, 6, 7, 8, 9, 10, 11, 12, 13], [13])])
def laws_intactWireS.B2 : List Nat := [0, 1, 0, 4, 15, 31, 63, 63, 255, 63, 63, 1599, 4095, 8191, 16383]
theorem laws_intactWireS.tab2 : rtab .any (opsOf Try.f41 2) = laws_intactWireS.T2 := by kernel_rfl
theorem laws_intactWireS.bits2 : waitsOk laws_intactWireS.T2.2 laws_intactWireS.B2 = true := by kernel_rfl
set_option maxHeartbeats 8000000 in
set_option maxRecDepth 100000 in
theorem laws_intactWireSX.calls (k : Nat) (A0 : Option Addr) (c0 : Nat) (l0 : List (S59)) (A1 : Option Addr) (c1 : Nat) (l1 : List (S59)) (n0 : Nat) (rm : Int) (r : Bool) (w : World) (hr0 : Kd.C k59 w A0 l0.length l0) (hc0 : l0.length ≤ c0) (hr1 : Kd.C k59 w A1 l1.length l1) (hc1 : l1.length ≤ c1) (hrm : laws_roomBehind.f (n0 : Int) = some rm) (hj : wrap64 ((n0 : Int) + rm) = (l0.length : Int)) (hl : l1.length = l0.length) (h : laws_eqWireS.f k l0 l1 = some r) :
    Calls Try.prog 41 #[.slice A0 n0 c0, .slice A1 n0 c1] w fun e w' => e = .returned (.bool r) ∧ Below w.heap.size w w' := by
  have HR0 := Aside0.mk hr0
  have HR1 := Aside0.mk hr1
  have HC0 := Aside0.mk hc0
  have HC1 := Aside0.mk hc1
  have HL := Aside0.mk hl
  clear hr0 hr1 hc0 hc1 hl
  have HB := Aside0.mk (Below.refl w.heap.size w)
  obtain ⟨ji5, hji5⟩ : ∃ j_ : Int, j_ = (l0.length : Int) := ⟨_, rfl⟩
  rw [← hji5] at hj
  have HJ := Aside0.mk hji5
  have hji5w : (IntKind.i64.wrap ((n0 : Int) + rm)) = ji5 := (i64_w _).trans hj
  clear hji5
  have A3 := Aside0.mk hrm
  have A10 := Aside0.mk h
  clear hrm h
  go_enter Try.func41, Try.ntmps41
  try go_wp2_with (first | (go_at_call 51; (with_reducible refine (laws_roomBehind.calls (n0 : Int) rm _ A3.out).mono ?_); rintro e w' ⟨rfl, ⟨nd, rfl⟩⟩))
  have n0_ := Aside0.mk (below_drew1 (pw_below_drewN HB.out nd))
  clear HB
  have HB := n0_
  clear n0_
  obtain ⟨i0, hi0, _, hsz0, _⟩ := info_parts info59
  have hcut0 := cut_cap (P := Try.prog) 50 59 .i64 Try.underlying50 hi0 A0 n0 c0 l0.length ji5 HJ.out HC0.out
  have hcut1 := cut_cap (P := Try.prog) 50 59 .i64 Try.underlying50 hi0 A1 n0 c1 l1.length ji5 (HJ.out.trans (by rw [HL.out])) HC1.out
  clear hi0 hsz0
  refine start_ (n := 15) (S := fun w' => True) (ds := []) #[false, false, false, false, false, false, false, false, false, false, false, false, false, false, false] (by kernel_rfl) rfl rfl trivial (fun hHeld => ?_); refine with_tabW laws_intactWireS.tab2 laws_intactWireS.bits2 (fun HT_ HW_ => ?_)
  try generalize (w.drewN nd).drew = w11 at HB hHeld ⊢
  refine pure_ (i := 0) (N := some 12) (v := ?_) (a' := ?_) #[true, false, false, false, false, false, false, false, false, false, false, false, false, false, false] rfl rfl (any_of HT_.out (by kernel_rfl)) (fun _ _ _ h => h) (Or.inl ⟨by rfl, ?_⟩) ?_ ?_
  rotate_left
  · intro w'
    go_simp
    with_reducible rfl
  rotate_left
  · simp only [Act.put, List.setIfInBounds_toArray, List.set_cons_zero, List.set_cons_succ, i64_w, i32_w]
    rfl
  refine pure_ (i := 1) (N := some 13) (v := ?_) (a' := ?_) #[true, true, false, false, false, false, false, false, false, false, false, false, false, false, false] rfl rfl (any_of HT_.out (by kernel_rfl)) (fun _ _ _ h => h) (Or.inl ⟨by rfl, ?_⟩) ?_ ?_
  rotate_left
  · intro w'
    go_simp
    with_reducible rfl
  rotate_left
  · simp only [Act.put, List.setIfInBounds_toArray, List.set_cons_zero, List.set_cons_succ, i64_w, i32_w]
    rfl
  refine pure_ (i := 2) (N := some 14) (v := ?_) (a' := ?_) #[true, true, true, false, false, false, false, false, false, false, false, false, false, false, false] rfl rfl (any_of HT_.out (by kernel_rfl)) (fun _ _ _ h => h) (Or.inl ⟨by rfl, ?_⟩) ?_ ?_
  rotate_left
  · intro w'
    go_simp
    with_reducible rfl
  rotate_left
  · simp only [Act.put, List.setIfInBounds_toArray, List.set_cons_zero, List.set_cons_succ, i64_w, i32_w]
    rfl
  refine pure_ (i := 3) (N := some 15) (v := ?_) (a' := ?_) #[true, true, true, true, false, false, false, false, false, false, false, false, false, false, false] rfl rfl (any_of HT_.out (by kernel_rfl)) (fun _ _ _ h => h) (Or.inl ⟨by rfl, ?_⟩) ?_ ?_
  rotate_left
  · intro w'
    go_simp
    with_reducible rfl
  rotate_left
  · simp only [Act.put, List.setIfInBounds_toArray, List.set_cons_zero, List.set_cons_succ, i64_w, i32_w]
    rfl
  refine pure_ (i := 4) (N := some 16) (v := ?_) (a' := ?_) #[true, true, true, true, true, false, false, false, false, false, false, false, false, false, false] rfl rfl (any_of HT_.out (by kernel_rfl)) (fun _ _ _ h => h) (Or.inl ⟨by rfl, ?_⟩) ?_ ?_
  rotate_left
  · intro w'
    go_simp
    with_reducible rfl
  rotate_left
  · simp only [Act.put, List.setIfInBounds_toArray, List.set_cons_zero, List.set_cons_succ, i64_w, i32_w]
    rfl
  refine pure_ (i := 5) (N := some 17) (v := ?_) (a' := ?_) #[true, true, true, true, true, true, false, false, false, false, false, false, false, false, false] rfl rfl (any_of HT_.out (by kernel_rfl)) (fun _ _ _ h => h) (Or.inl ⟨by rfl, ?_⟩) ?_ ?_
  rotate_left
  · intro w'
    go_simp
    with_reducible rfl
  rotate_left
  · simp only [Act.put, List.setIfInBounds_toArray, List.set_cons_zero, List.set_cons_succ, i64_w, i32_w]
    rfl
  refine pure_ (i := 6) (N := some 18) (v := ?_) (a' := ?_) #[true, true, true, true, true, true, true, false, false, false, false, false, false, false, false] rfl rfl (any_of HT_.out (by kernel_rfl)) (fun _ _ _ h => h) (Or.inl ⟨by rfl, ?_⟩) ?_ ?_
  rotate_left
  · intro w'
    go_simp
    with_reducible rfl
  rotate_left
  · simp only [Act.put, List.setIfInBounds_toArray, List.set_cons_zero, List.set_cons_succ, i64_w, i32_w]
    rfl
  refine pure_ (i := 7) (N := some 19) (v := ?_) (a' := ?_) #[true, true, true, true, true, true, true, true, false, false, false, false, false, false, false] rfl rfl (any_of HT_.out (by kernel_rfl)) (fun _ _ _ h => h) (Or.inl ⟨by rfl, ?_⟩) ?_ ?_
  rotate_left
  · intro w'
    go_simp
    with_reducible rfl
  rotate_left
  · simp only [Act.put, List.setIfInBounds_toArray, List.set_cons_zero, List.set_cons_succ, i64_w, i32_w]
    rfl
  refine pure_ (i := 8) (N := some 20) (v := ?_) (a' := ?_) #[true, true, true, true, true, true, true, true, true, false, false, false, false, false, false] rfl rfl (any_of HT_.out (by kernel_rfl)) (fun _ _ _ h => h) (Or.inl ⟨by rfl, ?_⟩) ?_ ?_
  rotate_left
  · intro w'
    go_simp
    with_reducible rfl
  rotate_left
  · simp only [Act.put, List.setIfInBounds_toArray, List.set_cons_zero, List.set_cons_succ, i64_w, i32_w]
    rfl
  refine pure_ (i := 9) (N := some 21) (v := ?_) (a' := ?_) #[true, true, true, true, true, true, true, true, true, true, false, false, false, false, false] rfl rfl (any_of HT_.out (by kernel_rfl)) (fun _ _ _ h => h) (Or.inl ⟨by rfl, ?_⟩) ?_ ?_
  rotate_left
  · intro w'
    go_simp
    with_reducible rfl
  rotate_left
  · simp only [Act.put, List.setIfInBounds_toArray, List.set_cons_zero, List.set_cons_succ, i64_w, i32_w]
    rfl
  refine pure_ (i := 10) (N := some 22) (v := ?_) (a' := ?_) #[true, true, true, true, true, true, true, true, true, true, true, false, false, false, false] rfl rfl (any_of HT_.out (by kernel_rfl)) (fun _ _ _ h => h) (Or.inl ⟨by rfl, ?_⟩) ?_ ?_
  rotate_left
  · intro w'
    go_simp
    with_reducible rfl
  rotate_left
  · simp only [Act.put, List.setIfInBounds_toArray, List.set_cons_zero, List.set_cons_succ, i64_w, i32_w]
    rfl
  refine pure_ (i := 11) (N := some 23) (v := ?_) (a' := ?_) #[true, true, true, true, true, true, true, true, true, true, true, true, false, false, false] rfl rfl (any_of HT_.out (by kernel_rfl)) (fun _ _ _ h => h) (Or.inl ⟨by rfl, ?_⟩) ?_ ?_
  rotate_left
  · intro w'
    go_simp
    with_reducible rfl
  rotate_left
  · simp only [Act.put, List.setIfInBounds_toArray, List.set_cons_zero, List.set_cons_succ, i64_w, i32_w]
    rfl
  refine one_ (i := 12) (N := some 24) #[true, true, true, true, true, true, true, true, true, true, true, true, true, false, false] rfl rfl (one_of HT_.out (by kernel_rfl)) (by decide) (fun K hK => ?_)
  refine goes_ Try.func76 (by kernel_rfl) rfl #[.slice A0 l0.length c0, .slice A1 l1.length c1] (by rfl) rfl rfl (by (try simp only [List.map_toArray, List.map_cons, List.map_nil]); first | done | rfl | (simp only [List.length_drop, List.length_take]; rfl)) ?_
  with_reducible refine (laws_eqWireS.calls k _ _ l0 _ _ l1 r _ ?side1 ?side2 ?side3 ?side4 A10.out).mono ?_
  (case side1 => repeat (first | exact HR0.out | exact (Kd.C_below HR0.out HB.out) | (with_reducible refine Kd.C_alloc ?_ _) | (with_reducible refine Kd.C_drewN ?_ _) | (with_reducible refine Kd.C_drew ?_)))
  (case side2 => exact HC0.out)
  (case side3 => repeat (first | exact HR1.out | exact (Kd.C_below HR1.out HB.out) | (with_reducible refine Kd.C_alloc ?_ _) | (with_reducible refine Kd.C_drewN ?_ _) | (with_reducible refine Kd.C_drew ?_)))
  (case side4 => exact HC1.out)
  rintro e w14 ⟨rfl, hd⟩
  have hb : Below _ _ w14 := hd
  refine ⟨_, rfl, ?_⟩
  have n0_ := Aside0.mk (below_step (by repeat (first | (with_reducible first | exact HB.out | exact Below.refl _ _ | apply below_alloc | apply pw_below_drewN | apply below_drew1) | exact HB.out)) hb)
  clear HB hb hd
  have HB := n0_
  clear n0_
  refine hK.out _ _ trivial (fun hHeld => ?_)
  clear hK K
  refine norm_ (a' := ?_) ?_ ?_
  rotate_left
  · show Act.put _ (some 24) _ = _
    simp only [Act.put, List.setIfInBounds_toArray, List.set_cons_zero, List.set_cons_succ, i64_w, i32_w]
    rfl
  refine pure_ (i := 13) (N := some 25) (v := ?_) (a' := ?_) #[true, true, true, true, true, true, true, true, true, true, true, true, true, true, false] rfl rfl (any_of HT_.out (by kernel_rfl)) (fun _ _ _ h => h) (Or.inl ⟨by rfl, ?_⟩) ?_ ?_
  rotate_left
  · intro w'
    go_simp
    with_reducible rfl
  rotate_left
  · simp only [Act.put, List.setIfInBounds_toArray, List.set_cons_zero, List.set_cons_succ, i64_w, i32_w]
    rfl
  refine pure_ (i := 14) (N := some 4) (v := ?_) (a' := ?_) #[true, true, true, true, true, true, true, true, true, true, true, true, true, true, true] rfl rfl (any_of HT_.out (by kernel_rfl)) (fun _ _ _ h => h) (Or.inl ⟨by rfl, ?_⟩) ?_ ?_
  rotate_left
  · intro w'
    go_simp
    with_reducible rfl
  rotate_left
  · simp only [Act.put, List.setIfInBounds_toArray, List.set_cons_zero, List.set_cons_succ, i64_w, i32_w]
    rfl
  refine done_ (done_of HT_.out (by kernel_rfl)) ?_
  try go_wp2
  go_ret
  exact ⟨by first | rfl | (simp [errW_none, errW_some] <;> rfl) | (simp [*, errW_none, errW_some] <;> rfl), by repeat (first | (with_reducible first | exact HB.out | apply below_alloc | apply pw_below_drewN | apply below_drew1) | exact HB.out)⟩
/-! ### laws_intactInt64S, over rows with what lies behind their lengths: function 42 -/
set_option maxHeartbeats 8000000 in
set_option maxRecDepth 100000 in
theorem laws_intactInt64SX.calls (k : Nat) (A0 : Option Addr) (c0 : Nat) (l0 : List Int) (A1 : Option Addr) (c1 : Nat) (l1 : List Int) (n0 : Nat) (rm : Int) (r : Bool) (w : World) (hr0 : Kd.C (Kd.int .i64) w A0 l0.length l0) (hc0 : l0.length ≤ c0) (hr1 : Kd.C (Kd.int .i64) w A1 l1.length l1) (hc1 : l1.length ≤ c1) (hrm : laws_roomBehind.f (n0 : Int) = some rm) (hj : wrap64 ((n0 : Int) + rm) = (l0.length : Int)) (hl : l1.length = l0.length) (h : laws_eqInt64S.f k l0 l1 = some r) :
    Calls Try.prog 42 #[.slice A0 n0 c0, .slice A1 n0 c1] w fun e w' => e = .returned (.bool r) ∧ Below w.heap.size w w' := by
  have HR0 := Aside0.mk hr0
  have HR1 := Aside0.mk hr1
  have HC0 := Aside0.mk hc0
  have HC1 := Aside0.mk hc1
  have HL := Aside0.mk hl
  clear hr0 hr1 hc0 hc1 hl
  obtain ⟨ji5, hji5⟩ : ∃ j_ : Int, j_ = (l0.length : Int) := ⟨_, rfl⟩
  rw [← hji5] at hj
  have HJ := Aside0.mk hji5
  have hji5w : (IntKind.i64.wrap ((n0 : Int) + rm)) = ji5 := (i64_w _).trans hj
  clear hji5
  have A3 := Aside0.mk hrm
  have A10 := Aside0.mk h
  clear hrm h
  obtain ⟨i0, hi0, _, hsz0, _⟩ := info_parts info2
  have hcut0 := cut_cap (P := Try.prog) 32 2 .i64 Try.underlying32 hi0 A0 n0 c0 l0.length ji5 HJ.out HC0.out
  have hcut1 := cut_cap (P := Try.prog) 32 2 .i64 Try.underlying32 hi0 A1 n0 c1 l1.length ji5 (HJ.out.trans (by rw [HL.out])) HC1.out
  clear hi0 hsz0
  go_enter Try.func42, Try.ntmps42
  go_wp2_with (first | (go_at_call 51; (with_reducible refine (laws_roomBehind.calls (n0 : Int) rm _ A3.out).mono ?_); rintro e w' ⟨rfl, ⟨nd, rfl⟩⟩; (try first | exact ⟨rfl, _, World.drewN_drewN _ _ _⟩ | exact ⟨rfl, _, Eq.trans (World.drewN_drewN _ _ _) (congrArg (World.drewN _) (Nat.add_assoc _ _ _))⟩)) | (go_at_call 20; (with_reducible refine (laws_eqInt64S.calls k _ _ l0 _ _ l1 r _ ?side1 ?side2 ?side3 ?side4 A10.out).mono ?_); (case side1 => repeat (first | exact HR0.out | (with_reducible refine Kd.C_alloc ?_ _) | (with_reducible refine Kd.C_drewN ?_ _) | (with_reducible refine Kd.C_drew ?_))); (case side2 => exact HC0.out); (case side3 => repeat (first | exact HR1.out | (with_reducible refine Kd.C_alloc ?_ _) | (with_reducible refine Kd.C_drewN ?_ _) | (with_reducible refine Kd.C_drew ?_))); (case side4 => exact HC1.out); rintro e w' ⟨rfl, ⟨nd, rfl⟩⟩; (try first | exact ⟨rfl, _, World.drewN_drewN _ _ _⟩ | exact ⟨rfl, _, Eq.trans (World.drewN_drewN _ _ _) (congrArg (World.drewN _) (Nat.add_assoc _ _ _))⟩)))
  repeat (go_quiet (first | (go_at_call 51; (with_reducible refine (laws_roomBehind.calls (n0 : Int) rm _ A3.out).mono ?_); rintro e w' ⟨rfl, ⟨nd, rfl⟩⟩; (try first | exact ⟨rfl, _, World.drewN_drewN _ _ _⟩ | exact ⟨rfl, _, Eq.trans (World.drewN_drewN _ _ _) (congrArg (World.drewN _) (Nat.add_assoc _ _ _))⟩)) | (go_at_call 20; (with_reducible refine (laws_eqInt64S.calls k _ _ l0 _ _ l1 r _ ?side1 ?side2 ?side3 ?side4 A10.out).mono ?_); (case side1 => repeat (first | exact HR0.out | (with_reducible refine Kd.C_alloc ?_ _) | (with_reducible refine Kd.C_drewN ?_ _) | (with_reducible refine Kd.C_drew ?_))); (case side2 => exact HC0.out); (case side3 => repeat (first | exact HR1.out | (with_reducible refine Kd.C_alloc ?_ _) | (with_reducible refine Kd.C_drewN ?_ _) | (with_reducible refine Kd.C_drew ?_))); (case side4 => exact HC1.out); rintro e w' ⟨rfl, ⟨nd, rfl⟩⟩; (try first | exact ⟨rfl, _, World.drewN_drewN _ _ _⟩ | exact ⟨rfl, _, Eq.trans (World.drewN_drewN _ _ _) (congrArg (World.drewN _) (Nat.add_assoc _ _ _))⟩))); try go_wp2_with (first | (go_at_call 51; (with_reducible refine (laws_roomBehind.calls (n0 : Int) rm _ A3.out).mono ?_); rintro e w' ⟨rfl, ⟨nd, rfl⟩⟩; (try first | exact ⟨rfl, _, World.drewN_drewN _ _ _⟩ | exact ⟨rfl, _, Eq.trans (World.drewN_drewN _ _ _) (congrArg (World.drewN _) (Nat.add_assoc _ _ _))⟩)) | (go_at_call 20; (with_reducible refine (laws_eqInt64S.calls k _ _ l0 _ _ l1 r _ ?side1 ?side2 ?side3 ?side4 A10.out).mono ?_); (case side1 => repeat (first | exact HR0.out | (with_reducible refine Kd.C_alloc ?_ _) | (with_reducible refine Kd.C_drewN ?_ _) | (with_reducible refine Kd.C_drew ?_))); (case side2 => exact HC0.out); (case side3 => repeat (first | exact HR1.out | (with_reducible refine Kd.C_alloc ?_ _) | (with_reducible refine Kd.C_drewN ?_ _) | (with_reducible refine Kd.C_drew ?_))); (case side4 => exact HC1.out); rintro e w' ⟨rfl, ⟨nd, rfl⟩⟩; (try first | exact ⟨rfl, _, World.drewN_drewN _ _ _⟩ | exact ⟨rfl, _, Eq.trans (World.drewN_drewN _ _ _) (congrArg (World.drewN _) (Nat.add_assoc _ _ _))⟩))))
  go_ret
  exact ⟨by first | rfl | (simp; done) | (simp [*]; done), by repeat (first | (with_reducible first | exact Below.refl _ _ | apply below_alloc | apply pw_below_drewN | apply below_drew1) | exact Below.refl _ _)⟩

/-! ### the law: function 10 -/
set_option maxHeartbeats 8000000 in
set_option maxRecDepth 100000 in
theorem laws_FnExactWithoutLateCues.skip1_ (A0 : Option Addr) (c0 : Nat) (l0 : List (S65)) (a1 : Int) (A2 : Option Addr) (c2 : Nat) (l2 : List (S82)) (a3 : Int) (a4 : Int) (A5 : Option Addr) (c5 : Nat) (l5 : List Int) (w : World) (hr0 : Kd.C k65 w A0 l0.length l0) (hc0 : l0.length ≤ c0) (hr2 : Kd.C k82 w A2 l2.length l2) (hc2 : l2.length ≤ c2) (hr5 : Kd.C (Kd.int .i64) w A5 l5.length l5) (hc5 : l5.length ≤ c5) (t_1 : Int) (hz1_ : laws_szModuleS.f l0 (wrap64 (1000000 - ((l5.length : Int)))) = some t_1) (hn_ : decide (t_1 < 0) = true) :
    Calls Try.prog 10 #[.slice A0 l0.length c0, .int .i64 a1, .slice A2 l2.length c2, .int .i64 a3, .int .i64 a4, .slice A5 l5.length c5] w fun e w' => e = .returned (.bool true) ∧ Below w.heap.size w w' := by
  have HR0 := Aside0.mk hr0
  have HC0 := Aside0.mk hc0
  have HR2 := Aside0.mk hr2
  have HC2 := Aside0.mk hc2
  have HR5 := Aside0.mk hr5
  have HC5 := Aside0.mk hc5
  clear hr0 hc0 hr2 hc2 hr5 hc5
  have HZ1 := Aside0.mk hz1_
  have HN := Aside0.mk hn_
  clear hz1_ hn_
  have HB := Aside0.mk (Below.refl w.heap.size w)
  go_enter Try.func10, Try.ntmps10
  go_wp2_with (fail)
  go_at_call 11
  (with_reducible refine (laws_szModuleS.calls _ _ l0 (wrap64 (1000000 - ((l5.length : Int)))) t_1 _ ?side1 ?side2 HZ1.out).mono ?_)
  (case side1 => repeat (first | exact HR0.out | exact (Kd.C_below HR0.out HB.out) | (with_reducible refine Kd.C_alloc ?_ _) | (with_reducible refine Kd.C_drewN ?_ _) | (with_reducible refine Kd.C_drew ?_)))
  (case side2 => exact HC0.out)
  rintro e w_1 ⟨rfl, hd⟩
  have hb := hd.below
  clear hd
  have HBi := Aside0.mk (below_step (by repeat (first | (with_reducible first | exact Below.refl _ _ | apply below_alloc | apply pw_below_drewN | apply below_drew1) | exact Below.refl _ _)) hb : Below w.heap.size w w_1)
  clear hb
  have HBn := Aside0.mk (below_step HB.out HBi.out)
  clear HB
  have HB := HBn
  clear HBn
  have HS2 := Aside0.mk HBi.out.size
  clear HBi
  have hn_ := HN.out
  go_wp2
  go_ret
  exact ⟨by first | rfl | (simp; done) | (simp [*]; done), by repeat (first | (with_reducible first | exact HB.out | apply below_alloc | apply pw_below_drewN | apply below_drew1) | exact HB.out)⟩

set_option maxHeartbeats 8000000 in
set_option maxRecDepth 100000 in
theorem laws_FnExactWithoutLateCues.skip2_ (A0 : Option Addr) (c0 : Nat) (l0 : List (S65)) (a1 : Int) (A2 : Option Addr) (c2 : Nat) (l2 : List (S82)) (a3 : Int) (a4 : Int) (A5 : Option Addr) (c5 : Nat) (l5 : List Int) (w : World) (hr0 : Kd.C k65 w A0 l0.length l0) (hc0 : l0.length ≤ c0) (hr2 : Kd.C k82 w A2 l2.length l2) (hc2 : l2.length ≤ c2) (hr5 : Kd.C (Kd.int .i64) w A5 l5.length l5) (hc5 : l5.length ≤ c5) (t_1 : Int) (t_2 : Int) (hz1_ : laws_szModuleS.f l0 (wrap64 (1000000 - ((l5.length : Int)))) = some t_1) (hn1_ : decide (t_1 < 0) = false) (hz2_ : laws_szWireS.f l2 t_1 = some t_2) (hn_ : decide (t_2 < 0) = true) :
    Calls Try.prog 10 #[.slice A0 l0.length c0, .int .i64 a1, .slice A2 l2.length c2, .int .i64 a3, .int .i64 a4, .slice A5 l5.length c5] w fun e w' => e = .returned (.bool true) ∧ Below w.heap.size w w' := by
  have HR0 := Aside0.mk hr0
  have HC0 := Aside0.mk hc0
  have HR2 := Aside0.mk hr2
  have HC2 := Aside0.mk hc2
  have HR5 := Aside0.mk hr5
  have HC5 := Aside0.mk hc5
  clear hr0 hc0 hr2 hc2 hr5 hc5
  have HZ1 := Aside0.mk hz1_
  have HN1 := Aside0.mk hn1_
  have HZ2 := Aside0.mk hz2_
  have HN := Aside0.mk hn_
  clear hz1_ hn1_ hz2_ hn_
  have HB := Aside0.mk (Below.refl w.heap.size w)
  go_enter Try.func10, Try.ntmps10
  go_wp2_with (fail)
  go_at_call 11
  (with_reducible refine (laws_szModuleS.calls _ _ l0 (wrap64 (1000000 - ((l5.length : Int)))) t_1 _ ?side1 ?side2 HZ1.out).mono ?_)
  (case side1 => repeat (first | exact HR0.out | exact (Kd.C_below HR0.out HB.out) | (with_reducible refine Kd.C_alloc ?_ _) | (with_reducible refine Kd.C_drewN ?_ _) | (with_reducible refine Kd.C_drew ?_)))
  (case side2 => exact HC0.out)
  rintro e w_1 ⟨rfl, hd⟩
  have hb := hd.below
  clear hd
  have HBi := Aside0.mk (below_step (by repeat (first | (with_reducible first | exact Below.refl _ _ | apply below_alloc | apply pw_below_drewN | apply below_drew1) | exact Below.refl _ _)) hb : Below w.heap.size w w_1)
  clear hb
  have HBn := Aside0.mk (below_step HB.out HBi.out)
  clear HB
  have HB := HBn
  clear HBn
  have HS2 := Aside0.mk HBi.out.size
  clear HBi
  have hn_ := HN1.out
  go_wp2_with (fail)
  clear hn_
  go_wp2_with (fail)
  go_at_call 36
  (with_reducible refine (laws_szWireS.calls _ _ l2 t_1 t_2 _ ?side1 ?side2 HZ2.out).mono ?_)
  (case side1 => repeat (first | exact HR2.out | exact (Kd.C_below HR2.out HB.out) | (with_reducible refine Kd.C_alloc ?_ _) | (with_reducible refine Kd.C_drewN ?_ _) | (with_reducible refine Kd.C_drew ?_)))
  (case side2 => exact HC2.out)
  rintro e w_3 ⟨rfl, hd⟩
  have hb := hd.below
  clear hd
  have HBi := Aside0.mk (below_step (by repeat (first | (with_reducible first | exact Below.refl _ _ | apply below_alloc | apply pw_below_drewN | apply below_drew1) | exact Below.refl _ _)) hb : Below w_1.heap.size w_1 w_3)
  clear hb
  have HBn := Aside0.mk (below_step HB.out HBi.out)
  clear HB
  have HB := HBn
  clear HBn
  have HS4 := Aside0.mk HBi.out.size
  clear HBi
  have hn_ := HN.out
  go_wp2
  go_ret
  exact ⟨by first | rfl | (simp; done) | (simp [*]; done), by repeat (first | (with_reducible first | exact HB.out | apply below_alloc | apply pw_below_drewN | apply below_drew1) | exact HB.out)⟩
set_option maxHeartbeats 8000000 in
set_option maxRecDepth 100000 in
theorem laws_FnExactWithoutLateCues.true_ (k : Nat) (A0 : Option Addr) (c0 : Nat) (l0 : List (S65)) (a1 : Int) (A2 : Option Addr) (c2 : Nat) (l2 : List (S82)) (a3 : Int) (a4 : Int) (A5 : Option Addr) (c5 : Nat) (l5 : List Int) (w : World) (hr0 : Kd.C k65 w A0 l0.length l0) (hc0 : l0.length ≤ c0) (hr2 : Kd.C k82 w A2 l2.length l2) (hc2 : l2.length ≤ c2) (hr5 : Kd.C (Kd.int .i64) w A5 l5.length l5) (hc5 : l5.length ≤ c5) (xs0 ext0 extb0 : List (S63)) (rm0 : Int) (xs2 ext2 extb2 : List (S59)) (rm2 : Int) (xs5 ext5 extb5 : List Int) (rm5 : Int) (t_1 : Int) (t_2 : Int) (ws_r1 : List Int) (res_r2 : Int) (gs_r1 : List Int) (mk_0 : Int) (ml_0 : List (S63)) (mk_1 : Int) (ml_1 : List (S59)) (mk_2 : Int) (ml_2 : List Int) (mk_3 : Int) (ml_3 : List Int) (hto0_ : laws_toModuleSX.f k l0 false = some ext0) (htob0_ : laws_toModuleSX.f k l0 true = some extb0) (hxl0_ : xs0.length = l0.length) (hnb0_ : extb0 = [] → l0.length = 0) (hne0_ : ¬ (ext0 = [])) (hxe0_ : xs0 = ext0.take xs0.length) (hxb0_ : xs0 = extb0.take xs0.length) (hle0_ : xs0.length ≤ ext0.length) (hlb0_ : xs0.length ≤ extb0.length) (hrm0_ : laws_roomBehind.f (xs0.length : Int) = some rm0) (hj0_ : wrap64 ((xs0.length : Int) + rm0) = (ext0.length : Int)) (heqx0_ : laws_eqModuleS.f k ext0 ext0 = some true) (hto2_ : laws_toWireSX.f k l2 false = some ext2) (htob2_ : laws_toWireSX.f k l2 true = some extb2) (hxl2_ : xs2.length = l2.length) (hnb2_ : extb2 = [] → l2.length = 0) (hne2_ : ¬ (ext2 = [])) (hxe2_ : xs2 = ext2.take xs2.length) (hxb2_ : xs2 = extb2.take xs2.length) (hle2_ : xs2.length ≤ ext2.length) (hlb2_ : xs2.length ≤ extb2.length) (hrm2_ : laws_roomBehind.f (xs2.length : Int) = some rm2) (hj2_ : wrap64 ((xs2.length : Int) + rm2) = (ext2.length : Int)) (heqx2_ : laws_eqWireS.f k ext2 ext2 = some true) (hto5_ : laws_toInt64SX.f k l5 false = some ext5) (htob5_ : laws_toInt64SX.f k l5 true = some extb5) (hxl5_ : xs5.length = l5.length) (hnb5_ : extb5 = [] → l5.length = 0) (hne5_ : ¬ (ext5 = [])) (hxe5_ : xs5 = ext5.take xs5.length) (hxb5_ : xs5 = extb5.take xs5.length) (hle5_ : xs5.length ≤ ext5.length) (hlb5_ : xs5.length ≤ extb5.length) (hrm5_ : laws_roomBehind.f (xs5.length : Int) = some rm5) (hj5_ : wrap64 ((xs5.length : Int) + rm5) = (ext5.length : Int)) (heqx5_ : laws_eqInt64S.f k ext5 ext5 = some true) (hz1_ : laws_szModuleS.f l0 (wrap64 (1000000 - ((l5.length : Int)))) = some t_1) (hn1_ : decide (t_1 < 0) = false) (hz2_ : laws_szWireS.f l2 t_1 = some t_2) (hn2_ : decide (t_2 < 0) = false) (hfspec_ : spec_WithoutLateCues.f k xs0 a1 xs2 a3 a4 xs5 = some (ws_r1, res_r2)) (hfimpl_ : impl_WithoutLateCues.f k xs0 a1 xs2 a3 a4 xs5 = some (gs_r1, res_r2)) (he_gs_r1_ws_r1_ : laws_eqInt64S.f k gs_r1 ws_r1 = some true) (hm0_ : laws_markModuleS.f k xs0 101 = some (mk_0, ml_0)) (hmn0_ : decide (mk_0 < 0) = false) (hm1_ : laws_markWireS.f k xs2 mk_0 = some (mk_1, ml_1)) (hmn1_ : decide (mk_1 < 0) = false) (hm2_ : laws_markInt64S.f k xs5 mk_1 = some (mk_2, ml_2)) (hmn2_ : decide (mk_2 < 0) = false) (hm3_ : laws_markInt64S.f k gs_r1 101 = some (mk_3, ml_3)) (hmn3_ : decide (mk_3 < 0) = false) (hml3_ : gs_r1.length = ml_3.length) (hh_ml_3_ : laws_heldInt64S.f k ml_3 101 = some mk_3) :
    Calls Try.prog 10 #[.slice A0 l0.length c0, .int .i64 a1, .slice A2 l2.length c2, .int .i64 a3, .int .i64 a4, .slice A5 l5.length c5] w fun e w' => e = .returned (.bool true) ∧ Below w.heap.size w w' := by
  have HR0 := Aside0.mk hr0
  have HC0 := Aside0.mk hc0
  have HR2 := Aside0.mk hr2
  have HC2 := Aside0.mk hc2
  have HR5 := Aside0.mk hr5
  have HC5 := Aside0.mk hc5
  clear hr0 hc0 hr2 hc2 hr5 hc5
  have HTO0 := Aside0.mk hto0_
  have HTOB0 := Aside0.mk htob0_
  have HXL0 := Aside0.mk hxl0_
  have HNB0 := Aside0.mk hnb0_
  have HNE0 := Aside0.mk hne0_
  have HXE0 := Aside0.mk hxe0_
  have HXB0 := Aside0.mk hxb0_
  have HLE0 := Aside0.mk hle0_
  have HLB0 := Aside0.mk hlb0_
  have HRM0 := Aside0.mk hrm0_
  have HJ0 := Aside0.mk hj0_
  have HEQX0 := Aside0.mk heqx0_
  have HTO2 := Aside0.mk hto2_
  have HTOB2 := Aside0.mk htob2_
  have HXL2 := Aside0.mk hxl2_
  have HNB2 := Aside0.mk hnb2_
  have HNE2 := Aside0.mk hne2_
  have HXE2 := Aside0.mk hxe2_
  have HXB2 := Aside0.mk hxb2_
  have HLE2 := Aside0.mk hle2_
  have HLB2 := Aside0.mk hlb2_
  have HRM2 := Aside0.mk hrm2_
  have HJ2 := Aside0.mk hj2_
  have HEQX2 := Aside0.mk heqx2_
  have HTO5 := Aside0.mk hto5_
  have HTOB5 := Aside0.mk htob5_
  have HXL5 := Aside0.mk hxl5_
  have HNB5 := Aside0.mk hnb5_
  have HNE5 := Aside0.mk hne5_
  have HXE5 := Aside0.mk hxe5_
  have HXB5 := Aside0.mk hxb5_
  have HLE5 := Aside0.mk hle5_
  have HLB5 := Aside0.mk hlb5_
  have HRM5 := Aside0.mk hrm5_
  have HJ5 := Aside0.mk hj5_
  have HEQX5 := Aside0.mk heqx5_
  have HZ1 := Aside0.mk hz1_
  have HN1 := Aside0.mk hn1_
  have HZ2 := Aside0.mk hz2_
  have HN2 := Aside0.mk hn2_
  have HFspec := Aside0.mk hfspec_
  have HFimpl := Aside0.mk hfimpl_
  have HE_gs_r1_ws_r1 := Aside0.mk he_gs_r1_ws_r1_
  have HM0 := Aside0.mk hm0_
  have HMN0 := Aside0.mk hmn0_
  have HM1 := Aside0.mk hm1_
  have HMN1 := Aside0.mk hmn1_
  have HM2 := Aside0.mk hm2_
  have HMN2 := Aside0.mk hmn2_
  have HM3 := Aside0.mk hm3_
  have HMN3 := Aside0.mk hmn3_
  have HML3 := Aside0.mk hml3_
  have HH_ml_3 := Aside0.mk hh_ml_3_
  clear hto0_ htob0_ hxl0_ hnb0_ hne0_ hxe0_ hxb0_ hle0_ hlb0_ hrm0_ hj0_ heqx0_ hto2_ htob2_ hxl2_ hnb2_ hne2_ hxe2_ hxb2_ hle2_ hlb2_ hrm2_ hj2_ heqx2_ hto5_ htob5_ hxl5_ hnb5_ hne5_ hxe5_ hxb5_ hle5_ hlb5_ hrm5_ hj5_ heqx5_ hz1_ hn1_ hz2_ hn2_ hfspec_ hfimpl_ he_gs_r1_ws_r1_ hm0_ hmn0_ hm1_ hmn1_ hm2_ hmn2_ hm3_ hmn3_ hml3_ hh_ml_3_
  have HB := Aside0.mk (Below.refl w.heap.size w)
  go_enter Try.func10, Try.ntmps10
  go_wp2_with (fail)
  go_at_call 11
  (with_reducible refine (laws_szModuleS.calls _ _ l0 (wrap64 (1000000 - ((l5.length : Int)))) t_1 _ ?side1 ?side2 HZ1.out).mono ?_)
  (case side1 => repeat (first | exact HR0.out | exact (Kd.C_below HR0.out HB.out) | (with_reducible refine Kd.C_alloc ?_ _) | (with_reducible refine Kd.C_drewN ?_ _) | (with_reducible refine Kd.C_drew ?_)))
  (case side2 => exact HC0.out)
  rintro e w_1 ⟨rfl, hd⟩
  have hb := hd.below
  clear hd
  have HBi := Aside0.mk (below_step (by repeat (first | (with_reducible first | exact Below.refl _ _ | apply below_alloc | apply pw_below_drewN | apply below_drew1) | exact Below.refl _ _)) hb : Below w.heap.size w w_1)
  clear hb
  have HBn := Aside0.mk (below_step HB.out HBi.out)
  clear HB
  have HB := HBn
  clear HBn
  have HS2 := Aside0.mk HBi.out.size
  clear HBi
  have hn_ := HN1.out
  go_wp2_with (fail)
  clear hn_
  go_wp2_with (fail)
  go_at_call 36
  (with_reducible refine (laws_szWireS.calls _ _ l2 t_1 t_2 _ ?side1 ?side2 HZ2.out).mono ?_)
  (case side1 => repeat (first | exact HR2.out | exact (Kd.C_below HR2.out HB.out) | (with_reducible refine Kd.C_alloc ?_ _) | (with_reducible refine Kd.C_drewN ?_ _) | (with_reducible refine Kd.C_drew ?_)))
  (case side2 => exact HC2.out)
  rintro e w_3 ⟨rfl, hd⟩
  have hb := hd.below
  clear hd
  have HBi := Aside0.mk (below_step (by repeat (first | (with_reducible first | exact Below.refl _ _ | apply below_alloc | apply pw_below_drewN | apply below_drew1) | exact Below.refl _ _)) hb : Below w_1.heap.size w_1 w_3)
  clear hb
  have HBn := Aside0.mk (below_step HB.out HBi.out)
  clear HB
  have HB := HBn
  clear HBn
  have HS4 := Aside0.mk HBi.out.size
  clear HBi
  have hn_ := HN2.out
  go_wp2_with (fail)
  clear hn_
  go_wp2_with (fail)
  go_at_call 13
  (with_reducible refine (laws_toModuleSX.calls k _ _ l0 false ext0 _ ?side1 ?side2 HTO0.out).mono ?_)
  (case side1 => repeat (first | exact HR0.out | exact (Kd.C_below HR0.out HB.out) | (with_reducible refine Kd.C_alloc ?_ _) | (with_reducible refine Kd.C_drewN ?_ _) | (with_reducible refine Kd.C_drew ?_)))
  (case side2 => exact HC0.out)
  rintro e w_5 ⟨Ao7, no8, co9, rfl, hn, ho, hb⟩
  obtain rfl : no8 = xs0.length := hn.full HXL0.out HNE0.out
  clear hn
  have ho1 := Aside0.mk (Kd.R_lower (R_span ho) (Nat.le_trans HB.out.size (by repeat (first | (with_reducible first | exact Below.refl _ _ | apply below_alloc | apply pw_below_drewN | apply below_drew1) | exact Below.refl _ _) : Below w_3.heap.size w_3 _).size))
  clear ho
  have HBi := Aside0.mk (below_step (by repeat (first | (with_reducible first | exact Below.refl _ _ | apply below_alloc | apply pw_below_drewN | apply below_drew1) | exact Below.refl _ _)) hb : Below w_3.heap.size w_3 w_5)
  clear hb
  have HBn := Aside0.mk (below_step HB.out HBi.out)
  clear HB
  have HB := HBn
  clear HBn
  have HS10 := Aside0.mk HBi.out.size
  clear HBi
  have HO6 := Aside0.mk (Kd.R_mono (ok' := fun k_ => w_3.heap.size ≤ k_ ∧ k_ < w_5.heap.size) ho1.out (fun k_ hk_ => hk_))
  clear ho1
  go_wp2_with (fail)
  go_at_call 38
  (with_reducible refine (laws_toWireSX.calls k _ _ l2 false ext2 _ ?side1 ?side2 HTO2.out).mono ?_)
  (case side1 => repeat (first | exact HR2.out | exact (Kd.C_below HR2.out HB.out) | (with_reducible refine Kd.C_alloc ?_ _) | (with_reducible refine Kd.C_drewN ?_ _) | (with_reducible refine Kd.C_drew ?_)))
  (case side2 => exact HC2.out)
  rintro e w_11 ⟨Ao13, no14, co15, rfl, hn, ho, hb⟩
  obtain rfl : no14 = xs2.length := hn.full HXL2.out HNE2.out
  clear hn
  have ho1 := Aside0.mk (Kd.R_lower (R_span ho) (Nat.le_trans HB.out.size (by repeat (first | (with_reducible first | exact Below.refl _ _ | apply below_alloc | apply pw_below_drewN | apply below_drew1) | exact Below.refl _ _) : Below w_5.heap.size w_5 _).size))
  clear ho
  have HBi := Aside0.mk (below_step (by repeat (first | (with_reducible first | exact Below.refl _ _ | apply below_alloc | apply pw_below_drewN | apply below_drew1) | exact Below.refl _ _)) hb : Below w_5.heap.size w_5 w_11)
  clear hb
  have HBn := Aside0.mk (below_step HB.out HBi.out)
  clear HB
  have HB := HBn
  clear HBn
  have HS16 := Aside0.mk HBi.out.size
  have n0_ := Aside0.mk (Kd.R_below HO6.out HBi.out)
  clear HO6
  have HO6 := n0_
  clear n0_
  clear HBi
  have HO12 := Aside0.mk (Kd.R_mono (ok' := fun k_ => w_5.heap.size ≤ k_ ∧ k_ < w_11.heap.size) ho1.out (fun k_ hk_ => hk_))
  clear ho1
  go_wp2_with (fail)
  go_at_call 39
  (with_reducible refine (laws_toInt64SX.calls k _ _ l5 false ext5 _ ?side1 ?side2 HTO5.out).mono ?_)
  (case side1 => repeat (first | exact HR5.out | exact (Kd.C_below HR5.out HB.out) | (with_reducible refine Kd.C_alloc ?_ _) | (with_reducible refine Kd.C_drewN ?_ _) | (with_reducible refine Kd.C_drew ?_)))
  (case side2 => exact HC5.out)
  rintro e w_17 ⟨Ao19, no20, co21, rfl, hn, ho, hb⟩
  obtain rfl : no20 = xs5.length := hn.full HXL5.out HNE5.out
  clear hn
  have ho1 := Aside0.mk (Kd.R_lower (R_span ho) (Nat.le_trans HB.out.size (by repeat (first | (with_reducible first | exact Below.refl _ _ | apply below_alloc | apply pw_below_drewN | apply below_drew1) | exact Below.refl _ _) : Below w_11.heap.size w_11 _).size))
  clear ho
  have HBi := Aside0.mk (below_step (by repeat (first | (with_reducible first | exact Below.refl _ _ | apply below_alloc | apply pw_below_drewN | apply below_drew1) | exact Below.refl _ _)) hb : Below w_11.heap.size w_11 w_17)
  clear hb
  have HBn := Aside0.mk (below_step HB.out HBi.out)
  clear HB
  have HB := HBn
  clear HBn
  have HS22 := Aside0.mk HBi.out.size
  have n0_ := Aside0.mk (Kd.R_below HO6.out HBi.out)
  clear HO6
  have HO6 := n0_
  clear n0_
  have n0_ := Aside0.mk (Kd.R_below HO12.out HBi.out)
  clear HO12
  have HO12 := n0_
  clear n0_
  clear HBi
  have HO18 := Aside0.mk (Kd.R_mono (ok' := fun k_ => w_11.heap.size ≤ k_ ∧ k_ < w_17.heap.size) ho1.out (fun k_ hk_ => hk_))
  clear ho1
  go_wp2_with (fail)
  go_at_call 48
  (with_reducible refine (spec_WithoutLateCues.calls k _ _ xs0 a1 _ _ xs2 a3 a4 _ _ xs5 ws_r1 res_r2 _ ?side1 ?side2 ?side3 ?side4 ?side5 ?side6 HFspec.out).mono ?_)
  (case side1 => repeat (first | exact C_ext (Kd.R_reads' HO6.out).2.2 HXE0.out HLE0.out | (with_reducible refine Kd.C_alloc ?_ _) | (with_reducible refine Kd.C_drewN ?_ _) | (with_reducible refine Kd.C_drew ?_)))
  (case side2 => exact Nat.le_trans HLE0.out (Kd.R_reads' HO6.out).2.1)
  (case side3 => repeat (first | exact C_ext (Kd.R_reads' HO12.out).2.2 HXE2.out HLE2.out | (with_reducible refine Kd.C_alloc ?_ _) | (with_reducible refine Kd.C_drewN ?_ _) | (with_reducible refine Kd.C_drew ?_)))
  (case side4 => exact Nat.le_trans HLE2.out (Kd.R_reads' HO12.out).2.1)
  (case side5 => repeat (first | exact C_ext (Kd.R_reads' HO18.out).2.2 HXE5.out HLE5.out | (with_reducible refine Kd.C_alloc ?_ _) | (with_reducible refine Kd.C_drewN ?_ _) | (with_reducible refine Kd.C_drew ?_)))
  (case side6 => exact Nat.le_trans HLE5.out (Kd.R_reads' HO18.out).2.1)
  rintro e w_23 ⟨v_24, rfl, ho, hb⟩
  have ho1 := Aside0.mk (Kd.R_lower (R_span ho) (Nat.le_trans HB.out.size (by repeat (first | (with_reducible first | exact Below.refl _ _ | apply below_alloc | apply pw_below_drewN | apply below_drew1) | exact Below.refl _ _) : Below w_17.heap.size w_17 _).size))
  clear ho
  have HBi := Aside0.mk (below_step (by repeat (first | (with_reducible first | exact Below.refl _ _ | apply below_alloc | apply pw_below_drewN | apply below_drew1) | exact Below.refl _ _)) hb : Below w_17.heap.size w_17 w_23)
  clear hb
  have HBn := Aside0.mk (below_step HB.out HBi.out)
  clear HB
  have HB := HBn
  clear HBn
  have HS29 := Aside0.mk HBi.out.size
  have n0_ := Aside0.mk (Kd.R_below HO6.out HBi.out)
  clear HO6
  have HO6 := n0_
  clear n0_
  have n0_ := Aside0.mk (Kd.R_below HO12.out HBi.out)
  clear HO12
  have HO12 := n0_
  clear n0_
  have n0_ := Aside0.mk (Kd.R_below HO18.out HBi.out)
  clear HO18
  have HO18 := n0_
  clear n0_
  clear HBi
  obtain ⟨Ao26, co27, eo28⟩ := Kd.R_slice ho1.out
  subst eo28
  have HO25 := Aside0.mk (Kd.R_mono (ok' := fun k_ => w_17.heap.size ≤ k_ ∧ k_ < w_23.heap.size) ho1.out (fun k_ hk_ => hk_))
  clear ho1
  clear HO6
  clear HO12
  clear HO18
  go_wp2_with (fail)
  go_at_call 13
  (with_reducible refine (laws_toModuleSX.calls k _ _ l0 false ext0 _ ?side1 ?side2 HTO0.out).mono ?_)
  (case side1 => repeat (first | exact HR0.out | exact (Kd.C_below HR0.out HB.out) | (with_reducible refine Kd.C_alloc ?_ _) | (with_reducible refine Kd.C_drewN ?_ _) | (with_reducible refine Kd.C_drew ?_)))
  (case side2 => exact HC0.out)
  rintro e w_30 ⟨Ao32, no33, co34, rfl, hn, ho, hb⟩
  obtain rfl : no33 = xs0.length := hn.full HXL0.out HNE0.out
  clear hn
  have ho1 := Aside0.mk (Kd.R_lower (R_span ho) (Nat.le_trans HB.out.size (by repeat (first | (with_reducible first | exact Below.refl _ _ | apply below_alloc | apply pw_below_drewN | apply below_drew1) | exact Below.refl _ _) : Below w_23.heap.size w_23 _).size))
  clear ho
  have HBi := Aside0.mk (below_step (by repeat (first | (with_reducible first | exact Below.refl _ _ | apply below_alloc | apply pw_below_drewN | apply below_drew1) | exact Below.refl _ _)) hb : Below w_23.heap.size w_23 w_30)
  clear hb
  have HBn := Aside0.mk (below_step HB.out HBi.out)
  clear HB
  have HB := HBn
  clear HBn
  have HS35 := Aside0.mk HBi.out.size
  have n0_ := Aside0.mk (Kd.R_below HO25.out HBi.out)
  clear HO25
  have HO25 := n0_
  clear n0_
  clear HBi
  have HO31 := Aside0.mk (Kd.R_mono (ok' := fun k_ => w_23.heap.size ≤ k_ ∧ k_ < w_30.heap.size) ho1.out (fun k_ hk_ => hk_))
  clear ho1
  go_wp2_with (fail)
  go_at_call 38
  (with_reducible refine (laws_toWireSX.calls k _ _ l2 false ext2 _ ?side1 ?side2 HTO2.out).mono ?_)
  (case side1 => repeat (first | exact HR2.out | exact (Kd.C_below HR2.out HB.out) | (with_reducible refine Kd.C_alloc ?_ _) | (with_reducible refine Kd.C_drewN ?_ _) | (with_reducible refine Kd.C_drew ?_)))
  (case side2 => exact HC2.out)
  rintro e w_36 ⟨Ao38, no39, co40, rfl, hn, ho, hb⟩
  obtain rfl : no39 = xs2.length := hn.full HXL2.out HNE2.out
  clear hn
  have ho1 := Aside0.mk (Kd.R_lower (R_span ho) (Nat.le_trans HB.out.size (by repeat (first | (with_reducible first | exact Below.refl _ _ | apply below_alloc | apply pw_below_drewN | apply below_drew1) | exact Below.refl _ _) : Below w_30.heap.size w_30 _).size))
  clear ho
  have HBi := Aside0.mk (below_step (by repeat (first | (with_reducible first | exact Below.refl _ _ | apply below_alloc | apply pw_below_drewN | apply below_drew1) | exact Below.refl _ _)) hb : Below w_30.heap.size w_30 w_36)
  clear hb
  have HBn := Aside0.mk (below_step HB.out HBi.out)
  clear HB
  have HB := HBn
  clear HBn
  have HS41 := Aside0.mk HBi.out.size
  have n0_ := Aside0.mk (Kd.R_below HO25.out HBi.out)
  clear HO25
  have HO25 := n0_
  clear n0_
  have n0_ := Aside0.mk (Kd.R_below HO31.out HBi.out)
  clear HO31
  have HO31 := n0_
  clear n0_
  clear HBi
  have HO37 := Aside0.mk (Kd.R_mono (ok' := fun k_ => w_30.heap.size ≤ k_ ∧ k_ < w_36.heap.size) ho1.out (fun k_ hk_ => hk_))
  clear ho1
  go_wp2_with (fail)
  go_at_call 39
  (with_reducible refine (laws_toInt64SX.calls k _ _ l5 false ext5 _ ?side1 ?side2 HTO5.out).mono ?_)
  (case side1 => repeat (first | exact HR5.out | exact (Kd.C_below HR5.out HB.out) | (with_reducible refine Kd.C_alloc ?_ _) | (with_reducible refine Kd.C_drewN ?_ _) | (with_reducible refine Kd.C_drew ?_)))
  (case side2 => exact HC5.out)
  rintro e w_42 ⟨Ao44, no45, co46, rfl, hn, ho, hb⟩
  obtain rfl : no45 = xs5.length := hn.full HXL5.out HNE5.out
  clear hn
  have ho1 := Aside0.mk (Kd.R_lower (R_span ho) (Nat.le_trans HB.out.size (by repeat (first | (with_reducible first | exact Below.refl _ _ | apply below_alloc | apply pw_below_drewN | apply below_drew1) | exact Below.refl _ _) : Below w_36.heap.size w_36 _).size))
  clear ho
  have HBi := Aside0.mk (below_step (by repeat (first | (with_reducible first | exact Below.refl _ _ | apply below_alloc | apply pw_below_drewN | apply below_drew1) | exact Below.refl _ _)) hb : Below w_36.heap.size w_36 w_42)
  clear hb
  have HBn := Aside0.mk (below_step HB.out HBi.out)
  clear HB
  have HB := HBn
  clear HBn
  have HS47 := Aside0.mk HBi.out.size
  have n0_ := Aside0.mk (Kd.R_below HO25.out HBi.out)
  clear HO25
  have HO25 := n0_
  clear n0_
  have n0_ := Aside0.mk (Kd.R_below HO31.out HBi.out)
  clear HO31
  have HO31 := n0_
  clear n0_
  have n0_ := Aside0.mk (Kd.R_below HO37.out HBi.out)
  clear HO37
  have HO37 := n0_
  clear n0_
  clear HBi
  have HO43 := Aside0.mk (Kd.R_mono (ok' := fun k_ => w_36.heap.size ≤ k_ ∧ k_ < w_42.heap.size) ho1.out (fun k_ hk_ => hk_))
  clear ho1
  go_wp2_with (fail)
  go_at_call 47
  (with_reducible refine (impl_WithoutLateCues.calls k _ _ xs0 a1 _ _ xs2 a3 a4 _ _ xs5 gs_r1 res_r2 _ ?side1 ?side2 ?side3 ?side4 ?side5 ?side6 HFimpl.out).mono ?_)
  (case side1 => repeat (first | exact C_ext (Kd.R_reads' HO31.out).2.2 HXE0.out HLE0.out | (with_reducible refine Kd.C_alloc ?_ _) | (with_reducible refine Kd.C_drewN ?_ _) | (with_reducible refine Kd.C_drew ?_)))
  (case side2 => exact Nat.le_trans HLE0.out (Kd.R_reads' HO31.out).2.1)
  (case side3 => repeat (first | exact C_ext (Kd.R_reads' HO37.out).2.2 HXE2.out HLE2.out | (with_reducible refine Kd.C_alloc ?_ _) | (with_reducible refine Kd.C_drewN ?_ _) | (with_reducible refine Kd.C_drew ?_)))
  (case side4 => exact Nat.le_trans HLE2.out (Kd.R_reads' HO37.out).2.1)
  (case side5 => repeat (first | exact C_ext (Kd.R_reads' HO43.out).2.2 HXE5.out HLE5.out | (with_reducible refine Kd.C_alloc ?_ _) | (with_reducible refine Kd.C_drewN ?_ _) | (with_reducible refine Kd.C_drew ?_)))
  (case side6 => exact Nat.le_trans HLE5.out (Kd.R_reads' HO43.out).2.1)
  rintro e w_48 ⟨v_49, rfl, ho, hb⟩
  have ho1 := Aside0.mk (Kd.R_lower (R_span ho) (Nat.le_trans HB.out.size (by repeat (first | (with_reducible first | exact Below.refl _ _ | apply below_alloc | apply pw_below_drewN | apply below_drew1) | exact Below.refl _ _) : Below w_42.heap.size w_42 _).size))
  clear ho
  have HBi := Aside0.mk (below_step (by repeat (first | (with_reducible first | exact Below.refl _ _ | apply below_alloc | apply pw_below_drewN | apply below_drew1) | exact Below.refl _ _)) hb : Below w_42.heap.size w_42 w_48)
  clear hb
  have HBn := Aside0.mk (below_step HB.out HBi.out)
  clear HB
  have HB := HBn
  clear HBn
  have HS54 := Aside0.mk HBi.out.size
  have n0_ := Aside0.mk (Kd.R_below HO25.out HBi.out)
  clear HO25
  have HO25 := n0_
  clear n0_
  have n0_ := Aside0.mk (Kd.R_below HO31.out HBi.out)
  clear HO31
  have HO31 := n0_
  clear n0_
  have n0_ := Aside0.mk (Kd.R_below HO37.out HBi.out)
  clear HO37
  have HO37 := n0_
  clear n0_
  have n0_ := Aside0.mk (Kd.R_below HO43.out HBi.out)
  clear HO43
  have HO43 := n0_
  clear n0_
  clear HBi
  obtain ⟨Ao51, co52, eo53⟩ := Kd.R_slice ho1.out
  subst eo53
  have HO50 := Aside0.mk (Kd.R_mono (ok' := fun k_ => w_42.heap.size ≤ k_ ∧ k_ < w_48.heap.size) ho1.out (fun k_ hk_ => hk_))
  clear ho1
  go_wp2_with (fail)
  go_at_call 20
  (with_reducible refine (laws_eqInt64S.calls k _ _ gs_r1 _ _ ws_r1 true _ ?side1 ?side2 ?side3 ?side4 HE_gs_r1_ws_r1.out).mono ?_)
  (case side1 => repeat (first | exact (Kd.R_reads' HO50.out).2.2 | (with_reducible refine Kd.C_alloc ?_ _) | (with_reducible refine Kd.C_drewN ?_ _) | (with_reducible refine Kd.C_drew ?_)))
  (case side2 => exact (Kd.R_reads' HO50.out).2.1)
  (case side3 => repeat (first | exact (Kd.R_reads' HO25.out).2.2 | (with_reducible refine Kd.C_alloc ?_ _) | (with_reducible refine Kd.C_drewN ?_ _) | (with_reducible refine Kd.C_drew ?_)))
  (case side4 => exact (Kd.R_reads' HO25.out).2.1)
  rintro e w_55 ⟨rfl, hd⟩
  have hb := hd.below
  clear hd
  have HBi := Aside0.mk (below_step (by repeat (first | (with_reducible first | exact Below.refl _ _ | apply below_alloc | apply pw_below_drewN | apply below_drew1) | exact Below.refl _ _)) hb : Below w_48.heap.size w_48 w_55)
  clear hb
  have HBn := Aside0.mk (below_step HB.out HBi.out)
  clear HB
  have HB := HBn
  clear HBn
  have HS56 := Aside0.mk HBi.out.size
  have n0_ := Aside0.mk (Kd.R_below HO25.out HBi.out)
  clear HO25
  have HO25 := n0_
  clear n0_
  have n0_ := Aside0.mk (Kd.R_below HO31.out HBi.out)
  clear HO31
  have HO31 := n0_
  clear n0_
  have n0_ := Aside0.mk (Kd.R_below HO37.out HBi.out)
  clear HO37
  have HO37 := n0_
  clear n0_
  have n0_ := Aside0.mk (Kd.R_below HO43.out HBi.out)
  clear HO43
  have HO43 := n0_
  clear n0_
  have n0_ := Aside0.mk (Kd.R_below HO50.out HBi.out)
  clear HO50
  have HO50 := n0_
  clear n0_
  clear HBi
  go_wp2_with (fail)
  go_at_call 13
  (with_reducible refine (laws_toModuleSX.calls k _ _ l0 false ext0 _ ?side1 ?side2 HTO0.out).mono ?_)
  (case side1 => repeat (first | exact HR0.out | exact (Kd.C_below HR0.out HB.out) | (with_reducible refine Kd.C_alloc ?_ _) | (with_reducible refine Kd.C_drewN ?_ _) | (with_reducible refine Kd.C_drew ?_)))
  (case side2 => exact HC0.out)
  rintro e w_57 ⟨Ao59, no60, co61, rfl, hn, ho, hb⟩
  obtain rfl : no60 = xs0.length := hn.full HXL0.out HNE0.out
  clear hn
  have ho1 := Aside0.mk (Kd.R_lower (R_span ho) (Nat.le_trans HB.out.size (by repeat (first | (with_reducible first | exact Below.refl _ _ | apply below_alloc | apply pw_below_drewN | apply below_drew1) | exact Below.refl _ _) : Below w_55.heap.size w_55 _).size))
  clear ho
  have HBi := Aside0.mk (below_step (by repeat (first | (with_reducible first | exact Below.refl _ _ | apply below_alloc | apply pw_below_drewN | apply below_drew1) | exact Below.refl _ _)) hb : Below w_55.heap.size w_55 w_57)
  clear hb
  have HBn := Aside0.mk (below_step HB.out HBi.out)
  clear HB
  have HB := HBn
  clear HBn
  have HS62 := Aside0.mk HBi.out.size
  have n0_ := Aside0.mk (Kd.R_below HO25.out HBi.out)
  clear HO25
  have HO25 := n0_
  clear n0_
  have n0_ := Aside0.mk (Kd.R_below HO31.out HBi.out)
  clear HO31
  have HO31 := n0_
  clear n0_
  have n0_ := Aside0.mk (Kd.R_below HO37.out HBi.out)
  clear HO37
  have HO37 := n0_
  clear n0_
  have n0_ := Aside0.mk (Kd.R_below HO43.out HBi.out)
  clear HO43
  have HO43 := n0_
  clear n0_
  have n0_ := Aside0.mk (Kd.R_below HO50.out HBi.out)
  clear HO50
  have HO50 := n0_
  clear n0_
  clear HBi
  have HO58 := Aside0.mk (Kd.R_mono (ok' := fun k_ => w_55.heap.size ≤ k_ ∧ k_ < w_57.heap.size) ho1.out (fun k_ hk_ => hk_))
  clear ho1
  go_wp2_with (fail)
  go_at_call 15
  (with_reducible refine (laws_intactModuleSX.calls k _ _ ext0 _ _ ext0 xs0.length rm0 true _ ?side1 ?side2 ?side3 ?side4 HRM0.out HJ0.out rfl HEQX0.out).mono ?_)
  (case side1 => repeat (first | exact (Kd.R_reads' HO31.out).2.2 | (with_reducible refine Kd.C_alloc ?_ _) | (with_reducible refine Kd.C_drewN ?_ _) | (with_reducible refine Kd.C_drew ?_)))
  (case side2 => exact (Kd.R_reads' HO31.out).2.1)
  (case side3 => repeat (first | exact (Kd.R_reads' HO58.out).2.2 | (with_reducible refine Kd.C_alloc ?_ _) | (with_reducible refine Kd.C_drewN ?_ _) | (with_reducible refine Kd.C_drew ?_)))
  (case side4 => exact (Kd.R_reads' HO58.out).2.1)
  rintro e w_63 ⟨rfl, hb⟩
  have HBi := Aside0.mk (below_step (by repeat (first | (with_reducible first | exact Below.refl _ _ | apply below_alloc | apply pw_below_drewN | apply below_drew1) | exact Below.refl _ _)) hb : Below w_57.heap.size w_57 w_63)
  clear hb
  have HBn := Aside0.mk (below_step HB.out HBi.out)
  clear HB
  have HB := HBn
  clear HBn
  have HS64 := Aside0.mk HBi.out.size
  have n0_ := Aside0.mk (Kd.R_below HO25.out HBi.out)
  clear HO25
  have HO25 := n0_
  clear n0_
  have n0_ := Aside0.mk (Kd.R_below HO31.out HBi.out)
  clear HO31
  have HO31 := n0_
  clear n0_
  have n0_ := Aside0.mk (Kd.R_below HO37.out HBi.out)
  clear HO37
  have HO37 := n0_
  clear n0_
  have n0_ := Aside0.mk (Kd.R_below HO43.out HBi.out)
  clear HO43
  have HO43 := n0_
  clear n0_
  have n0_ := Aside0.mk (Kd.R_below HO50.out HBi.out)
  clear HO50
  have HO50 := n0_
  clear n0_
  have n0_ := Aside0.mk (Kd.R_below HO58.out HBi.out)
  clear HO58
  have HO58 := n0_
  clear n0_
  clear HBi
  clear HO58
  go_wp2_with (fail)
  go_at_call 38
  (with_reducible refine (laws_toWireSX.calls k _ _ l2 false ext2 _ ?side1 ?side2 HTO2.out).mono ?_)
  (case side1 => repeat (first | exact HR2.out | exact (Kd.C_below HR2.out HB.out) | (with_reducible refine Kd.C_alloc ?_ _) | (with_reducible refine Kd.C_drewN ?_ _) | (with_reducible refine Kd.C_drew ?_)))
  (case side2 => exact HC2.out)
  rintro e w_65 ⟨Ao67, no68, co69, rfl, hn, ho, hb⟩
  obtain rfl : no68 = xs2.length := hn.full HXL2.out HNE2.out
  clear hn
  have ho1 := Aside0.mk (Kd.R_lower (R_span ho) (Nat.le_trans HB.out.size (by repeat (first | (with_reducible first | exact Below.refl _ _ | apply below_alloc | apply pw_below_drewN | apply below_drew1) | exact Below.refl _ _) : Below w_63.heap.size w_63 _).size))
  clear ho
  have HBi := Aside0.mk (below_step (by repeat (first | (with_reducible first | exact Below.refl _ _ | apply below_alloc | apply pw_below_drewN | apply below_drew1) | exact Below.refl _ _)) hb : Below w_63.heap.size w_63 w_65)
  clear hb
  have HBn := Aside0.mk (below_step HB.out HBi.out)
  clear HB
  have HB := HBn
  clear HBn
  have HS70 := Aside0.mk HBi.out.size
  have n0_ := Aside0.mk (Kd.R_below HO25.out HBi.out)
  clear HO25
  have HO25 := n0_
  clear n0_
  have n0_ := Aside0.mk (Kd.R_below HO31.out HBi.out)
  clear HO31
  have HO31 := n0_
  clear n0_
  have n0_ := Aside0.mk (Kd.R_below HO37.out HBi.out)
  clear HO37
  have HO37 := n0_
  clear n0_
  have n0_ := Aside0.mk (Kd.R_below HO43.out HBi.out)
  clear HO43
  have HO43 := n0_
  clear n0_
  have n0_ := Aside0.mk (Kd.R_below HO50.out HBi.out)
  clear HO50
  have HO50 := n0_
  clear n0_
  clear HBi
  have HO66 := Aside0.mk (Kd.R_mono (ok' := fun k_ => w_63.heap.size ≤ k_ ∧ k_ < w_65.heap.size) ho1.out (fun k_ hk_ => hk_))
  clear ho1
  go_wp2_with (fail)
  go_at_call 41
  (with_reducible refine (laws_intactWireSX.calls k _ _ ext2 _ _ ext2 xs2.length rm2 true _ ?side1 ?side2 ?side3 ?side4 HRM2.out HJ2.out rfl HEQX2.out).mono ?_)
  (case side1 => repeat (first | exact (Kd.R_reads' HO37.out).2.2 | (with_reducible refine Kd.C_alloc ?_ _) | (with_reducible refine Kd.C_drewN ?_ _) | (with_reducible refine Kd.C_drew ?_)))
  (case side2 => exact (Kd.R_reads' HO37.out).2.1)
  (case side3 => repeat (first | exact (Kd.R_reads' HO66.out).2.2 | (with_reducible refine Kd.C_alloc ?_ _) | (with_reducible refine Kd.C_drewN ?_ _) | (with_reducible refine Kd.C_drew ?_)))
  (case side4 => exact (Kd.R_reads' HO66.out).2.1)
  rintro e w_71 ⟨rfl, hb⟩
  have HBi := Aside0.mk (below_step (by repeat (first | (with_reducible first | exact Below.refl _ _ | apply below_alloc | apply pw_below_drewN | apply below_drew1) | exact Below.refl _ _)) hb : Below w_65.heap.size w_65 w_71)
  clear hb
  have HBn := Aside0.mk (below_step HB.out HBi.out)
  clear HB
  have HB := HBn
  clear HBn
  have HS72 := Aside0.mk HBi.out.size
  have n0_ := Aside0.mk (Kd.R_below HO25.out HBi.out)
  clear HO25
  have HO25 := n0_
  clear n0_
  have n0_ := Aside0.mk (Kd.R_below HO31.out HBi.out)
  clear HO31
  have HO31 := n0_
  clear n0_
  have n0_ := Aside0.mk (Kd.R_below HO37.out HBi.out)
  clear HO37
  have HO37 := n0_
  clear n0_
  have n0_ := Aside0.mk (Kd.R_below HO43.out HBi.out)
  clear HO43
  have HO43 := n0_
  clear n0_
  have n0_ := Aside0.mk (Kd.R_below HO50.out HBi.out)
  clear HO50
  have HO50 := n0_
  clear n0_
  have n0_ := Aside0.mk (Kd.R_below HO66.out HBi.out)
  clear HO66
  have HO66 := n0_
  clear n0_
  clear HBi
  clear HO66
  go_wp2_with (fail)
  go_at_call 39
  (with_reducible refine (laws_toInt64SX.calls k _ _ l5 false ext5 _ ?side1 ?side2 HTO5.out).mono ?_)
  (case side1 => repeat (first | exact HR5.out | exact (Kd.C_below HR5.out HB.out) | (with_reducible refine Kd.C_alloc ?_ _) | (with_reducible refine Kd.C_drewN ?_ _) | (with_reducible refine Kd.C_drew ?_)))
  (case side2 => exact HC5.out)
  rintro e w_73 ⟨Ao75, no76, co77, rfl, hn, ho, hb⟩
  obtain rfl : no76 = xs5.length := hn.full HXL5.out HNE5.out
  clear hn
  have ho1 := Aside0.mk (Kd.R_lower (R_span ho) (Nat.le_trans HB.out.size (by repeat (first | (with_reducible first | exact Below.refl _ _ | apply below_alloc | apply pw_below_drewN | apply below_drew1) | exact Below.refl _ _) : Below w_71.heap.size w_71 _).size))
  clear ho
  have HBi := Aside0.mk (below_step (by repeat (first | (with_reducible first | exact Below.refl _ _ | apply below_alloc | apply pw_below_drewN | apply below_drew1) | exact Below.refl _ _)) hb : Below w_71.heap.size w_71 w_73)
  clear hb
  have HBn := Aside0.mk (below_step HB.out HBi.out)
  clear HB
  have HB := HBn
  clear HBn
  have HS78 := Aside0.mk HBi.out.size
  have n0_ := Aside0.mk (Kd.R_below HO25.out HBi.out)
  clear HO25
  have HO25 := n0_
  clear n0_
  have n0_ := Aside0.mk (Kd.R_below HO31.out HBi.out)
  clear HO31
  have HO31 := n0_
  clear n0_
  have n0_ := Aside0.mk (Kd.R_below HO37.out HBi.out)
  clear HO37
  have HO37 := n0_
  clear n0_
  have n0_ := Aside0.mk (Kd.R_below HO43.out HBi.out)
  clear HO43
  have HO43 := n0_
  clear n0_
  have n0_ := Aside0.mk (Kd.R_below HO50.out HBi.out)
  clear HO50
  have HO50 := n0_
  clear n0_
  clear HBi
  have HO74 := Aside0.mk (Kd.R_mono (ok' := fun k_ => w_71.heap.size ≤ k_ ∧ k_ < w_73.heap.size) ho1.out (fun k_ hk_ => hk_))
  clear ho1
  go_wp2_with (fail)
  go_at_call 42
  (with_reducible refine (laws_intactInt64SX.calls k _ _ ext5 _ _ ext5 xs5.length rm5 true _ ?side1 ?side2 ?side3 ?side4 HRM5.out HJ5.out rfl HEQX5.out).mono ?_)
  (case side1 => repeat (first | exact (Kd.R_reads' HO43.out).2.2 | (with_reducible refine Kd.C_alloc ?_ _) | (with_reducible refine Kd.C_drewN ?_ _) | (with_reducible refine Kd.C_drew ?_)))
  (case side2 => exact (Kd.R_reads' HO43.out).2.1)
  (case side3 => repeat (first | exact (Kd.R_reads' HO74.out).2.2 | (with_reducible refine Kd.C_alloc ?_ _) | (with_reducible refine Kd.C_drewN ?_ _) | (with_reducible refine Kd.C_drew ?_)))
  (case side4 => exact (Kd.R_reads' HO74.out).2.1)
  rintro e w_79 ⟨rfl, hb⟩
  have HBi := Aside0.mk (below_step (by repeat (first | (with_reducible first | exact Below.refl _ _ | apply below_alloc | apply pw_below_drewN | apply below_drew1) | exact Below.refl _ _)) hb : Below w_73.heap.size w_73 w_79)
  clear hb
  have HBn := Aside0.mk (below_step HB.out HBi.out)
  clear HB
  have HB := HBn
  clear HBn
  have HS80 := Aside0.mk HBi.out.size
  have n0_ := Aside0.mk (Kd.R_below HO25.out HBi.out)
  clear HO25
  have HO25 := n0_
  clear n0_
  have n0_ := Aside0.mk (Kd.R_below HO31.out HBi.out)
  clear HO31
  have HO31 := n0_
  clear n0_
  have n0_ := Aside0.mk (Kd.R_below HO37.out HBi.out)
  clear HO37
  have HO37 := n0_
  clear n0_
  have n0_ := Aside0.mk (Kd.R_below HO43.out HBi.out)
  clear HO43
  have HO43 := n0_
  clear n0_
  have n0_ := Aside0.mk (Kd.R_below HO50.out HBi.out)
  clear HO50
  have HO50 := n0_
  clear n0_
  have n0_ := Aside0.mk (Kd.R_below HO74.out HBi.out)
  clear HO74
  have HO74 := n0_
  clear n0_
  clear HBi
  clear HO74
  go_wp2_with (fail)
  go_at_call 21
  (with_reducible refine (laws_markModuleS.calls k (fun k_ => w_23.heap.size ≤ k_ ∧ k_ < w_30.heap.size) (.slice Ao32 xs0.length co34) xs0 101 mk_0 ml_0 w _ ?side1 ?side2 HM0.out).mono ?_)
  (case side1 => repeat (first | (with_reducible first | exact HB.out | apply below_alloc | apply pw_below_drewN | apply below_drew1) | exact HB.out))
  (case side2 => (with_reducible repeat (first | apply Kd.R_alloc | apply Kd.R_drewN | apply Kd.R_drew)); exact (R_ext HO31.out HXE0.out HLE0.out))
  rintro e w_81 ⟨rfl, hy, hb, hk⟩
  have hk1 := Aside0.mk (Kept.then_ (Kept.of_below (by repeat (first | (with_reducible first | exact Below.refl _ _ | apply below_alloc | apply pw_below_drewN | apply below_drew1) | exact Below.refl _ _) : Below w_79.heap.size w_79 _) (fun k_ => w_23.heap.size ≤ k_ ∧ k_ < w_30.heap.size)) hk (fun _ h_ => .inl h_))
  clear hk
  have hy1 := Aside0.mk hy
  clear hy
  clear HB
  have HB := Aside0.mk hb
  clear hb
  have HS82 := Aside0.mk hk1.out.1
  have n0_ := Aside0.mk (Kd.R_kept HO25.out hk1.out (fun k_ (h1_ : w_17.heap.size ≤ k_ ∧ k_ < w_23.heap.size) (h2_ : w_23.heap.size ≤ k_ ∧ k_ < w_30.heap.size) => by have sHS2 := HS2.out; have sHS4 := HS4.out; have sHS10 := HS10.out; have sHS16 := HS16.out; have sHS22 := HS22.out; have sHS29 := HS29.out; have sHS35 := HS35.out; have sHS41 := HS41.out; have sHS47 := HS47.out; have sHS54 := HS54.out; have sHS56 := HS56.out; have sHS62 := HS62.out; have sHS64 := HS64.out; have sHS70 := HS70.out; have sHS72 := HS72.out; have sHS78 := HS78.out; have sHS80 := HS80.out; have sHS82 := HS82.out; omega))
  clear HO25
  have HO25 := n0_
  clear n0_
  have n0_ := Aside0.mk (Kd.R_kept HO37.out hk1.out (fun k_ (h1_ : w_30.heap.size ≤ k_ ∧ k_ < w_36.heap.size) (h2_ : w_23.heap.size ≤ k_ ∧ k_ < w_30.heap.size) => by have sHS2 := HS2.out; have sHS4 := HS4.out; have sHS10 := HS10.out; have sHS16 := HS16.out; have sHS22 := HS22.out; have sHS29 := HS29.out; have sHS35 := HS35.out; have sHS41 := HS41.out; have sHS47 := HS47.out; have sHS54 := HS54.out; have sHS56 := HS56.out; have sHS62 := HS62.out; have sHS64 := HS64.out; have sHS70 := HS70.out; have sHS72 := HS72.out; have sHS78 := HS78.out; have sHS80 := HS80.out; have sHS82 := HS82.out; omega))
  clear HO37
  have HO37 := n0_
  clear n0_
  have n0_ := Aside0.mk (Kd.R_kept HO43.out hk1.out (fun k_ (h1_ : w_36.heap.size ≤ k_ ∧ k_ < w_42.heap.size) (h2_ : w_23.heap.size ≤ k_ ∧ k_ < w_30.heap.size) => by have sHS2 := HS2.out; have sHS4 := HS4.out; have sHS10 := HS10.out; have sHS16 := HS16.out; have sHS22 := HS22.out; have sHS29 := HS29.out; have sHS35 := HS35.out; have sHS41 := HS41.out; have sHS47 := HS47.out; have sHS54 := HS54.out; have sHS56 := HS56.out; have sHS62 := HS62.out; have sHS64 := HS64.out; have sHS70 := HS70.out; have sHS72 := HS72.out; have sHS78 := HS78.out; have sHS80 := HS80.out; have sHS82 := HS82.out; omega))
  clear HO43
  have HO43 := n0_
  clear n0_
  have n0_ := Aside0.mk (Kd.R_kept HO50.out hk1.out (fun k_ (h1_ : w_42.heap.size ≤ k_ ∧ k_ < w_48.heap.size) (h2_ : w_23.heap.size ≤ k_ ∧ k_ < w_30.heap.size) => by have sHS2 := HS2.out; have sHS4 := HS4.out; have sHS10 := HS10.out; have sHS16 := HS16.out; have sHS22 := HS22.out; have sHS29 := HS29.out; have sHS35 := HS35.out; have sHS41 := HS41.out; have sHS47 := HS47.out; have sHS54 := HS54.out; have sHS56 := HS56.out; have sHS62 := HS62.out; have sHS64 := HS64.out; have sHS70 := HS70.out; have sHS72 := HS72.out; have sHS78 := HS78.out; have sHS80 := HS80.out; have sHS82 := HS82.out; omega))
  clear HO50
  have HO50 := n0_
  clear n0_
  clear hy1 hk1
  clear HO31
  go_wp2_with (fail)
  go_at_call 43
  (with_reducible refine (laws_markWireS.calls k (fun k_ => w_30.heap.size ≤ k_ ∧ k_ < w_36.heap.size) (.slice Ao38 xs2.length co40) xs2 mk_0 mk_1 ml_1 w _ ?side1 ?side2 HM1.out).mono ?_)
  (case side1 => repeat (first | (with_reducible first | exact HB.out | apply below_alloc | apply pw_below_drewN | apply below_drew1) | exact HB.out))
  (case side2 => (with_reducible repeat (first | apply Kd.R_alloc | apply Kd.R_drewN | apply Kd.R_drew)); exact (R_ext HO37.out HXE2.out HLE2.out))
  rintro e w_83 ⟨rfl, hy, hb, hk⟩
  have hk1 := Aside0.mk (Kept.then_ (Kept.of_below (by repeat (first | (with_reducible first | exact Below.refl _ _ | apply below_alloc | apply pw_below_drewN | apply below_drew1) | exact Below.refl _ _) : Below w_81.heap.size w_81 _) (fun k_ => w_30.heap.size ≤ k_ ∧ k_ < w_36.heap.size)) hk (fun _ h_ => .inl h_))
  clear hk
  have hy1 := Aside0.mk hy
  clear hy
  clear HB
  have HB := Aside0.mk hb
  clear hb
  have HS84 := Aside0.mk hk1.out.1
  have n0_ := Aside0.mk (Kd.R_kept HO25.out hk1.out (fun k_ (h1_ : w_17.heap.size ≤ k_ ∧ k_ < w_23.heap.size) (h2_ : w_30.heap.size ≤ k_ ∧ k_ < w_36.heap.size) => by have sHS2 := HS2.out; have sHS4 := HS4.out; have sHS10 := HS10.out; have sHS16 := HS16.out; have sHS22 := HS22.out; have sHS29 := HS29.out; have sHS35 := HS35.out; have sHS41 := HS41.out; have sHS47 := HS47.out; have sHS54 := HS54.out; have sHS56 := HS56.out; have sHS62 := HS62.out; have sHS64 := HS64.out; have sHS70 := HS70.out; have sHS72 := HS72.out; have sHS78 := HS78.out; have sHS80 := HS80.out; have sHS82 := HS82.out; have sHS84 := HS84.out; omega))
  clear HO25
  have HO25 := n0_
  clear n0_
  have n0_ := Aside0.mk (Kd.R_kept HO43.out hk1.out (fun k_ (h1_ : w_36.heap.size ≤ k_ ∧ k_ < w_42.heap.size) (h2_ : w_30.heap.size ≤ k_ ∧ k_ < w_36.heap.size) => by have sHS2 := HS2.out; have sHS4 := HS4.out; have sHS10 := HS10.out; have sHS16 := HS16.out; have sHS22 := HS22.out; have sHS29 := HS29.out; have sHS35 := HS35.out; have sHS41 := HS41.out; have sHS47 := HS47.out; have sHS54 := HS54.out; have sHS56 := HS56.out; have sHS62 := HS62.out; have sHS64 := HS64.out; have sHS70 := HS70.out; have sHS72 := HS72.out; have sHS78 := HS78.out; have sHS80 := HS80.out; have sHS82 := HS82.out; have sHS84 := HS84.out; omega))
  clear HO43
  have HO43 := n0_
  clear n0_
  have n0_ := Aside0.mk (Kd.R_kept HO50.out hk1.out (fun k_ (h1_ : w_42.heap.size ≤ k_ ∧ k_ < w_48.heap.size) (h2_ : w_30.heap.size ≤ k_ ∧ k_ < w_36.heap.size) => by have sHS2 := HS2.out; have sHS4 := HS4.out; have sHS10 := HS10.out; have sHS16 := HS16.out; have sHS22 := HS22.out; have sHS29 := HS29.out; have sHS35 := HS35.out; have sHS41 := HS41.out; have sHS47 := HS47.out; have sHS54 := HS54.out; have sHS56 := HS56.out; have sHS62 := HS62.out; have sHS64 := HS64.out; have sHS70 := HS70.out; have sHS72 := HS72.out; have sHS78 := HS78.out; have sHS80 := HS80.out; have sHS82 := HS82.out; have sHS84 := HS84.out; omega))
  clear HO50
  have HO50 := n0_
  clear n0_
  clear hy1 hk1
  clear HO37
  go_wp2_with (fail)
  go_at_call 22
  (with_reducible refine (laws_markInt64S.calls k (fun k_ => w_36.heap.size ≤ k_ ∧ k_ < w_42.heap.size) (.slice Ao44 xs5.length co46) xs5 mk_1 mk_2 ml_2 w _ ?side1 ?side2 HM2.out).mono ?_)
  (case side1 => repeat (first | (with_reducible first | exact HB.out | apply below_alloc | apply pw_below_drewN | apply below_drew1) | exact HB.out))
  (case side2 => (with_reducible repeat (first | apply Kd.R_alloc | apply Kd.R_drewN | apply Kd.R_drew)); exact (R_ext HO43.out HXE5.out HLE5.out))
  rintro e w_85 ⟨rfl, hy, hb, hk⟩
  have hk1 := Aside0.mk (Kept.then_ (Kept.of_below (by repeat (first | (with_reducible first | exact Below.refl _ _ | apply below_alloc | apply pw_below_drewN | apply below_drew1) | exact Below.refl _ _) : Below w_83.heap.size w_83 _) (fun k_ => w_36.heap.size ≤ k_ ∧ k_ < w_42.heap.size)) hk (fun _ h_ => .inl h_))
  clear hk
  have hy1 := Aside0.mk hy
  clear hy
  clear HB
  have HB := Aside0.mk hb
  clear hb
  have HS86 := Aside0.mk hk1.out.1
  have n0_ := Aside0.mk (Kd.R_kept HO25.out hk1.out (fun k_ (h1_ : w_17.heap.size ≤ k_ ∧ k_ < w_23.heap.size) (h2_ : w_36.heap.size ≤ k_ ∧ k_ < w_42.heap.size) => by have sHS2 := HS2.out; have sHS4 := HS4.out; have sHS10 := HS10.out; have sHS16 := HS16.out; have sHS22 := HS22.out; have sHS29 := HS29.out; have sHS35 := HS35.out; have sHS41 := HS41.out; have sHS47 := HS47.out; have sHS54 := HS54.out; have sHS56 := HS56.out; have sHS62 := HS62.out; have sHS64 := HS64.out; have sHS70 := HS70.out; have sHS72 := HS72.out; have sHS78 := HS78.out; have sHS80 := HS80.out; have sHS82 := HS82.out; have sHS84 := HS84.out; have sHS86 := HS86.out; omega))
  clear HO25
  have HO25 := n0_
  clear n0_
  have n0_ := Aside0.mk (Kd.R_kept HO50.out hk1.out (fun k_ (h1_ : w_42.heap.size ≤ k_ ∧ k_ < w_48.heap.size) (h2_ : w_36.heap.size ≤ k_ ∧ k_ < w_42.heap.size) => by have sHS2 := HS2.out; have sHS4 := HS4.out; have sHS10 := HS10.out; have sHS16 := HS16.out; have sHS22 := HS22.out; have sHS29 := HS29.out; have sHS35 := HS35.out; have sHS41 := HS41.out; have sHS47 := HS47.out; have sHS54 := HS54.out; have sHS56 := HS56.out; have sHS62 := HS62.out; have sHS64 := HS64.out; have sHS70 := HS70.out; have sHS72 := HS72.out; have sHS78 := HS78.out; have sHS80 := HS80.out; have sHS82 := HS82.out; have sHS84 := HS84.out; have sHS86 := HS86.out; omega))
  clear HO50
  have HO50 := n0_
  clear n0_
  clear hy1 hk1
  clear HO43
  have hn_ := HMN2.out
  go_wp2_with (fail)
  clear hn_
  go_wp2_with (fail)
  go_at_call 20
  (with_reducible refine (laws_eqInt64S.calls k _ _ gs_r1 _ _ ws_r1 true _ ?side1 ?side2 ?side3 ?side4 HE_gs_r1_ws_r1.out).mono ?_)
  (case side1 => repeat (first | exact (Kd.R_reads' HO50.out).2.2 | (with_reducible refine Kd.C_alloc ?_ _) | (with_reducible refine Kd.C_drewN ?_ _) | (with_reducible refine Kd.C_drew ?_)))
  (case side2 => exact (Kd.R_reads' HO50.out).2.1)
  (case side3 => repeat (first | exact (Kd.R_reads' HO25.out).2.2 | (with_reducible refine Kd.C_alloc ?_ _) | (with_reducible refine Kd.C_drewN ?_ _) | (with_reducible refine Kd.C_drew ?_)))
  (case side4 => exact (Kd.R_reads' HO25.out).2.1)
  rintro e w_87 ⟨rfl, hd⟩
  have hb := hd.below
  clear hd
  have HBi := Aside0.mk (below_step (by repeat (first | (with_reducible first | exact Below.refl _ _ | apply below_alloc | apply pw_below_drewN | apply below_drew1) | exact Below.refl _ _)) hb : Below w_85.heap.size w_85 w_87)
  clear hb
  have HBn := Aside0.mk (below_step HB.out HBi.out)
  clear HB
  have HB := HBn
  clear HBn
  have HS88 := Aside0.mk HBi.out.size
  have n0_ := Aside0.mk (Kd.R_below HO25.out HBi.out)
  clear HO25
  have HO25 := n0_
  clear n0_
  have n0_ := Aside0.mk (Kd.R_below HO50.out HBi.out)
  clear HO50
  have HO50 := n0_
  clear n0_
  clear HBi
  go_wp2_with (fail)
  go_at_call 22
  (with_reducible refine (laws_markInt64S.calls k (fun k_ => w_42.heap.size ≤ k_ ∧ k_ < w_48.heap.size) (.slice Ao51 gs_r1.length co52) gs_r1 101 mk_3 ml_3 w _ ?side1 ?side2 HM3.out).mono ?_)
  (case side1 => repeat (first | (with_reducible first | exact HB.out | apply below_alloc | apply pw_below_drewN | apply below_drew1) | exact HB.out))
  (case side2 => (with_reducible repeat (first | apply Kd.R_alloc | apply Kd.R_drewN | apply Kd.R_drew)); exact HO50.out)
  rintro e w_89 ⟨rfl, hy, hb, hk⟩
  have hk1 := Aside0.mk (Kept.then_ (Kept.of_below (by repeat (first | (with_reducible first | exact Below.refl _ _ | apply below_alloc | apply pw_below_drewN | apply below_drew1) | exact Below.refl _ _) : Below w_87.heap.size w_87 _) (fun k_ => w_42.heap.size ≤ k_ ∧ k_ < w_48.heap.size)) hk (fun _ h_ => .inl h_))
  clear hk
  have hy1 := Aside0.mk hy
  clear hy
  clear HB
  have HB := Aside0.mk hb
  clear hb
  have HS90 := Aside0.mk hk1.out.1
  have n0_ := Aside0.mk (Kd.R_kept HO25.out hk1.out (fun k_ (h1_ : w_17.heap.size ≤ k_ ∧ k_ < w_23.heap.size) (h2_ : w_42.heap.size ≤ k_ ∧ k_ < w_48.heap.size) => by have sHS2 := HS2.out; have sHS4 := HS4.out; have sHS10 := HS10.out; have sHS16 := HS16.out; have sHS22 := HS22.out; have sHS29 := HS29.out; have sHS35 := HS35.out; have sHS41 := HS41.out; have sHS47 := HS47.out; have sHS54 := HS54.out; have sHS56 := HS56.out; have sHS62 := HS62.out; have sHS64 := HS64.out; have sHS70 := HS70.out; have sHS72 := HS72.out; have sHS78 := HS78.out; have sHS80 := HS80.out; have sHS82 := HS82.out; have sHS84 := HS84.out; have sHS86 := HS86.out; have sHS88 := HS88.out; have sHS90 := HS90.out; omega))
  clear HO25
  have HO25 := n0_
  clear n0_
  have n0_ := Aside0.mk (Kd.R_reok rfl hy1.out (fun k_ e_ => HO50.out.1 k_ e_))
  clear HO50
  have hl_ := HML3.out
  rw [hl_] at n0_
  try simp only [hl_]
  clear hl_
  have HO50 := n0_
  clear n0_ hy1 hk1
  go_wp2_with (fail)
  go_at_call 23
  (with_reducible refine (laws_heldInt64S.calls k _ _ ml_3 101 mk_3 _ ?side1 ?side2 HH_ml_3.out).mono ?_)
  (case side1 => repeat (first | exact (Kd.R_reads' HO50.out).2.2 | (with_reducible refine Kd.C_alloc ?_ _) | (with_reducible refine Kd.C_drewN ?_ _) | (with_reducible refine Kd.C_drew ?_)))
  (case side2 => exact (Kd.R_reads' HO50.out).2.1)
  rintro e w_91 ⟨rfl, hd⟩
  have hb := hd.below
  clear hd
  have HBi := Aside0.mk (below_step (by repeat (first | (with_reducible first | exact Below.refl _ _ | apply below_alloc | apply pw_below_drewN | apply below_drew1) | exact Below.refl _ _)) hb : Below w_89.heap.size w_89 w_91)
  clear hb
  have HBn := Aside0.mk (below_step HB.out HBi.out)
  clear HB
  have HB := HBn
  clear HBn
  have HS92 := Aside0.mk HBi.out.size
  have n0_ := Aside0.mk (Kd.R_below HO25.out HBi.out)
  clear HO25
  have HO25 := n0_
  clear n0_
  have n0_ := Aside0.mk (Kd.R_below HO50.out HBi.out)
  clear HO50
  have HO50 := n0_
  clear n0_
  clear HBi
  have hn_ := HMN3.out
  go_wp2_with (fail)
  clear hn_
  go_wp2_with (fail)
  go_at_call 13
  (with_reducible refine (laws_toModuleSX.calls k _ _ l0 true extb0 _ ?side1 ?side2 HTOB0.out).mono ?_)
  (case side1 => repeat (first | exact HR0.out | exact (Kd.C_below HR0.out HB.out) | (with_reducible refine Kd.C_alloc ?_ _) | (with_reducible refine Kd.C_drewN ?_ _) | (with_reducible refine Kd.C_drew ?_)))
  (case side2 => exact HC0.out)
  rintro e w_93 ⟨Ao95, no96, co97, rfl, hn, ho, hb⟩
  obtain rfl : no96 = xs0.length := hn.bare HXL0.out HNB0.out
  clear hn
  have ho1 := Aside0.mk (Kd.R_lower (R_span ho) (Nat.le_trans HB.out.size (by repeat (first | (with_reducible first | exact Below.refl _ _ | apply below_alloc | apply pw_below_drewN | apply below_drew1) | exact Below.refl _ _) : Below w_91.heap.size w_91 _).size))
  clear ho
  have HBi := Aside0.mk (below_step (by repeat (first | (with_reducible first | exact Below.refl _ _ | apply below_alloc | apply pw_below_drewN | apply below_drew1) | exact Below.refl _ _)) hb : Below w_91.heap.size w_91 w_93)
  clear hb
  have HBn := Aside0.mk (below_step HB.out HBi.out)
  clear HB
  have HB := HBn
  clear HBn
  have HS98 := Aside0.mk HBi.out.size
  have n0_ := Aside0.mk (Kd.R_below HO25.out HBi.out)
  clear HO25
  have HO25 := n0_
  clear n0_
  have n0_ := Aside0.mk (Kd.R_below HO50.out HBi.out)
  clear HO50
  have HO50 := n0_
  clear n0_
  clear HBi
  have HO94 := Aside0.mk (Kd.R_mono (ok' := fun k_ => w_91.heap.size ≤ k_ ∧ k_ < w_93.heap.size) ho1.out (fun k_ hk_ => hk_))
  clear ho1
  go_wp2_with (fail)
  go_at_call 38
  (with_reducible refine (laws_toWireSX.calls k _ _ l2 true extb2 _ ?side1 ?side2 HTOB2.out).mono ?_)
  (case side1 => repeat (first | exact HR2.out | exact (Kd.C_below HR2.out HB.out) | (with_reducible refine Kd.C_alloc ?_ _) | (with_reducible refine Kd.C_drewN ?_ _) | (with_reducible refine Kd.C_drew ?_)))
  (case side2 => exact HC2.out)
  rintro e w_99 ⟨Ao101, no102, co103, rfl, hn, ho, hb⟩
  obtain rfl : no102 = xs2.length := hn.bare HXL2.out HNB2.out
  clear hn
  have ho1 := Aside0.mk (Kd.R_lower (R_span ho) (Nat.le_trans HB.out.size (by repeat (first | (with_reducible first | exact Below.refl _ _ | apply below_alloc | apply pw_below_drewN | apply below_drew1) | exact Below.refl _ _) : Below w_93.heap.size w_93 _).size))
  clear ho
  have HBi := Aside0.mk (below_step (by repeat (first | (with_reducible first | exact Below.refl _ _ | apply below_alloc | apply pw_below_drewN | apply below_drew1) | exact Below.refl _ _)) hb : Below w_93.heap.size w_93 w_99)
  clear hb
  have HBn := Aside0.mk (below_step HB.out HBi.out)
  clear HB
  have HB := HBn
  clear HBn
  have HS104 := Aside0.mk HBi.out.size
  have n0_ := Aside0.mk (Kd.R_below HO25.out HBi.out)
  clear HO25
  have HO25 := n0_
  clear n0_
  have n0_ := Aside0.mk (Kd.R_below HO50.out HBi.out)
  clear HO50
  have HO50 := n0_
  clear n0_
  have n0_ := Aside0.mk (Kd.R_below HO94.out HBi.out)
  clear HO94
  have HO94 := n0_
  clear n0_
  clear HBi
  have HO100 := Aside0.mk (Kd.R_mono (ok' := fun k_ => w_93.heap.size ≤ k_ ∧ k_ < w_99.heap.size) ho1.out (fun k_ hk_ => hk_))
  clear ho1
  go_wp2_with (fail)
  go_at_call 39
  (with_reducible refine (laws_toInt64SX.calls k _ _ l5 true extb5 _ ?side1 ?side2 HTOB5.out).mono ?_)
  (case side1 => repeat (first | exact HR5.out | exact (Kd.C_below HR5.out HB.out) | (with_reducible refine Kd.C_alloc ?_ _) | (with_reducible refine Kd.C_drewN ?_ _) | (with_reducible refine Kd.C_drew ?_)))
  (case side2 => exact HC5.out)
  rintro e w_105 ⟨Ao107, no108, co109, rfl, hn, ho, hb⟩
  obtain rfl : no108 = xs5.length := hn.bare HXL5.out HNB5.out
  clear hn
  have ho1 := Aside0.mk (Kd.R_lower (R_span ho) (Nat.le_trans HB.out.size (by repeat (first | (with_reducible first | exact Below.refl _ _ | apply below_alloc | apply pw_below_drewN | apply below_drew1) | exact Below.refl _ _) : Below w_99.heap.size w_99 _).size))
  clear ho
  have HBi := Aside0.mk (below_step (by repeat (first | (with_reducible first | exact Below.refl _ _ | apply below_alloc | apply pw_below_drewN | apply below_drew1) | exact Below.refl _ _)) hb : Below w_99.heap.size w_99 w_105)
  clear hb
  have HBn := Aside0.mk (below_step HB.out HBi.out)
  clear HB
  have HB := HBn
  clear HBn
  have HS110 := Aside0.mk HBi.out.size
  have n0_ := Aside0.mk (Kd.R_below HO25.out HBi.out)
  clear HO25
  have HO25 := n0_
  clear n0_
  have n0_ := Aside0.mk (Kd.R_below HO50.out HBi.out)
  clear HO50
  have HO50 := n0_
  clear n0_
  have n0_ := Aside0.mk (Kd.R_below HO94.out HBi.out)
  clear HO94
  have HO94 := n0_
  clear n0_
  have n0_ := Aside0.mk (Kd.R_below HO100.out HBi.out)
  clear HO100
  have HO100 := n0_
  clear n0_
  clear HBi
  have HO106 := Aside0.mk (Kd.R_mono (ok' := fun k_ => w_99.heap.size ≤ k_ ∧ k_ < w_105.heap.size) ho1.out (fun k_ hk_ => hk_))
  clear ho1
  go_wp2_with (fail)
  go_at_call 47
  (with_reducible refine (impl_WithoutLateCues.calls k _ _ xs0 a1 _ _ xs2 a3 a4 _ _ xs5 gs_r1 res_r2 _ ?side1 ?side2 ?side3 ?side4 ?side5 ?side6 HFimpl.out).mono ?_)
  (case side1 => repeat (first | exact C_ext (Kd.R_reads' HO94.out).2.2 HXB0.out HLB0.out | (with_reducible refine Kd.C_alloc ?_ _) | (with_reducible refine Kd.C_drewN ?_ _) | (with_reducible refine Kd.C_drew ?_)))
  (case side2 => exact Nat.le_trans HLB0.out (Kd.R_reads' HO94.out).2.1)
  (case side3 => repeat (first | exact C_ext (Kd.R_reads' HO100.out).2.2 HXB2.out HLB2.out | (with_reducible refine Kd.C_alloc ?_ _) | (with_reducible refine Kd.C_drewN ?_ _) | (with_reducible refine Kd.C_drew ?_)))
  (case side4 => exact Nat.le_trans HLB2.out (Kd.R_reads' HO100.out).2.1)
  (case side5 => repeat (first | exact C_ext (Kd.R_reads' HO106.out).2.2 HXB5.out HLB5.out | (with_reducible refine Kd.C_alloc ?_ _) | (with_reducible refine Kd.C_drewN ?_ _) | (with_reducible refine Kd.C_drew ?_)))
  (case side6 => exact Nat.le_trans HLB5.out (Kd.R_reads' HO106.out).2.1)
  rintro e w_111 ⟨v_112, rfl, ho, hb⟩
  have ho1 := Aside0.mk (Kd.R_lower (R_span ho) (Nat.le_trans HB.out.size (by repeat (first | (with_reducible first | exact Below.refl _ _ | apply below_alloc | apply pw_below_drewN | apply below_drew1) | exact Below.refl _ _) : Below w_105.heap.size w_105 _).size))
  clear ho
  have HBi := Aside0.mk (below_step (by repeat (first | (with_reducible first | exact Below.refl _ _ | apply below_alloc | apply pw_below_drewN | apply below_drew1) | exact Below.refl _ _)) hb : Below w_105.heap.size w_105 w_111)
  clear hb
  have HBn := Aside0.mk (below_step HB.out HBi.out)
  clear HB
  have HB := HBn
  clear HBn
  have HS117 := Aside0.mk HBi.out.size
  have n0_ := Aside0.mk (Kd.R_below HO25.out HBi.out)
  clear HO25
  have HO25 := n0_
  clear n0_
  have n0_ := Aside0.mk (Kd.R_below HO50.out HBi.out)
  clear HO50
  have HO50 := n0_
  clear n0_
  have n0_ := Aside0.mk (Kd.R_below HO94.out HBi.out)
  clear HO94
  have HO94 := n0_
  clear n0_
  have n0_ := Aside0.mk (Kd.R_below HO100.out HBi.out)
  clear HO100
  have HO100 := n0_
  clear n0_
  have n0_ := Aside0.mk (Kd.R_below HO106.out HBi.out)
  clear HO106
  have HO106 := n0_
  clear n0_
  clear HBi
  obtain ⟨Ao114, co115, eo116⟩ := Kd.R_slice ho1.out
  subst eo116
  have HO113 := Aside0.mk (Kd.R_mono (ok' := fun k_ => w_105.heap.size ≤ k_ ∧ k_ < w_111.heap.size) ho1.out (fun k_ hk_ => hk_))
  clear ho1
  clear HO94
  clear HO100
  clear HO106
  go_wp2_with (fail)
  go_at_call 20
  (with_reducible refine (laws_eqInt64S.calls k _ _ gs_r1 _ _ ws_r1 true _ ?side1 ?side2 ?side3 ?side4 HE_gs_r1_ws_r1.out).mono ?_)
  (case side1 => repeat (first | exact (Kd.R_reads' HO113.out).2.2 | (with_reducible refine Kd.C_alloc ?_ _) | (with_reducible refine Kd.C_drewN ?_ _) | (with_reducible refine Kd.C_drew ?_)))
  (case side2 => exact (Kd.R_reads' HO113.out).2.1)
  (case side3 => repeat (first | exact (Kd.R_reads' HO25.out).2.2 | (with_reducible refine Kd.C_alloc ?_ _) | (with_reducible refine Kd.C_drewN ?_ _) | (with_reducible refine Kd.C_drew ?_)))
  (case side4 => exact (Kd.R_reads' HO25.out).2.1)
  rintro e w_118 ⟨rfl, hd⟩
  have hb := hd.below
  clear hd
  have HBi := Aside0.mk (below_step (by repeat (first | (with_reducible first | exact Below.refl _ _ | apply below_alloc | apply pw_below_drewN | apply below_drew1) | exact Below.refl _ _)) hb : Below w_111.heap.size w_111 w_118)
  clear hb
  have HBn := Aside0.mk (below_step HB.out HBi.out)
  clear HB
  have HB := HBn
  clear HBn
  have HS119 := Aside0.mk HBi.out.size
  have n0_ := Aside0.mk (Kd.R_below HO25.out HBi.out)
  clear HO25
  have HO25 := n0_
  clear n0_
  have n0_ := Aside0.mk (Kd.R_below HO50.out HBi.out)
  clear HO50
  have HO50 := n0_
  clear n0_
  have n0_ := Aside0.mk (Kd.R_below HO113.out HBi.out)
  clear HO113
  have HO113 := n0_
  clear n0_
  clear HBi
  go_wp2_with (fail)
  go_at_call 23
  (with_reducible refine (laws_heldInt64S.calls k _ _ ml_3 101 mk_3 _ ?side1 ?side2 HH_ml_3.out).mono ?_)
  (case side1 => repeat (first | exact (Kd.R_reads' HO50.out).2.2 | (with_reducible refine Kd.C_alloc ?_ _) | (with_reducible refine Kd.C_drewN ?_ _) | (with_reducible refine Kd.C_drew ?_)))
  (case side2 => exact (Kd.R_reads' HO50.out).2.1)
  rintro e w_120 ⟨rfl, hd⟩
  have hb := hd.below
  clear hd
  have HBi := Aside0.mk (below_step (by repeat (first | (with_reducible first | exact Below.refl _ _ | apply below_alloc | apply pw_below_drewN | apply below_drew1) | exact Below.refl _ _)) hb : Below w_118.heap.size w_118 w_120)
  clear hb
  have HBn := Aside0.mk (below_step HB.out HBi.out)
  clear HB
  have HB := HBn
  clear HBn
  have HS121 := Aside0.mk HBi.out.size
  have n0_ := Aside0.mk (Kd.R_below HO25.out HBi.out)
  clear HO25
  have HO25 := n0_
  clear n0_
  have n0_ := Aside0.mk (Kd.R_below HO50.out HBi.out)
  clear HO50
  have HO50 := n0_
  clear n0_
  have n0_ := Aside0.mk (Kd.R_below HO113.out HBi.out)
  clear HO113
  have HO113 := n0_
  clear n0_
  clear HBi
  have hn_ := HMN3.out
  go_wp2_with (fail)
  clear hn_
  go_wp2
  go_ret
  exact ⟨by first | rfl | (simp; done) | (simp [*]; done), by repeat (first | (with_reducible first | exact HB.out | apply below_alloc | apply pw_below_drewN | apply below_drew1) | exact HB.out)⟩

/-- What is to be told of the answers, for the law to tell true. -/
structure laws_FnExactWithoutLateCues.Facts (k : Nat) (l0 : List (S65)) (a1 : Int) (l2 : List (S82)) (a3 : Int) (a4 : Int) (l5 : List Int) (xs0 : List (S63)) (ext0 : List (S63)) (extb0 : List (S63)) (rm0 : Int) (xs2 : List (S59)) (ext2 : List (S59)) (extb2 : List (S59)) (rm2 : Int) (xs5 : List Int) (ext5 : List Int) (extb5 : List Int) (rm5 : Int) (t_1 : Int) (t_2 : Int) (ws_r1 : List Int) (res_r2 : Int) (gs_r1 : List Int) (mk_0 : Int) (ml_0 : List (S63)) (mk_1 : Int) (ml_1 : List (S59)) (mk_2 : Int) (ml_2 : List Int) (mk_3 : Int) (ml_3 : List Int) : Prop where
  hto0 : laws_toModuleSX.f k l0 false = some ext0
  htob0 : laws_toModuleSX.f k l0 true = some extb0
  hxl0 : xs0.length = l0.length
  hnb0 : extb0 = [] → l0.length = 0
  hne0 : ¬ (ext0 = [])
  hxe0 : xs0 = ext0.take xs0.length
  hxb0 : xs0 = extb0.take xs0.length
  hle0 : xs0.length ≤ ext0.length
  hlb0 : xs0.length ≤ extb0.length
  hrm0 : laws_roomBehind.f (xs0.length : Int) = some rm0
  hj0 : wrap64 ((xs0.length : Int) + rm0) = (ext0.length : Int)
  heqx0 : laws_eqModuleS.f k ext0 ext0 = some true
  hto2 : laws_toWireSX.f k l2 false = some ext2
  htob2 : laws_toWireSX.f k l2 true = some extb2
  hxl2 : xs2.length = l2.length
  hnb2 : extb2 = [] → l2.length = 0
  hne2 : ¬ (ext2 = [])
  hxe2 : xs2 = ext2.take xs2.length
  hxb2 : xs2 = extb2.take xs2.length
  hle2 : xs2.length ≤ ext2.length
  hlb2 : xs2.length ≤ extb2.length
  hrm2 : laws_roomBehind.f (xs2.length : Int) = some rm2
  hj2 : wrap64 ((xs2.length : Int) + rm2) = (ext2.length : Int)
  heqx2 : laws_eqWireS.f k ext2 ext2 = some true
  hto5 : laws_toInt64SX.f k l5 false = some ext5
  htob5 : laws_toInt64SX.f k l5 true = some extb5
  hxl5 : xs5.length = l5.length
  hnb5 : extb5 = [] → l5.length = 0
  hne5 : ¬ (ext5 = [])
  hxe5 : xs5 = ext5.take xs5.length
  hxb5 : xs5 = extb5.take xs5.length
  hle5 : xs5.length ≤ ext5.length
  hlb5 : xs5.length ≤ extb5.length
  hrm5 : laws_roomBehind.f (xs5.length : Int) = some rm5
  hj5 : wrap64 ((xs5.length : Int) + rm5) = (ext5.length : Int)
  heqx5 : laws_eqInt64S.f k ext5 ext5 = some true
  hz1 : laws_szModuleS.f l0 (wrap64 (1000000 - ((l5.length : Int)))) = some t_1
  hn1 : decide (t_1 < 0) = false
  hz2 : laws_szWireS.f l2 t_1 = some t_2
  hn2 : decide (t_2 < 0) = false
  hfspec : spec_WithoutLateCues.f k xs0 a1 xs2 a3 a4 xs5 = some (ws_r1, res_r2)
  hfimpl : impl_WithoutLateCues.f k xs0 a1 xs2 a3 a4 xs5 = some (gs_r1, res_r2)
  he_gs_r1_ws_r1 : laws_eqInt64S.f k gs_r1 ws_r1 = some true
  hm0 : laws_markModuleS.f k xs0 101 = some (mk_0, ml_0)
  hmn0 : decide (mk_0 < 0) = false
  hm1 : laws_markWireS.f k xs2 mk_0 = some (mk_1, ml_1)
  hmn1 : decide (mk_1 < 0) = false
  hm2 : laws_markInt64S.f k xs5 mk_1 = some (mk_2, ml_2)
  hmn2 : decide (mk_2 < 0) = false
  hm3 : laws_markInt64S.f k gs_r1 101 = some (mk_3, ml_3)
  hmn3 : decide (mk_3 < 0) = false
  hml3 : gs_r1.length = ml_3.length
  hh_ml_3 : laws_heldInt64S.f k ml_3 101 = some mk_3
/-- The statement over numbers and lists. -/
def laws_FnExactWithoutLateCues.Pure : Prop := ∀ (l0 : List (S65)) (a1 : Int) (l2 : List (S82)) (a3 : Int) (a4 : Int) (l5 : List Int), l0.length ≤ 140737488351232 → l2.length ≤ 140737488351232 → l5.length ≤ 140737488351232 → (Lit.int .i64 a1).wf = true → (Lit.int .i64 a3).wf = true → (Lit.int .i64 a4).wf = true → 
    (∃ t_1, laws_szModuleS.f l0 (wrap64 (1000000 - ((l5.length : Int)))) = some t_1 ∧ decide (t_1 < 0) = true) ∨
    (∃ t_1 t_2, laws_szModuleS.f l0 (wrap64 (1000000 - ((l5.length : Int)))) = some t_1 ∧ decide (t_1 < 0) = false ∧ laws_szWireS.f l2 t_1 = some t_2 ∧ decide (t_2 < 0) = true) ∨
    (∃ k xs0 ext0 extb0 rm0 xs2 ext2 extb2 rm2 xs5 ext5 extb5 rm5 t_1 t_2 ws_r1 res_r2 gs_r1 mk_0 ml_0 mk_1 ml_1 mk_2 ml_2 mk_3 ml_3, laws_FnExactWithoutLateCues.Facts k l0 a1 l2 a3 a4 l5 xs0 ext0 extb0 rm0 xs2 ext2 extb2 rm2 xs5 ext5 extb5 rm5 t_1 t_2 ws_r1 res_r2 gs_r1 mk_0 ml_0 mk_1 ml_1 mk_2 ml_2 mk_3 ml_3)

theorem laws_FnExactWithoutLateCues.walk (P_ : laws_FnExactWithoutLateCues.Pure) (A0 : Option Addr) (c0 : Nat) (l0 : List (S65)) (a1 : Int) (A2 : Option Addr) (c2 : Nat) (l2 : List (S82)) (a3 : Int) (a4 : Int) (A5 : Option Addr) (c5 : Nat) (l5 : List Int) (w : World) (hr0 : Kd.C k65 w A0 l0.length l0) (hc0 : l0.length ≤ c0) (hr2 : Kd.C k82 w A2 l2.length l2) (hc2 : l2.length ≤ c2) (hr5 : Kd.C (Kd.int .i64) w A5 l5.length l5) (hc5 : l5.length ≤ c5) (wa1 : (Lit.int .i64 a1).wf = true) (wa3 : (Lit.int .i64 a3).wf = true) (wa4 : (Lit.int .i64 a4).wf = true) (wl0 : l0.length ≤ 140737488351232) (wl2 : l2.length ≤ 140737488351232) (wl5 : l5.length ≤ 140737488351232) :
    Calls Try.prog 10 #[.slice A0 l0.length c0, .int .i64 a1, .slice A2 l2.length c2, .int .i64 a3, .int .i64 a4, .slice A5 l5.length c5] w fun e w' => e = .returned (.bool true) ∧ Below w.heap.size w w' := by
  rcases P_ l0 a1 l2 a3 a4 l5 wl0 wl2 wl5 wa1 wa3 wa4 with ⟨t_1, h0_, h1_⟩ | ⟨t_1, t_2, h0_, h1_, h2_, h3_⟩ | ⟨k, xs0, ext0, extb0, rm0, xs2, ext2, extb2, rm2, xs5, ext5, extb5, rm5, t_1, t_2, ws_r1, res_r2, gs_r1, mk_0, ml_0, mk_1, ml_1, mk_2, ml_2, mk_3, ml_3, F⟩
  · exact laws_FnExactWithoutLateCues.skip1_ _ _ l0 a1 _ _ l2 a3 a4 _ _ l5 w hr0 hc0 hr2 hc2 hr5 hc5 t_1 h0_ h1_
  · exact laws_FnExactWithoutLateCues.skip2_ _ _ l0 a1 _ _ l2 a3 a4 _ _ l5 w hr0 hc0 hr2 hc2 hr5 hc5 t_1 t_2 h0_ h1_ h2_ h3_
  · exact laws_FnExactWithoutLateCues.true_ k _ _ l0 a1 _ _ l2 a3 a4 _ _ l5 w hr0 hc0 hr2 hc2 hr5 hc5 xs0 ext0 extb0 rm0 xs2 ext2 extb2 rm2 xs5 ext5 extb5 rm5 t_1 t_2 ws_r1 res_r2 gs_r1 mk_0 ml_0 mk_1 ml_1 mk_2 ml_2 mk_3 ml_3 F.hto0 F.htob0 F.hxl0 F.hnb0 F.hne0 F.hxe0 F.hxb0 F.hle0 F.hlb0 F.hrm0 F.hj0 F.heqx0 F.hto2 F.htob2 F.hxl2 F.hnb2 F.hne2 F.hxe2 F.hxb2 F.hle2 F.hlb2 F.hrm2 F.hj2 F.heqx2 F.hto5 F.htob5 F.hxl5 F.hnb5 F.hne5 F.hxe5 F.hxb5 F.hle5 F.hlb5 F.hrm5 F.hj5 F.heqx5 F.hz1 F.hn1 F.hz2 F.hn2 F.hfspec F.hfimpl F.he_gs_r1_ws_r1 F.hm0 F.hmn0 F.hm1 F.hmn1 F.hm2 F.hmn2 F.hm3 F.hmn3 F.hml3 F.hh_ml_3

end Go.Proofs.Ytddejaomlnldiaa.PFnExactWithoutLateCues
