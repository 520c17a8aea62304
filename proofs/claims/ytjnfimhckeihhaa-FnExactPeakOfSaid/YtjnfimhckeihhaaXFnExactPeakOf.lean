/- FnExactPeakOf: the parts of the law that look behind a row's length, and the law's walk: with the answers that the functions give, it tells true. -/
import Derived.Test.YtjnfimhckeihhaaQFnExactPeakOfx3
namespace Go.Proofs.Ytjnfimhckeihhaa.PFnExactPeakOf
open Go.RowKit Go.Proofs.YtjnfimhckeihhaaW.PrintWords Go.Proofs.YtjnfimhckeihhaaW.PrintLast Go.Proofs.YtjnfimhckeihhaaW.PrintMore
attribute [local go_sem] max2_int min2_int max_two min_two max_three min_three max_four min_four   -- for this text's walks alone
set_option linter.unusedVariables false
set_option linter.unusedSimpArgs false
open Go.Proofs.YtjnfimhckeihhaaX

/-! ### laws_intactBoxS, over rows with what lies behind their lengths: function 17 -/
def laws_intactBoxS.T2 : Bool × List (List Nat × List Nat) := (true, [([], []), ([0], [0]), ([], []), ([2], [2]), ([1, 3], [1, 3]), ([4], [4]), ([5], [5]), ([5], [5]), ([6, 7, 5], [5, 6, 7]), ([5], [5]), ([5], [5]), ([9, 10, 5], [5, 9, 10]), ([8, 11, 5, 5], [5, 8, 11]), ([5, 12], [5, 12]), ([13, 12, 0, 1, 2, 3, 4, 5, 6, 7, 8, 9, 10, 11, 12, 13], [13])])
def laws_intactBoxS.B2 : List Nat := [0, 1, 0, 4, 15, 31, 63, 63, 255, 63, 63, 1599, 4095, 8191, 16383]
theorem laws_intactBoxS.tab2 : rtab .any (opsOf Try.f17 2) = laws_intactBoxS.T2 := by kernel_rfl
theorem laws_intactBoxS.bits2 : waitsOk laws_intactBoxS.T2.2 laws_intactBoxS.B2 = true := by kernel_rfl
set_option maxHeartbeats 8000000 in
set_option maxRecDepth 100000 in
theorem laws_intactBoxSX.calls (k : Nat) (A0 : Option Addr) (c0 : Nat) (l0 : List (S55)) (A1 : Option Addr) (c1 : Nat) (l1 : List (S55)) (n0 : Nat) (rm : Int) (r : Bool) (w : World) (hr0 : Kd.C k55 w A0 l0.length l0) (hc0 : l0.length ≤ c0) (hr1 : Kd.C k55 w A1 l1.length l1) (hc1 : l1.length ≤ c1) (hrm : laws_roomBehind.f (n0 : Int) = some rm) (hj : wrap64 ((n0 : Int) + rm) = (l0.length : Int)) (hl : l1.length = l0.length) (h : laws_eqBoxS.f k l0 l1 = some r) :
    Calls Try.prog 17 #[.slice A0 n0 c0, .slice A1 n0 c1] w fun e w' => e = .returned (.bool r) ∧ Below w.heap.size w w' := by
  have HR0 := Aside0.mk hr0
  have HR1 := Aside0.mk hr1
  have HC0 := Aside0.mk hc0
  have HC1 := Aside0.mk hc1
  have HL := Aside0.mk hl
  clear hr0 hr1 hc0 hc1 hl
  have HB := Aside0.mk (Below.refl w.heap.size w)
  obtain ⟨ji5, hji5⟩ : ∃ j_ : Int, j_ = (l0.length : Int) := ⟨_, rfl⟩
  rw [← hji5] at hj
  have HJ := Aside0.mk hji5
  have hji5w : (IntKind.i64.wrap ((n0 : Int) + rm)) = ji5 := (i64_w _).trans hj
  clear hji5
  have A3 := Aside0.mk hrm
  have A10 := Aside0.mk h
  clear hrm h
  go_enter Try.func17, Try.ntmps17
  try go_wp2_with (first | (go_at_call 47; (with_reducible refine (laws_roomBehind.calls (n0 : Int) rm _ A3.out).mono ?_); rintro e w' ⟨rfl, ⟨nd, rfl⟩⟩))
  have n0_ := Aside0.mk (below_drew1 (pw_below_drewN HB.out nd))
  clear HB
  have HB := n0_
  clear n0_
  obtain ⟨i0, hi0, _, hsz0, _⟩ := info_parts info55
  have hcut0 := cut_cap (P := Try.prog) 25 55 .i64 Try.underlying25 hi0 A0 n0 c0 l0.length ji5 HJ.out HC0.out
  have hcut1 := cut_cap (P := Try.prog) 25 55 .i64 Try.underlying25 hi0 A1 n0 c1 l1.length ji5 (HJ.out.trans (by rw [HL.out])) HC1.out
  clear hi0 hsz0
  refine start_ (n := 15) (S := fun w' => True) (ds := []) #[false, false, false, false, false, false, false, false, false, false, false, false, false, false, false] (by kernel_rfl) rfl rfl trivial (fun hHeld => ?_); refine with_tabW laws_intactBoxS.tab2 laws_intactBoxS.bits2 (fun HT_ HW_ => ?_)
  try generalize (w.drewN nd).drew = w11 at HB hHeld ⊢
  refine pure_ (i := 0) (N := some 12) (v := ?_) (a' := ?_) #[true, false, false, false, false, false, false, false, false, false, false, false, false, false, false] rfl rfl (any_of HT_.out (by kernel_rfl)) (fun _ _ _ h => h) (Or.inl ⟨by rfl, ?_⟩) ?_ ?_
  rotate_left
  · intro w'
    go_simp
    with_reducible rfl
  rotate_left
  · simp only [Act.put, List.setIfInBounds_toArray, List.set_cons_zero, List.set_cons_succ, i64_w, i32_w]
    rfl
  refine pure_ (i := 1) (N := some 13) (v := ?_) (a' := ?_) #[true, true, false, false, false, false, false, false, false, false, false, false, false, false, false] rfl rfl (any_of HT_.out (by kernel_rfl)) (fun _ _ _ h => h) (Or.inl ⟨by rfl, ?_⟩) ?_ ?_
  rotate_left
  · intro w'
    go_simp
    with_reducible rfl
  rotate_left
  · simp only [Act.put, List.setIfInBounds_toArray, List.set_cons_zero, List.set_cons_succ, i64_w, i32_w]
    rfl
  refine pure_ (i := 2) (N := some 14) (v := ?_) (a' := ?_) #[true, true, true, false, false, false, false, false, false, false, false, false, false, false, false] rfl rfl (any_of HT_.out (by kernel_rfl)) (fun _ _ _ h => h) (Or.inl ⟨by rfl, ?_⟩) ?_ ?_
  rotate_left
  · intro w'
    go_simp
    with_reducible rfl
  rotate_left
  · simp only [Act.put, List.setIfInBounds_toArray, List.set_cons_zero, List.set_cons_succ, i64_w, i32_w]
    rfl
  refine pure_ (i := 3) (N := some 15) (v := ?_) (a' := ?_) #[true, true, true, true, false, false, false, false, false, false, false, false, false, false, false] rfl rfl (any_of HT_.out (by kernel_rfl)) (fun _ _ _ h => h) (Or.inl ⟨by rfl, ?_⟩) ?_ ?_
  rotate_left
  · intro w'
    go_simp
    with_reducible rfl
  rotate_left
  · simp only [Act.put, List.setIfInBounds_toArray, List.set_cons_zero, List.set_cons_succ, i64_w, i32_w]
    rfl
  refine pure_ (i := 4) (N := some 16) (v := ?_) (a' := ?_) #[true, true, true, true, true, false, false, false, false, false, false, false, false, false, false] rfl rfl (any_of HT_.out (by kernel_rfl)) (fun _ _ _ h => h) (Or.inl ⟨by rfl, ?_⟩) ?_ ?_
  rotate_left
  · intro w'
    go_simp
    with_reducible rfl
  rotate_left
  · simp only [Act.put, List.setIfInBounds_toArray, List.set_cons_zero, List.set_cons_succ, i64_w, i32_w]
    rfl
  refine pure_ (i := 5) (N := some 17) (v := ?_) (a' := ?_) #[true, true, true, true, true, true, false, false, false, false, false, false, false, false, false] rfl rfl (any_of HT_.out (by kernel_rfl)) (fun _ _ _ h => h) (Or.inl ⟨by rfl, ?_⟩) ?_ ?_
  rotate_left
  · intro w'
    go_simp
    with_reducible rfl
  rotate_left
  · simp only [Act.put, List.setIfInBounds_toArray, List.set_cons_zero, List.set_cons_succ, i64_w, i32_w]
    rfl
  refine pure_ (i := 6) (N := some 18) (v := ?_) (a' := ?_) #[true, true, true, true, true, true, true, false, false, false, false, false, false, false, false] rfl rfl (any_of HT_.out (by kernel_rfl)) (fun _ _ _ h => h) (Or.inl ⟨by rfl, ?_⟩) ?_ ?_
  rotate_left
  · intro w'
    go_simp
    with_reducible rfl
  rotate_left
  · simp only [Act.put, List.setIfInBounds_toArray, List.set_cons_zero, List.set_cons_succ, i64_w, i32_w]
    rfl
  refine pure_ (i := 7) (N := some 19) (v := ?_) (a' := ?_) #[true, true, true, true, true, true, true, true, false, false, false, false, false, false, false] rfl rfl (any_of HT_.out (by kernel_rfl)) (fun _ _ _ h => h) (Or.inl ⟨by rfl, ?_⟩) ?_ ?_
  rotate_left
  · intro w'
    go_simp
    with_reducible rfl
  rotate_left
  · simp only [Act.put, List.setIfInBounds_toArray, List.set_cons_zero, List.set_cons_succ, i64_w, i32_w]
    rfl
  refine pure_ (i := 8) (N := some 20) (v := ?_) (a' := ?_) #[true, true, true, true, true, true, true, true, true, false, false, false, false, false, false] rfl rfl (any_of HT_.out (by kernel_rfl)) (fun _ _ _ h => h) (Or.inl ⟨by rfl, ?_⟩) ?_ ?_
  rotate_left
  · intro w'
    go_simp
    with_reducible rfl
  rotate_left
  · simp only [Act.put, List.setIfInBounds_toArray, List.set_cons_zero, List.set_cons_succ, i64_w, i32_w]
    rfl
  refine pure_ (i := 9) (N := some 21) (v := ?_) (a' := ?_) #[true, true, true, true, true, true, true, true, true, true, false, false, false, false, false] rfl rfl (any_of HT_.out (by kernel_rfl)) (fun _ _ _ h => h) (Or.inl ⟨by rfl, ?_⟩) ?_ ?_
  rotate_left
  · intro w'
    go_simp
    with_reducible rfl
  rotate_left
  · simp only [Act.put, List.setIfInBounds_toArray, List.set_cons_zero, List.set_cons_succ, i64_w, i32_w]
    rfl
  refine pure_ (i := 10) (N := some 22) (v := ?_) (a' := ?_) #[true, true, true, true, true, true, true, true, true, true, true, false, false, false, false] rfl rfl (any_of HT_.out (by kernel_rfl)) (fun _ _ _ h => h) (Or.inl ⟨by rfl, ?_⟩) ?_ ?_
  rotate_left
  · intro w'
    go_simp
    with_reducible rfl
  rotate_left
  · simp only [Act.put, List.setIfInBounds_toArray, List.set_cons_zero, List.set_cons_succ, i64_w, i32_w]
    rfl
  refine pure_ (i := 11) (N := some 23) (v := ?_) (a' := ?_) #[true, true, true, true, true, true, true, true, true, true, true, true, false, false, false] rfl rfl (any_of HT_.out (by kernel_rfl)) (fun _ _ _ h => h) (Or.inl ⟨by rfl, ?_⟩) ?_ ?_
  rotate_left
  · intro w'
    go_simp
    with_reducible rfl
  rotate_left
  · simp only [Act.put, List.setIfInBounds_toArray, List.set_cons_zero, List.set_cons_succ, i64_w, i32_w]
    rfl
  refine one_ (i := 12) (N := some 24) #[true, true, true, true, true, true, true, true, true, true, true, true, true, false, false] rfl rfl (one_of HT_.out (by kernel_rfl)) (by decide) (fun K hK => ?_)
  refine goes_ Try.func51 (by kernel_rfl) rfl #[.slice A0 l0.length c0, .slice A1 l1.length c1] (by rfl) rfl rfl (by (try simp only [List.map_toArray, List.map_cons, List.map_nil]); first | done | rfl | (simp only [List.length_drop, List.length_take]; rfl)) ?_
  with_reducible refine (laws_eqBoxS.calls k _ _ l0 _ _ l1 r _ ?side1 ?side2 ?side3 ?side4 A10.out).mono ?_
  (case side1 => repeat (first | exact HR0.out | exact (Kd.C_below HR0.out HB.out) | (with_reducible refine Kd.C_alloc ?_ _) | (with_reducible refine Kd.C_drewN ?_ _) | (with_reducible refine Kd.C_drew ?_)))
  (case side2 => exact HC0.out)
  (case side3 => repeat (first | exact HR1.out | exact (Kd.C_below HR1.out HB.out) | (with_reducible refine Kd.C_alloc ?_ _) | (with_reducible refine Kd.C_drewN ?_ _) | (with_reducible refine Kd.C_drew ?_)))
  (case side4 => exact HC1.out)
  rintro e w14 ⟨rfl, hd⟩
  have hb : Below _ _ w14 := hd
  refine ⟨_, rfl, ?_⟩
  have n0_ := Aside0.mk (below_step (by repeat (first | (with_reducible first | exact HB.out | exact Below.refl _ _ | apply below_alloc | apply pw_below_drewN | apply below_drew1) | exact HB.out)) hb)
  clear HB hb hd
  have HB := n0_
  clear n0_
  refine hK.out _ _ trivial (fun hHeld => ?_)
  clear hK K
  refine norm_ (a' := ?_) ?_ ?_
  rotate_left
  · show Act.put _ (some 24) _ = _
    simp only [Act.put, List.setIfInBounds_toArray, List.set_cons_zero, List.set_cons_succ, i64_w, i32_w]
    rfl
  refine pure_ (i := 13) (N := some 25) (v := ?_) (a' := ?_) #[true, true, true, true, true, true, true, true, true, true, true, true, true, true, false] rfl rfl (any_of HT_.out (by kernel_rfl)) (fun _ _ _ h => h) (Or.inl ⟨by rfl, ?_⟩) ?_ ?_
  rotate_left
  · intro w'
    go_simp
    with_reducible rfl
  rotate_left
  · simp only [Act.put, List.setIfInBounds_toArray, List.set_cons_zero, List.set_cons_succ, i64_w, i32_w]
    rfl
  refine pure_ (i := 14) (N := some 4) (v := ?_) (a' := ?_) #[true, true, true, true, true, true, true, true, true, true, true, true, true, true, true] rfl rfl (any_of HT_.out (by kernel_rfl)) (fun _ _ _ h => h) (Or.inl ⟨by rfl, ?_⟩) ?_ ?_
  rotate_left
  · intro w'
    go_simp
    with_reducible rfl
  rotate_left
  · simp only [Act.put, List.setIfInBounds_toArray, List.set_cons_zero, List.set_cons_succ, i64_w, i32_w]
    rfl
  refine done_ (done_of HT_.out (by kernel_rfl)) ?_
  try go_wp2
  go_ret
  exact ⟨by first | rfl | (simp [errW_none, errW_some] <;> rfl) | (simp [*, errW_none, errW_some] <;> rfl), by repeat (first | (with_reducible first | exact HB.out | apply below_alloc | apply pw_below_drewN | apply below_drew1) | exact HB.out)⟩
/-! ### laws_intactInt64S, over rows with what lies behind their lengths: function 25 -/
set_option maxHeartbeats 8000000 in
set_option maxRecDepth 100000 in
theorem laws_intactInt64SX.calls (k : Nat) (A0 : Option Addr) (c0 : Nat) (l0 : List Int) (A1 : Option Addr) (c1 : Nat) (l1 : List Int) (n0 : Nat) (rm : Int) (r : Bool) (w : World) (hr0 : Kd.C (Kd.int .i64) w A0 l0.length l0) (hc0 : l0.length ≤ c0) (hr1 : Kd.C (Kd.int .i64) w A1 l1.length l1) (hc1 : l1.length ≤ c1) (hrm : laws_roomBehind.f (n0 : Int) = some rm) (hj : wrap64 ((n0 : Int) + rm) = (l0.length : Int)) (hl : l1.length = l0.length) (h : laws_eqInt64S.f k l0 l1 = some r) :
    Calls Try.prog 25 #[.slice A0 n0 c0, .slice A1 n0 c1] w fun e w' => e = .returned (.bool r) ∧ Below w.heap.size w w' := by
  have HR0 := Aside0.mk hr0
  have HR1 := Aside0.mk hr1
  have HC0 := Aside0.mk hc0
  have HC1 := Aside0.mk hc1
  have HL := Aside0.mk hl
  clear hr0 hr1 hc0 hc1 hl
  obtain ⟨ji5, hji5⟩ : ∃ j_ : Int, j_ = (l0.length : Int) := ⟨_, rfl⟩
  rw [← hji5] at hj
  have HJ := Aside0.mk hji5
  have hji5w : (IntKind.i64.wrap ((n0 : Int) + rm)) = ji5 := (i64_w _).trans hj
  clear hji5
  have A3 := Aside0.mk hrm
  have A10 := Aside0.mk h
  clear hrm h
  obtain ⟨i0, hi0, _, hsz0, _⟩ := info_parts info2
  have hcut0 := cut_cap (P := Try.prog) 34 2 .i64 Try.underlying34 hi0 A0 n0 c0 l0.length ji5 HJ.out HC0.out
  have hcut1 := cut_cap (P := Try.prog) 34 2 .i64 Try.underlying34 hi0 A1 n0 c1 l1.length ji5 (HJ.out.trans (by rw [HL.out])) HC1.out
  clear hi0 hsz0
  go_enter Try.func25, Try.ntmps25
  go_wp2_with (first | (go_at_call 47; (with_reducible refine (laws_roomBehind.calls (n0 : Int) rm _ A3.out).mono ?_); rintro e w' ⟨rfl, ⟨nd, rfl⟩⟩; (try first | exact ⟨rfl, _, World.drewN_drewN _ _ _⟩ | exact ⟨rfl, _, Eq.trans (World.drewN_drewN _ _ _) (congrArg (World.drewN _) (Nat.add_assoc _ _ _))⟩)) | (go_at_call 34; (with_reducible refine (laws_eqInt64S.calls k _ _ l0 _ _ l1 r _ ?side1 ?side2 ?side3 ?side4 A10.out).mono ?_); (case side1 => repeat (first | exact HR0.out | (with_reducible refine Kd.C_alloc ?_ _) | (with_reducible refine Kd.C_drewN ?_ _) | (with_reducible refine Kd.C_drew ?_))); (case side2 => exact HC0.out); (case side3 => repeat (first | exact HR1.out | (with_reducible refine Kd.C_alloc ?_ _) | (with_reducible refine Kd.C_drewN ?_ _) | (with_reducible refine Kd.C_drew ?_))); (case side4 => exact HC1.out); rintro e w' ⟨rfl, ⟨nd, rfl⟩⟩; (try first | exact ⟨rfl, _, World.drewN_drewN _ _ _⟩ | exact ⟨rfl, _, Eq.trans (World.drewN_drewN _ _ _) (congrArg (World.drewN _) (Nat.add_assoc _ _ _))⟩)))
  repeat (go_quiet (first | (go_at_call 47; (with_reducible refine (laws_roomBehind.calls (n0 : Int) rm _ A3.out).mono ?_); rintro e w' ⟨rfl, ⟨nd, rfl⟩⟩; (try first | exact ⟨rfl, _, World.drewN_drewN _ _ _⟩ | exact ⟨rfl, _, Eq.trans (World.drewN_drewN _ _ _) (congrArg (World.drewN _) (Nat.add_assoc _ _ _))⟩)) | (go_at_call 34; (with_reducible refine (laws_eqInt64S.calls k _ _ l0 _ _ l1 r _ ?side1 ?side2 ?side3 ?side4 A10.out).mono ?_); (case side1 => repeat (first | exact HR0.out | (with_reducible refine Kd.C_alloc ?_ _) | (with_reducible refine Kd.C_drewN ?_ _) | (with_reducible refine Kd.C_drew ?_))); (case side2 => exact HC0.out); (case side3 => repeat (first | exact HR1.out | (with_reducible refine Kd.C_alloc ?_ _) | (with_reducible refine Kd.C_drewN ?_ _) | (with_reducible refine Kd.C_drew ?_))); (case side4 => exact HC1.out); rintro e w' ⟨rfl, ⟨nd, rfl⟩⟩; (try first | exact ⟨rfl, _, World.drewN_drewN _ _ _⟩ | exact ⟨rfl, _, Eq.trans (World.drewN_drewN _ _ _) (congrArg (World.drewN _) (Nat.add_assoc _ _ _))⟩))); try go_wp2_with (first | (go_at_call 47; (with_reducible refine (laws_roomBehind.calls (n0 : Int) rm _ A3.out).mono ?_); rintro e w' ⟨rfl, ⟨nd, rfl⟩⟩; (try first | exact ⟨rfl, _, World.drewN_drewN _ _ _⟩ | exact ⟨rfl, _, Eq.trans (World.drewN_drewN _ _ _) (congrArg (World.drewN _) (Nat.add_assoc _ _ _))⟩)) | (go_at_call 34; (with_reducible refine (laws_eqInt64S.calls k _ _ l0 _ _ l1 r _ ?side1 ?side2 ?side3 ?side4 A10.out).mono ?_); (case side1 => repeat (first | exact HR0.out | (with_reducible refine Kd.C_alloc ?_ _) | (with_reducible refine Kd.C_drewN ?_ _) | (with_reducible refine Kd.C_drew ?_))); (case side2 => exact HC0.out); (case side3 => repeat (first | exact HR1.out | (with_reducible refine Kd.C_alloc ?_ _) | (with_reducible refine Kd.C_drewN ?_ _) | (with_reducible refine Kd.C_drew ?_))); (case side4 => exact HC1.out); rintro e w' ⟨rfl, ⟨nd, rfl⟩⟩; (try first | exact ⟨rfl, _, World.drewN_drewN _ _ _⟩ | exact ⟨rfl, _, Eq.trans (World.drewN_drewN _ _ _) (congrArg (World.drewN _) (Nat.add_assoc _ _ _))⟩))))
  go_ret
  exact ⟨by first | rfl | (simp; done) | (simp [*]; done), by repeat (first | (with_reducible first | exact Below.refl _ _ | apply below_alloc | apply pw_below_drewN | apply below_drew1) | exact Below.refl _ _)⟩

/-! ### the law: function 9 -/
set_option maxHeartbeats 8000000 in
set_option maxRecDepth 100000 in
theorem laws_FnExactPeakOf.skip1_ (A0 : Option Addr) (c0 : Nat) (l0 : List (S58)) (a1 : Int) (A2 : Option Addr) (c2 : Nat) (l2 : List Int) (w : World) (hr0 : Kd.C k58 w A0 l0.length l0) (hc0 : l0.length ≤ c0) (hr2 : Kd.C (Kd.int .i64) w A2 l2.length l2) (hc2 : l2.length ≤ c2) (t_1 : Int) (hz1_ : laws_szBoxS.f l0 (wrap64 (1000000 - ((l2.length : Int)))) = some t_1) (hn_ : decide (t_1 < 0) = true) :
    Calls Try.prog 9 #[.slice A0 l0.length c0, .int .i64 a1, .slice A2 l2.length c2] w fun e w' => e = .returned (.bool true) ∧ Below w.heap.size w w' := by
  have HR0 := Aside0.mk hr0
  have HC0 := Aside0.mk hc0
  have HR2 := Aside0.mk hr2
  have HC2 := Aside0.mk hc2
  clear hr0 hc0 hr2 hc2
  have HZ1 := Aside0.mk hz1_
  have HN := Aside0.mk hn_
  clear hz1_ hn_
  have HB := Aside0.mk (Below.refl w.heap.size w)
  go_enter Try.func9, Try.ntmps9
  go_wp2_with (fail)
  go_at_call 13
  (with_reducible refine (laws_szBoxS.calls _ _ l0 (wrap64 (1000000 - ((l2.length : Int)))) t_1 _ ?side1 ?side2 HZ1.out).mono ?_)
  (case side1 => repeat (first | exact HR0.out | exact (Kd.C_below HR0.out HB.out) | (with_reducible refine Kd.C_alloc ?_ _) | (with_reducible refine Kd.C_drewN ?_ _) | (with_reducible refine Kd.C_drew ?_)))
  (case side2 => exact HC0.out)
  rintro e w_1 ⟨rfl, hd⟩
  have hb := hd.below
  clear hd
  have HBi := Aside0.mk (below_step (by repeat (first | (with_reducible first | exact Below.refl _ _ | apply below_alloc | apply pw_below_drewN | apply below_drew1) | exact Below.refl _ _)) hb : Below w.heap.size w w_1)
  clear hb
  have HBn := Aside0.mk (below_step HB.out HBi.out)
  clear HB
  have HB := HBn
  clear HBn
  have HS2 := Aside0.mk HBi.out.size
  clear HBi
  have hn_ := HN.out
  go_wp2
  go_ret
  exact ⟨by first | rfl | (simp; done) | (simp [*]; done), by repeat (first | (with_reducible first | exact HB.out | apply below_alloc | apply pw_below_drewN | apply below_drew1) | exact HB.out)⟩
set_option maxHeartbeats 8000000 in
set_option maxRecDepth 100000 in
theorem laws_FnExactPeakOf.true_ (k : Nat) (A0 : Option Addr) (c0 : Nat) (l0 : List (S58)) (a1 : Int) (A2 : Option Addr) (c2 : Nat) (l2 : List Int) (w : World) (hr0 : Kd.C k58 w A0 l0.length l0) (hc0 : l0.length ≤ c0) (hr2 : Kd.C (Kd.int .i64) w A2 l2.length l2) (hc2 : l2.length ≤ c2) (xs0 ext0 extb0 : List (S55)) (rm0 : Int) (xs2 ext2 extb2 : List Int) (rm2 : Int) (t_1 : Int) (res_r1 : Int) (res_r2 : Int) (hto0_ : laws_toBoxSX.f k l0 false = some ext0) (htob0_ : laws_toBoxSX.f k l0 true = some extb0) (hxl0_ : xs0.length = l0.length) (hnb0_ : extb0 = [] → l0.length = 0) (hne0_ : ¬ (ext0 = [])) (hxe0_ : xs0 = ext0.take xs0.length) (hxb0_ : xs0 = extb0.take xs0.length) (hle0_ : xs0.length ≤ ext0.length) (hlb0_ : xs0.length ≤ extb0.length) (hrm0_ : laws_roomBehind.f (xs0.length : Int) = some rm0) (hj0_ : wrap64 ((xs0.length : Int) + rm0) = (ext0.length : Int)) (heqx0_ : laws_eqBoxS.f k ext0 ext0 = some true) (hto2_ : laws_toInt64SX.f k l2 false = some ext2) (htob2_ : laws_toInt64SX.f k l2 true = some extb2) (hxl2_ : xs2.length = l2.length) (hnb2_ : extb2 = [] → l2.length = 0) (hne2_ : ¬ (ext2 = [])) (hxe2_ : xs2 = ext2.take xs2.length) (hxb2_ : xs2 = extb2.take xs2.length) (hle2_ : xs2.length ≤ ext2.length) (hlb2_ : xs2.length ≤ extb2.length) (hrm2_ : laws_roomBehind.f (xs2.length : Int) = some rm2) (hj2_ : wrap64 ((xs2.length : Int) + rm2) = (ext2.length : Int)) (heqx2_ : laws_eqInt64S.f k ext2 ext2 = some true) (hz1_ : laws_szBoxS.f l0 (wrap64 (1000000 - ((l2.length : Int)))) = some t_1) (hn1_ : decide (t_1 < 0) = false) (hfspec_ : spec_PeakOf.f k xs0 a1 xs2 = some (res_r1, res_r2)) (hfimpl_ : impl_PeakOf.f k xs0 a1 xs2 = some (res_r1, res_r2)) :
    Calls Try.prog 9 #[.slice A0 l0.length c0, .int .i64 a1, .slice A2 l2.length c2] w fun e w' => e = .returned (.bool true) ∧ Below w.heap.size w w' := by
  have HR0 := Aside0.mk hr0
  have HC0 := Aside0.mk hc0
  have HR2 := Aside0.mk hr2
  have HC2 := Aside0.mk hc2
  clear hr0 hc0 hr2 hc2
  have HTO0 := Aside0.mk hto0_
  have HTOB0 := Aside0.mk htob0_
  have HXL0 := Aside0.mk hxl0_
  have HNB0 := Aside0.mk hnb0_
  have HNE0 := Aside0.mk hne0_
  have HXE0 := Aside0.mk hxe0_
  have HXB0 := Aside0.mk hxb0_
  have HLE0 := Aside0.mk hle0_
  have HLB0 := Aside0.mk hlb0_
  have HRM0 := Aside0.mk hrm0_
  have HJ0 := Aside0.mk hj0_
  have HEQX0 := Aside0.mk heqx0_
  have HTO2 := Aside0.mk hto2_
  have HTOB2 := Aside0.mk htob2_
  have HXL2 := Aside0.mk hxl2_
  have HNB2 := Aside0.mk hnb2_
  have HNE2 := Aside0.mk hne2_
  have HXE2 := Aside0.mk hxe2_
  have HXB2 := Aside0.mk hxb2_
  have HLE2 := Aside0.mk hle2_
  have HLB2 := Aside0.mk hlb2_
  have HRM2 := Aside0.mk hrm2_
  have HJ2 := Aside0.mk hj2_
  have HEQX2 := Aside0.mk heqx2_
  have HZ1 := Aside0.mk hz1_
  have HN1 := Aside0.mk hn1_
  have HFspec := Aside0.mk hfspec_
  have HFimpl := Aside0.mk hfimpl_
  clear hto0_ htob0_ hxl0_ hnb0_ hne0_ hxe0_ hxb0_ hle0_ hlb0_ hrm0_ hj0_ heqx0_ hto2_ htob2_ hxl2_ hnb2_ hne2_ hxe2_ hxb2_ hle2_ hlb2_ hrm2_ hj2_ heqx2_ hz1_ hn1_ hfspec_ hfimpl_
  have HB := Aside0.mk (Below.refl w.heap.size w)
  go_enter Try.func9, Try.ntmps9
  go_wp2_with (fail)
  go_at_call 13
  (with_reducible refine (laws_szBoxS.calls _ _ l0 (wrap64 (1000000 - ((l2.length : Int)))) t_1 _ ?side1 ?side2 HZ1.out).mono ?_)
  (case side1 => repeat (first | exact HR0.out | exact (Kd.C_below HR0.out HB.out) | (with_reducible refine Kd.C_alloc ?_ _) | (with_reducible refine Kd.C_drewN ?_ _) | (with_reducible refine Kd.C_drew ?_)))
  (case side2 => exact HC0.out)
  rintro e w_1 ⟨rfl, hd⟩
  have hb := hd.below
  clear hd
  have HBi := Aside0.mk (below_step (by repeat (first | (with_reducible first | exact Below.refl _ _ | apply below_alloc | apply pw_below_drewN | apply below_drew1) | exact Below.refl _ _)) hb : Below w.heap.size w w_1)
  clear hb
  have HBn := Aside0.mk (below_step HB.out HBi.out)
  clear HB
  have HB := HBn
  clear HBn
  have HS2 := Aside0.mk HBi.out.size
  clear HBi
  have hn_ := HN1.out
  go_wp2_with (fail)
  clear hn_
  go_wp2_with (fail)
  go_at_call 15
  (with_reducible refine (laws_toBoxSX.calls k _ _ l0 false ext0 _ ?side1 ?side2 HTO0.out).mono ?_)
  (case side1 => repeat (first | exact HR0.out | exact (Kd.C_below HR0.out HB.out) | (with_reducible refine Kd.C_alloc ?_ _) | (with_reducible refine Kd.C_drewN ?_ _) | (with_reducible refine Kd.C_drew ?_)))
  (case side2 => exact HC0.out)
  rintro e w_3 ⟨Ao5, no6, co7, rfl, hn, ho, hb⟩
  obtain rfl : no6 = xs0.length := hn.full HXL0.out HNE0.out
  clear hn
  have ho1 := Aside0.mk (Kd.R_lower (R_span ho) (Nat.le_trans HB.out.size (by repeat (first | (with_reducible first | exact Below.refl _ _ | apply below_alloc | apply pw_below_drewN | apply below_drew1) | exact Below.refl _ _) : Below w_1.heap.size w_1 _).size))
  clear ho
  have HBi := Aside0.mk (below_step (by repeat (first | (with_reducible first | exact Below.refl _ _ | apply below_alloc | apply pw_below_drewN | apply below_drew1) | exact Below.refl _ _)) hb : Below w_1.heap.size w_1 w_3)
  clear hb
  have HBn := Aside0.mk (below_step HB.out HBi.out)
  clear HB
  have HB := HBn
  clear HBn
  have HS8 := Aside0.mk HBi.out.size
  clear HBi
  have HO4 := Aside0.mk (Kd.R_mono (ok' := fun k_ => w_1.heap.size ≤ k_ ∧ k_ < w_3.heap.size) ho1.out (fun k_ hk_ => hk_))
  clear ho1
  go_wp2_with (fail)
  go_at_call 23
  (with_reducible refine (laws_toInt64SX.calls k _ _ l2 false ext2 _ ?side1 ?side2 HTO2.out).mono ?_)
  (case side1 => repeat (first | exact HR2.out | exact (Kd.C_below HR2.out HB.out) | (with_reducible refine Kd.C_alloc ?_ _) | (with_reducible refine Kd.C_drewN ?_ _) | (with_reducible refine Kd.C_drew ?_)))
  (case side2 => exact HC2.out)
  rintro e w_9 ⟨Ao11, no12, co13, rfl, hn, ho, hb⟩
  obtain rfl : no12 = xs2.length := hn.full HXL2.out HNE2.out
  clear hn
  have ho1 := Aside0.mk (Kd.R_lower (R_span ho) (Nat.le_trans HB.out.size (by repeat (first | (with_reducible first | exact Below.refl _ _ | apply below_alloc | apply pw_below_drewN | apply below_drew1) | exact Below.refl _ _) : Below w_3.heap.size w_3 _).size))
  clear ho
  have HBi := Aside0.mk (below_step (by repeat (first | (with_reducible first | exact Below.refl _ _ | apply below_alloc | apply pw_below_drewN | apply below_drew1) | exact Below.refl _ _)) hb : Below w_3.heap.size w_3 w_9)
  clear hb
  have HBn := Aside0.mk (below_step HB.out HBi.out)
  clear HB
  have HB := HBn
  clear HBn
  have HS14 := Aside0.mk HBi.out.size
  have n0_ := Aside0.mk (Kd.R_below HO4.out HBi.out)
  clear HO4
  have HO4 := n0_
  clear n0_
  clear HBi
  have HO10 := Aside0.mk (Kd.R_mono (ok' := fun k_ => w_3.heap.size ≤ k_ ∧ k_ < w_9.heap.size) ho1.out (fun k_ hk_ => hk_))
  clear ho1
  go_wp2_with (fail)
  go_at_call 30
  (with_reducible refine (spec_PeakOf.calls k _ _ xs0 a1 _ _ xs2 res_r1 res_r2 _ ?side1 ?side2 ?side3 ?side4 HFspec.out).mono ?_)
  (case side1 => repeat (first | exact C_ext (Kd.R_reads' HO4.out).2.2 HXE0.out HLE0.out | (with_reducible refine Kd.C_alloc ?_ _) | (with_reducible refine Kd.C_drewN ?_ _) | (with_reducible refine Kd.C_drew ?_)))
  (case side2 => exact Nat.le_trans HLE0.out (Kd.R_reads' HO4.out).2.1)
  (case side3 => repeat (first | exact C_ext (Kd.R_reads' HO10.out).2.2 HXE2.out HLE2.out | (with_reducible refine Kd.C_alloc ?_ _) | (with_reducible refine Kd.C_drewN ?_ _) | (with_reducible refine Kd.C_drew ?_)))
  (case side4 => exact Nat.le_trans HLE2.out (Kd.R_reads' HO10.out).2.1)
  rintro e w_15 ⟨rfl, hb⟩
  have HBi := Aside0.mk (below_step (by repeat (first | (with_reducible first | exact Below.refl _ _ | apply below_alloc | apply pw_below_drewN | apply below_drew1) | exact Below.refl _ _)) hb : Below w_9.heap.size w_9 w_15)
  clear hb
  have HBn := Aside0.mk (below_step HB.out HBi.out)
  clear HB
  have HB := HBn
  clear HBn
  have HS16 := Aside0.mk HBi.out.size
  have n0_ := Aside0.mk (Kd.R_below HO4.out HBi.out)
  clear HO4
  have HO4 := n0_
  clear n0_
  have n0_ := Aside0.mk (Kd.R_below HO10.out HBi.out)
  clear HO10
  have HO10 := n0_
  clear n0_
  clear HBi
  clear HO4
  clear HO10
  go_wp2_with (fail)
  go_at_call 15
  (with_reducible refine (laws_toBoxSX.calls k _ _ l0 false ext0 _ ?side1 ?side2 HTO0.out).mono ?_)
  (case side1 => repeat (first | exact HR0.out | exact (Kd.C_below HR0.out HB.out) | (with_reducible refine Kd.C_alloc ?_ _) | (with_reducible refine Kd.C_drewN ?_ _) | (with_reducible refine Kd.C_drew ?_)))
  (case side2 => exact HC0.out)
  rintro e w_17 ⟨Ao19, no20, co21, rfl, hn, ho, hb⟩
  obtain rfl : no20 = xs0.length := hn.full HXL0.out HNE0.out
  clear hn
  have ho1 := Aside0.mk (Kd.R_lower (R_span ho) (Nat.le_trans HB.out.size (by repeat (first | (with_reducible first | exact Below.refl _ _ | apply below_alloc | apply pw_below_drewN | apply below_drew1) | exact Below.refl _ _) : Below w_15.heap.size w_15 _).size))
  clear ho
  have HBi := Aside0.mk (below_step (by repeat (first | (with_reducible first | exact Below.refl _ _ | apply below_alloc | apply pw_below_drewN | apply below_drew1) | exact Below.refl _ _)) hb : Below w_15.heap.size w_15 w_17)
  clear hb
  have HBn := Aside0.mk (below_step HB.out HBi.out)
  clear HB
  have HB := HBn
  clear HBn
  have HS22 := Aside0.mk HBi.out.size
  clear HBi
  have HO18 := Aside0.mk (Kd.R_mono (ok' := fun k_ => w_15.heap.size ≤ k_ ∧ k_ < w_17.heap.size) ho1.out (fun k_ hk_ => hk_))
  clear ho1
  go_wp2_with (fail)
  go_at_call 23
  (with_reducible refine (laws_toInt64SX.calls k _ _ l2 false ext2 _ ?side1 ?side2 HTO2.out).mono ?_)
  (case side1 => repeat (first | exact HR2.out | exact (Kd.C_below HR2.out HB.out) | (with_reducible refine Kd.C_alloc ?_ _) | (with_reducible refine Kd.C_drewN ?_ _) | (with_reducible refine Kd.C_drew ?_)))
  (case side2 => exact HC2.out)
  rintro e w_23 ⟨Ao25, no26, co27, rfl, hn, ho, hb⟩
  obtain rfl : no26 = xs2.length := hn.full HXL2.out HNE2.out
  clear hn
  have ho1 := Aside0.mk (Kd.R_lower (R_span ho) (Nat.le_trans HB.out.size (by repeat (first | (with_reducible first | exact Below.refl _ _ | apply below_alloc | apply pw_below_drewN | apply below_drew1) | exact Below.refl _ _) : Below w_17.heap.size w_17 _).size))
  clear ho
  have HBi := Aside0.mk (below_step (by repeat (first | (with_reducible first | exact Below.refl _ _ | apply below_alloc | apply pw_below_drewN | apply below_drew1) | exact Below.refl _ _)) hb : Below w_17.heap.size w_17 w_23)
  clear hb
  have HBn := Aside0.mk (below_step HB.out HBi.out)
  clear HB
  have HB := HBn
  clear HBn
  have HS28 := Aside0.mk HBi.out.size
  have n0_ := Aside0.mk (Kd.R_below HO18.out HBi.out)
  clear HO18
  have HO18 := n0_
  clear n0_
  clear HBi
  have HO24 := Aside0.mk (Kd.R_mono (ok' := fun k_ => w_17.heap.size ≤ k_ ∧ k_ < w_23.heap.size) ho1.out (fun k_ hk_ => hk_))
  clear ho1
  go_wp2_with (fail)
  go_at_call 31
  (with_reducible refine (impl_PeakOf.calls k _ _ xs0 a1 _ _ xs2 res_r1 res_r2 _ ?side1 ?side2 ?side3 ?side4 HFimpl.out).mono ?_)
  (case side1 => repeat (first | exact C_ext (Kd.R_reads' HO18.out).2.2 HXE0.out HLE0.out | (with_reducible refine Kd.C_alloc ?_ _) | (with_reducible refine Kd.C_drewN ?_ _) | (with_reducible refine Kd.C_drew ?_)))
  (case side2 => exact Nat.le_trans HLE0.out (Kd.R_reads' HO18.out).2.1)
  (case side3 => repeat (first | exact C_ext (Kd.R_reads' HO24.out).2.2 HXE2.out HLE2.out | (with_reducible refine Kd.C_alloc ?_ _) | (with_reducible refine Kd.C_drewN ?_ _) | (with_reducible refine Kd.C_drew ?_)))
  (case side4 => exact Nat.le_trans HLE2.out (Kd.R_reads' HO24.out).2.1)
  rintro e w_29 ⟨rfl, hb⟩
  have HBi := Aside0.mk (below_step (by repeat (first | (with_reducible first | exact Below.refl _ _ | apply below_alloc | apply pw_below_drewN | apply below_drew1) | exact Below.refl _ _)) hb : Below w_23.heap.size w_23 w_29)
  clear hb
  have HBn := Aside0.mk (below_step HB.out HBi.out)
  clear HB
  have HB := HBn
  clear HBn
  have HS30 := Aside0.mk HBi.out.size
  have n0_ := Aside0.mk (Kd.R_below HO18.out HBi.out)
  clear HO18
  have HO18 := n0_
  clear n0_
  have n0_ := Aside0.mk (Kd.R_below HO24.out HBi.out)
  clear HO24
  have HO24 := n0_
  clear n0_
  clear HBi
  go_wp2_with (fail)
  go_at_call 15
  (with_reducible refine (laws_toBoxSX.calls k _ _ l0 false ext0 _ ?side1 ?side2 HTO0.out).mono ?_)
  (case side1 => repeat (first | exact HR0.out | exact (Kd.C_below HR0.out HB.out) | (with_reducible refine Kd.C_alloc ?_ _) | (with_reducible refine Kd.C_drewN ?_ _) | (with_reducible refine Kd.C_drew ?_)))
  (case side2 => exact HC0.out)
  rintro e w_31 ⟨Ao33, no34, co35, rfl, hn, ho, hb⟩
  obtain rfl : no34 = xs0.length := hn.full HXL0.out HNE0.out
  clear hn
  have ho1 := Aside0.mk (Kd.R_lower (R_span ho) (Nat.le_trans HB.out.size (by repeat (first | (with_reducible first | exact Below.refl _ _ | apply below_alloc | apply pw_below_drewN | apply below_drew1) | exact Below.refl _ _) : Below w_29.heap.size w_29 _).size))
  clear ho
  have HBi := Aside0.mk (below_step (by repeat (first | (with_reducible first | exact Below.refl _ _ | apply below_alloc | apply pw_below_drewN | apply below_drew1) | exact Below.refl _ _)) hb : Below w_29.heap.size w_29 w_31)
  clear hb
  have HBn := Aside0.mk (below_step HB.out HBi.out)
  clear HB
  have HB := HBn
  clear HBn
  have HS36 := Aside0.mk HBi.out.size
  have n0_ := Aside0.mk (Kd.R_below HO18.out HBi.out)
  clear HO18
  have HO18 := n0_
  clear n0_
  have n0_ := Aside0.mk (Kd.R_below HO24.out HBi.out)
  clear HO24
  have HO24 := n0_
  clear n0_
  clear HBi
  have HO32 := Aside0.mk (Kd.R_mono (ok' := fun k_ => w_29.heap.size ≤ k_ ∧ k_ < w_31.heap.size) ho1.out (fun k_ hk_ => hk_))
  clear ho1
  go_wp2_with (fail)
  go_at_call 17
  (with_reducible refine (laws_intactBoxSX.calls k _ _ ext0 _ _ ext0 xs0.length rm0 true _ ?side1 ?side2 ?side3 ?side4 HRM0.out HJ0.out rfl HEQX0.out).mono ?_)
  (case side1 => repeat (first | exact (Kd.R_reads' HO18.out).2.2 | (with_reducible refine Kd.C_alloc ?_ _) | (with_reducible refine Kd.C_drewN ?_ _) | (with_reducible refine Kd.C_drew ?_)))
  (case side2 => exact (Kd.R_reads' HO18.out).2.1)
  (case side3 => repeat (first | exact (Kd.R_reads' HO32.out).2.2 | (with_reducible refine Kd.C_alloc ?_ _) | (with_reducible refine Kd.C_drewN ?_ _) | (with_reducible refine Kd.C_drew ?_)))
  (case side4 => exact (Kd.R_reads' HO32.out).2.1)
  rintro e w_37 ⟨rfl, hb⟩
  have HBi := Aside0.mk (below_step (by repeat (first | (with_reducible first | exact Below.refl _ _ | apply below_alloc | apply pw_below_drewN | apply below_drew1) | exact Below.refl _ _)) hb : Below w_31.heap.size w_31 w_37)
  clear hb
  have HBn := Aside0.mk (below_step HB.out HBi.out)
  clear HB
  have HB := HBn
  clear HBn
  have HS38 := Aside0.mk HBi.out.size
  have n0_ := Aside0.mk (Kd.R_below HO18.out HBi.out)
  clear HO18
  have HO18 := n0_
  clear n0_
  have n0_ := Aside0.mk (Kd.R_below HO24.out HBi.out)
  clear HO24
  have HO24 := n0_
  clear n0_
  have n0_ := Aside0.mk (Kd.R_below HO32.out HBi.out)
  clear HO32
  have HO32 := n0_
  clear n0_
  clear HBi
  clear HO32
  go_wp2_with (fail)
  go_at_call 23
  (with_reducible refine (laws_toInt64SX.calls k _ _ l2 false ext2 _ ?side1 ?side2 HTO2.out).mono ?_)
  (case side1 => repeat (first | exact HR2.out | exact (Kd.C_below HR2.out HB.out) | (with_reducible refine Kd.C_alloc ?_ _) | (with_reducible refine Kd.C_drewN ?_ _) | (with_reducible refine Kd.C_drew ?_)))
  (case side2 => exact HC2.out)
  rintro e w_39 ⟨Ao41, no42, co43, rfl, hn, ho, hb⟩
  obtain rfl : no42 = xs2.length := hn.full HXL2.out HNE2.out
  clear hn
  have ho1 := Aside0.mk (Kd.R_lower (R_span ho) (Nat.le_trans HB.out.size (by repeat (first | (with_reducible first | exact Below.refl _ _ | apply below_alloc | apply pw_below_drewN | apply below_drew1) | exact Below.refl _ _) : Below w_37.heap.size w_37 _).size))
  clear ho
  have HBi := Aside0.mk (below_step (by repeat (first | (with_reducible first | exact Below.refl _ _ | apply below_alloc | apply pw_below_drewN | apply below_drew1) | exact Below.refl _ _)) hb : Below w_37.heap.size w_37 w_39)
  clear hb
  have HBn := Aside0.mk (below_step HB.out HBi.out)
  clear HB
  have HB := HBn
  clear HBn
  have HS44 := Aside0.mk HBi.out.size
  have n0_ := Aside0.mk (Kd.R_below HO18.out HBi.out)
  clear HO18
  have HO18 := n0_
  clear n0_
  have n0_ := Aside0.mk (Kd.R_below HO24.out HBi.out)
  clear HO24
  have HO24 := n0_
  clear n0_
  clear HBi
  have HO40 := Aside0.mk (Kd.R_mono (ok' := fun k_ => w_37.heap.size ≤ k_ ∧ k_ < w_39.heap.size) ho1.out (fun k_ hk_ => hk_))
  clear ho1
  go_wp2_with (fail)
  go_at_call 25
  (with_reducible refine (laws_intactInt64SX.calls k _ _ ext2 _ _ ext2 xs2.length rm2 true _ ?side1 ?side2 ?side3 ?side4 HRM2.out HJ2.out rfl HEQX2.out).mono ?_)
  (case side1 => repeat (first | exact (Kd.R_reads' HO24.out).2.2 | (with_reducible refine Kd.C_alloc ?_ _) | (with_reducible refine Kd.C_drewN ?_ _) | (with_reducible refine Kd.C_drew ?_)))
  (case side2 => exact (Kd.R_reads' HO24.out).2.1)
  (case side3 => repeat (first | exact (Kd.R_reads' HO40.out).2.2 | (with_reducible refine Kd.C_alloc ?_ _) | (with_reducible refine Kd.C_drewN ?_ _) | (with_reducible refine Kd.C_drew ?_)))
  (case side4 => exact (Kd.R_reads' HO40.out).2.1)
  rintro e w_45 ⟨rfl, hb⟩
  have HBi := Aside0.mk (below_step (by repeat (first | (with_reducible first | exact Below.refl _ _ | apply below_alloc | apply pw_below_drewN | apply below_drew1) | exact Below.refl _ _)) hb : Below w_39.heap.size w_39 w_45)
  clear hb
  have HBn := Aside0.mk (below_step HB.out HBi.out)
  clear HB
  have HB := HBn
  clear HBn
  have HS46 := Aside0.mk HBi.out.size
  have n0_ := Aside0.mk (Kd.R_below HO18.out HBi.out)
  clear HO18
  have HO18 := n0_
  clear n0_
  have n0_ := Aside0.mk (Kd.R_below HO24.out HBi.out)
  clear HO24
  have HO24 := n0_
  clear n0_
  have n0_ := Aside0.mk (Kd.R_below HO40.out HBi.out)
  clear HO40
  have HO40 := n0_
  clear n0_
  clear HBi
  clear HO40
  go_wp2_with (fail)
  go_at_call 15
  (with_reducible refine (laws_toBoxSX.calls k _ _ l0 true extb0 _ ?side1 ?side2 HTOB0.out).mono ?_)
  (case side1 => repeat (first | exact HR0.out | exact (Kd.C_below HR0.out HB.out) | (with_reducible refine Kd.C_alloc ?_ _) | (with_reducible refine Kd.C_drewN ?_ _) | (with_reducible refine Kd.C_drew ?_)))
  (case side2 => exact HC0.out)
  rintro e w_47 ⟨Ao49, no50, co51, rfl, hn, ho, hb⟩
  obtain rfl : no50 = xs0.length := hn.bare HXL0.out HNB0.out
  clear hn
  have ho1 := Aside0.mk (Kd.R_lower (R_span ho) (Nat.le_trans HB.out.size (by repeat (first | (with_reducible first | exact Below.refl _ _ | apply below_alloc | apply pw_below_drewN | apply below_drew1) | exact Below.refl _ _) : Below w_45.heap.size w_45 _).size))
  clear ho
  have HBi := Aside0.mk (below_step (by repeat (first | (with_reducible first | exact Below.refl _ _ | apply below_alloc | apply pw_below_drewN | apply below_drew1) | exact Below.refl _ _)) hb : Below w_45.heap.size w_45 w_47)
  clear hb
  have HBn := Aside0.mk (below_step HB.out HBi.out)
  clear HB
  have HB := HBn
  clear HBn
  have HS52 := Aside0.mk HBi.out.size
  have n0_ := Aside0.mk (Kd.R_below HO18.out HBi.out)
  clear HO18
  have HO18 := n0_
  clear n0_
  have n0_ := Aside0.mk (Kd.R_below HO24.out HBi.out)
  clear HO24
  have HO24 := n0_
  clear n0_
  clear HBi
  have HO48 := Aside0.mk (Kd.R_mono (ok' := fun k_ => w_45.heap.size ≤ k_ ∧ k_ < w_47.heap.size) ho1.out (fun k_ hk_ => hk_))
  clear ho1
  go_wp2_with (fail)
  go_at_call 23
  (with_reducible refine (laws_toInt64SX.calls k _ _ l2 true extb2 _ ?side1 ?side2 HTOB2.out).mono ?_)
  (case side1 => repeat (first | exact HR2.out | exact (Kd.C_below HR2.out HB.out) | (with_reducible refine Kd.C_alloc ?_ _) | (with_reducible refine Kd.C_drewN ?_ _) | (with_reducible refine Kd.C_drew ?_)))
  (case side2 => exact HC2.out)
  rintro e w_53 ⟨Ao55, no56, co57, rfl, hn, ho, hb⟩
  obtain rfl : no56 = xs2.length := hn.bare HXL2.out HNB2.out
  clear hn
  have ho1 := Aside0.mk (Kd.R_lower (R_span ho) (Nat.le_trans HB.out.size (by repeat (first | (with_reducible first | exact Below.refl _ _ | apply below_alloc | apply pw_below_drewN | apply below_drew1) | exact Below.refl _ _) : Below w_47.heap.size w_47 _).size))
  clear ho
  have HBi := Aside0.mk (below_step (by repeat (first | (with_reducible first | exact Below.refl _ _ | apply below_alloc | apply pw_below_drewN | apply below_drew1) | exact Below.refl _ _)) hb : Below w_47.heap.size w_47 w_53)
  clear hb
  have HBn := Aside0.mk (below_step HB.out HBi.out)
  clear HB
  have HB := HBn
  clear HBn
  have HS58 := Aside0.mk HBi.out.size
  have n0_ := Aside0.mk (Kd.R_below HO18.out HBi.out)
  clear HO18
  have HO18 := n0_
  clear n0_
  have n0_ := Aside0.mk (Kd.R_below HO24.out HBi.out)
  clear HO24
  have HO24 := n0_
  clear n0_
  have n0_ := Aside0.mk (Kd.R_below HO48.out HBi.out)
  clear HO48
  have HO48 := n0_
  clear n0_
  clear HBi
  have HO54 := Aside0.mk (Kd.R_mono (ok' := fun k_ => w_47.heap.size ≤ k_ ∧ k_ < w_53.heap.size) ho1.out (fun k_ hk_ => hk_))
  clear ho1
  go_wp2_with (fail)
  go_at_call 31
  (with_reducible refine (impl_PeakOf.calls k _ _ xs0 a1 _ _ xs2 res_r1 res_r2 _ ?side1 ?side2 ?side3 ?side4 HFimpl.out).mono ?_)
  (case side1 => repeat (first | exact C_ext (Kd.R_reads' HO48.out).2.2 HXB0.out HLB0.out | (with_reducible refine Kd.C_alloc ?_ _) | (with_reducible refine Kd.C_drewN ?_ _) | (with_reducible refine Kd.C_drew ?_)))
  (case side2 => exact Nat.le_trans HLB0.out (Kd.R_reads' HO48.out).2.1)
  (case side3 => repeat (first | exact C_ext (Kd.R_reads' HO54.out).2.2 HXB2.out HLB2.out | (with_reducible refine Kd.C_alloc ?_ _) | (with_reducible refine Kd.C_drewN ?_ _) | (with_reducible refine Kd.C_drew ?_)))
  (case side4 => exact Nat.le_trans HLB2.out (Kd.R_reads' HO54.out).2.1)
  rintro e w_59 ⟨rfl, hb⟩
  have HBi := Aside0.mk (below_step (by repeat (first | (with_reducible first | exact Below.refl _ _ | apply below_alloc | apply pw_below_drewN | apply below_drew1) | exact Below.refl _ _)) hb : Below w_53.heap.size w_53 w_59)
  clear hb
  have HBn := Aside0.mk (below_step HB.out HBi.out)
  clear HB
  have HB := HBn
  clear HBn
  have HS60 := Aside0.mk HBi.out.size
  have n0_ := Aside0.mk (Kd.R_below HO18.out HBi.out)
  clear HO18
  have HO18 := n0_
  clear n0_
  have n0_ := Aside0.mk (Kd.R_below HO24.out HBi.out)
  clear HO24
  have HO24 := n0_
  clear n0_
  have n0_ := Aside0.mk (Kd.R_below HO48.out HBi.out)
  clear HO48
  have HO48 := n0_
  clear n0_
  have n0_ := Aside0.mk (Kd.R_below HO54.out HBi.out)
  clear HO54
  have HO54 := n0_
  clear n0_
  clear HBi
  clear HO48
  clear HO54
  go_wp2
  go_ret
  exact ⟨by first | rfl | (simp; done) | (simp [*]; done), by repeat (first | (with_reducible first | exact HB.out | apply below_alloc | apply pw_below_drewN | apply below_drew1) | exact HB.out)⟩

/-- What is to be told of the answers, for the law to tell true. -/
structure laws_FnExactPeakOf.Facts (k : Nat) (l0 : List (S58)) (a1 : Int) (l2 : List Int) (xs0 : List (S55)) (ext0 : List (S55)) (extb0 : List (S55)) (rm0 : Int) (xs2 : List Int) (ext2 : List Int) (extb2 : List Int) (rm2 : Int) (t_1 : Int) (res_r1 : Int) (res_r2 : Int) : Prop where
  hto0 : laws_toBoxSX.f k l0 false = some ext0
  htob0 : laws_toBoxSX.f k l0 true = some extb0
  hxl0 : xs0.length = l0.length
  hnb0 : extb0 = [] → l0.length = 0
  hne0 : ¬ (ext0 = [])
  hxe0 : xs0 = ext0.take xs0.length
  hxb0 : xs0 = extb0.take xs0.length
  hle0 : xs0.length ≤ ext0.length
  hlb0 : xs0.length ≤ extb0.length
  hrm0 : laws_roomBehind.f (xs0.length : Int) = some rm0
  hj0 : wrap64 ((xs0.length : Int) + rm0) = (ext0.length : Int)
  heqx0 : laws_eqBoxS.f k ext0 ext0 = some true
  hto2 : laws_toInt64SX.f k l2 false = some ext2
  htob2 : laws_toInt64SX.f k l2 true = some extb2
  hxl2 : xs2.length = l2.length
  hnb2 : extb2 = [] → l2.length = 0
  hne2 : ¬ (ext2 = [])
  hxe2 : xs2 = ext2.take xs2.length
  hxb2 : xs2 = extb2.take xs2.length
  hle2 : xs2.length ≤ ext2.length
  hlb2 : xs2.length ≤ extb2.length
  hrm2 : laws_roomBehind.f (xs2.length : Int) = some rm2
  hj2 : wrap64 ((xs2.length : Int) + rm2) = (ext2.length : Int)
  heqx2 : laws_eqInt64S.f k ext2 ext2 = some true
  hz1 : laws_szBoxS.f l0 (wrap64 (1000000 - ((l2.length : Int)))) = some t_1
  hn1 : decide (t_1 < 0) = false
  hfspec : spec_PeakOf.f k xs0 a1 xs2 = some (res_r1, res_r2)
  hfimpl : impl_PeakOf.f k xs0 a1 xs2 = some (res_r1, res_r2)
/-- The statement over numbers and lists. -/
def laws_FnExactPeakOf.Pure : Prop := ∀ (l0 : List (S58)) (a1 : Int) (l2 : List Int), l0.length ≤ 140737488351232 → l2.length ≤ 140737488351232 → (Lit.int .i64 a1).wf = true → 
    (∃ t_1, laws_szBoxS.f l0 (wrap64 (1000000 - ((l2.length : Int)))) = some t_1 ∧ decide (t_1 < 0) = true) ∨
    (∃ k xs0 ext0 extb0 rm0 xs2 ext2 extb2 rm2 t_1 res_r1 res_r2, laws_FnExactPeakOf.Facts k l0 a1 l2 xs0 ext0 extb0 rm0 xs2 ext2 extb2 rm2 t_1 res_r1 res_r2)

theorem laws_FnExactPeakOf.walk (P_ : laws_FnExactPeakOf.Pure) (A0 : Option Addr) (c0 : Nat) (l0 : List (S58)) (a1 : Int) (A2 : Option Addr) (c2 : Nat) (l2 : List Int) (w : World) (hr0 : Kd.C k58 w A0 l0.length l0) (hc0 : l0.length ≤ c0) (hr2 : Kd.C (Kd.int .i64) w A2 l2.length l2) (hc2 : l2.length ≤ c2) (wa1 : (Lit.int .i64 a1).wf = true) (wl0 : l0.length ≤ 140737488351232) (wl2 : l2.length ≤ 140737488351232) :
    Calls Try.prog 9 #[.slice A0 l0.length c0, .int .i64 a1, .slice A2 l2.length c2] w fun e w' => e = .returned (.bool true) ∧ Below w.heap.size w w' := by
  rcases P_ l0 a1 l2 wl0 wl2 wa1 with ⟨t_1, h0_, h1_⟩ | ⟨k, xs0, ext0, extb0, rm0, xs2, ext2, extb2, rm2, t_1, res_r1, res_r2, F⟩
  · exact laws_FnExactPeakOf.skip1_ _ _ l0 a1 _ _ l2 w hr0 hc0 hr2 hc2 t_1 h0_ h1_
  · exact laws_FnExactPeakOf.true_ k _ _ l0 a1 _ _ l2 w hr0 hc0 hr2 hc2 xs0 ext0 extb0 rm0 xs2 ext2 extb2 rm2 t_1 res_r1 res_r2 F.hto0 F.htob0 F.hxl0 F.hnb0 F.hne0 F.hxe0 F.hxb0 F.hle0 F.hlb0 F.hrm0 F.hj0 F.heqx0 F.hto2 F.htob2 F.hxl2 F.hnb2 F.hne2 F.hxe2 F.hxb2 F.hle2 F.hlb2 F.hrm2 F.hj2 F.heqx2 F.hz1 F.hn1 F.hfspec F.hfimpl

end Go.Proofs.Ytjnfimhckeihhaa.PFnExactPeakOf
