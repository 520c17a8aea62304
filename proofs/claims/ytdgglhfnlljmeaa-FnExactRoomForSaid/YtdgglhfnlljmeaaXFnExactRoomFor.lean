/- FnExactRoomFor: the parts of the law that look behind a row's length, and the law's walk: with the answers that the functions give, it tells true. -/
import Derived.Test.YtdgglhfnlljmeaaQFnExactRoomForx14
namespace Go.Proofs.Ytdgglhfnlljmeaa.PFnExactRoomFor
open Go.RowKit Go.Proofs.YtdgglhfnlljmeaaW.PrintWords Go.Proofs.YtdgglhfnlljmeaaW.PrintLast Go.Proofs.YtdgglhfnlljmeaaW.PrintMore
attribute [local go_sem] max2_int min2_int max_two min_two max_three min_three max_four min_four   -- for this text's walks alone
set_option linter.unusedVariables false
set_option linter.unusedSimpArgs false
open Go.Proofs.YtdgglhfnlljmeaaX

/-! ### laws_intactArticleS, over rows with what lies behind their lengths: function 20 -/
def laws_intactArticleS.T2 : Bool × List (List Nat × List Nat) := (true, [([], []), ([0], [0]), ([], []), ([2], [2]), ([1, 3], [1, 3]), ([4], [4]), ([5], [5]), ([5], [5]), ([6, 7, 5], [5, 6, 7]), ([5], [5]), ([5], [5]), ([9, 10, 5], [5, 9, 10]), ([8, 11, 5, 5], [5, 8, 11]), ([5, 12], [5, 12]), ([13, 12, 0, 1, 2, 3, 4, 5, 6, 7, 8, 9, 10, 11, 12, 13], [13])])
def laws_intactArticleS.B2 : List Nat := [0, 1, 0, 4, 15, 31, 63, 63, 255, 63, 63, 1599, 4095, 8191, 16383]
theorem laws_intactArticleS.tab2 : rtab .any (opsOf Try.f20 2) = laws_intactArticleS.T2 := by kernel_rfl
theorem laws_intactArticleS.bits2 : waitsOk laws_intactArticleS.T2.2 laws_intactArticleS.B2 = true := by kernel_rfl
set_option maxHeartbeats 8000000 in
set_option maxRecDepth 100000 in
theorem laws_intactArticleSX.calls (k : Nat) (A0 : Option Addr) (c0 : Nat) (l0 : List (S65)) (A1 : Option Addr) (c1 : Nat) (l1 : List (S65)) (n0 : Nat) (rm : Int) (r : Bool) (w : World) (hr0 : Kd.C k65 w A0 l0.length l0) (hc0 : l0.length ≤ c0) (hr1 : Kd.C k65 w A1 l1.length l1) (hc1 : l1.length ≤ c1) (hrm : laws_roomBehind.f (n0 : Int) = some rm) (hj : wrap64 ((n0 : Int) + rm) = (l0.length : Int)) (hl : l1.length = l0.length) (h : laws_eqArticleS.f k l0 l1 = some r) :
    Calls Try.prog 20 #[.slice A0 n0 c0, .slice A1 n0 c1] w fun e w' => e = .returned (.bool r) ∧ Below w.heap.size w w' := by
  have HR0 := Aside0.mk hr0
  have HR1 := Aside0.mk hr1
  have HC0 := Aside0.mk hc0
  have HC1 := Aside0.mk hc1
  have HL := Aside0.mk hl
  clear hr0 hr1 hc0 hc1 hl
  have HB := Aside0.mk (Below.refl w.heap.size w)
  obtain ⟨ji5, hji5⟩ : ∃ j_ : Int, j_ = (l0.length : Int) := ⟨_, rfl⟩
  rw [← hji5] at hj
  have HJ := Aside0.mk hji5
  have hji5w : (IntKind.i64.wrap ((n0 : Int) + rm)) = ji5 := (i64_w _).trans hj
  clear hji5
  have A3 := Aside0.mk hrm
  have A10 := Aside0.mk h
  clear hrm h
  go_enter Try.func20, Try.ntmps20
  try go_wp2_with (first | (go_at_call 48; (with_reducible refine (laws_roomBehind.calls (n0 : Int) rm _ A3.out).mono ?_); rintro e w' ⟨rfl, ⟨nd, rfl⟩⟩))
  have n0_ := Aside0.mk (below_drew1 (pw_below_drewN HB.out nd))
  clear HB
  have HB := n0_
  clear n0_
  obtain ⟨i0, hi0, _, hsz0, _⟩ := info_parts info65
  have hcut0 := cut_cap (P := Try.prog) 31 65 .i64 Try.underlying31 hi0 A0 n0 c0 l0.length ji5 HJ.out HC0.out
  have hcut1 := cut_cap (P := Try.prog) 31 65 .i64 Try.underlying31 hi0 A1 n0 c1 l1.length ji5 (HJ.out.trans (by rw [HL.out])) HC1.out
  clear hi0 hsz0
  refine start_ (n := 15) (S := fun w' => True) (ds := []) #[false, false, false, false, false, false, false, false, false, false, false, false, false, false, false] (by kernel_rfl) rfl rfl trivial (fun hHeld => ?_); refine with_tabW laws_intactArticleS.tab2 laws_intactArticleS.bits2 (fun HT_ HW_ => ?_)
  try generalize (w.drewN nd).drew = w11 at HB hHeld ⊢
  refine pure_ (i := 0) (N := some 12) (v := ?_) (a' := ?_) #[true, false, false, false, false, false, false, false, false, false, false, false, false, false, false] rfl rfl (any_of HT_.out (by kernel_rfl)) (fun _ _ _ h => h) (Or.inl ⟨by rfl, ?_⟩) ?_ ?_
  rotate_left
  · intro w'
    go_simp
    with_reducible rfl
  rotate_left
  · simp only [Act.put, List.setIfInBounds_toArray, List.set_cons_zero, List.set_cons_succ, i64_w, i32_w]
    rfl
  refine pure_ (i := 1) (N := some 13) (v := ?_) (a' := ?_) #[true, true, false, false, false, false, false, false, false, false, false, false, false, false, false] rfl rfl (any_of HT_.out (by kernel_rfl)) (fun _ _ _ h => h) (Or.inl ⟨by rfl, ?_⟩) ?_ ?_
  rotate_left
  · intro w'
    go_simp
    with_reducible rfl
  rotate_left
  · simp only [Act.put, List.setIfInBounds_toArray, List.set_cons_zero, List.set_cons_succ, i64_w, i32_w]
    rfl
  refine pure_ (i := 2) (N := some 14) (v := ?_) (a' := ?_) #[true, true, true, false, false, false, false, false, false, false, false, false, false, false, false] rfl rfl (any_of HT_.out (by kernel_rfl)) (fun _ _ _ h => h) (Or.inl ⟨by rfl, ?_⟩) ?_ ?_
  rotate_left
  · intro w'
    go_simp
    with_reducible rfl
  rotate_left
  · simp only [Act.put, List.setIfInBounds_toArray, List.set_cons_zero, List.set_cons_succ, i64_w, i32_w]
    rfl
  refine pure_ (i := 3) (N := some 15) (v := ?_) (a' := ?_) #[true, true, true, true, false, false, false, false, false, false, false, false, false, false, false] rfl rfl (any_of HT_.out (by kernel_rfl)) (fun _ _ _ h => h) (Or.inl ⟨by rfl, ?_⟩) ?_ ?_
  rotate_left
  · intro w'
    go_simp
    with_reducible rfl
  rotate_left
  · simp only [Act.put, List.setIfInBounds_toArray, List.set_cons_zero, List.set_cons_succ, i64_w, i32_w]
    rfl
  refine pure_ (i := 4) (N := some 16) (v := ?_) (a' := ?_) #[true, true, true, true, true, false, false, false, false, false, false, false, false, false, false] rfl rfl (any_of HT_.out (by kernel_rfl)) (fun _ _ _ h => h) (Or.inl ⟨by rfl, ?_⟩) ?_ ?_
  rotate_left
  · intro w'
    go_simp
    with_reducible rfl
  rotate_left
  · simp only [Act.put, List.setIfInBounds_toArray, List.set_cons_zero, List.set_cons_succ, i64_w, i32_w]
    rfl
  refine pure_ (i := 5) (N := some 17) (v := ?_) (a' := ?_) #[true, true, true, true, true, true, false, false, false, false, false, false, false, false, false] rfl rfl (any_of HT_.out (by kernel_rfl)) (fun _ _ _ h => h) (Or.inl ⟨by rfl, ?_⟩) ?_ ?_
  rotate_left
  · intro w'
    go_simp
    with_reducible rfl
  rotate_left
  · simp only [Act.put, List.setIfInBounds_toArray, List.set_cons_zero, List.set_cons_succ, i64_w, i32_w]
    rfl
  refine pure_ (i := 6) (N := some 18) (v := ?_) (a' := ?_) #[true, true, true, true, true, true, true, false, false, false, false, false, false, false, false] rfl rfl (any_of HT_.out (by kernel_rfl)) (fun _ _ _ h => h) (Or.inl ⟨by rfl, ?_⟩) ?_ ?_
  rotate_left
  · intro w'
    go_simp
    with_reducible rfl
  rotate_left
  · simp only [Act.put, List.setIfInBounds_toArray, List.set_cons_zero, List.set_cons_succ, i64_w, i32_w]
    rfl
  refine pure_ (i := 7) (N := some 19) (v := ?_) (a' := ?_) #[true, true, true, true, true, true, true, true, false, false, false, false, false, false, false] rfl rfl (any_of HT_.out (by kernel_rfl)) (fun _ _ _ h => h) (Or.inl ⟨by rfl, ?_⟩) ?_ ?_
  rotate_left
  · intro w'
    go_simp
    with_reducible rfl
  rotate_left
  · simp only [Act.put, List.setIfInBounds_toArray, List.set_cons_zero, List.set_cons_succ, i64_w, i32_w]
    rfl
  refine pure_ (i := 8) (N := some 20) (v := ?_) (a' := ?_) #[true, true, true, true, true, true, true, true, true, false, false, false, false, false, false] rfl rfl (any_of HT_.out (by kernel_rfl)) (fun _ _ _ h => h) (Or.inl ⟨by rfl, ?_⟩) ?_ ?_
  rotate_left
  · intro w'
    go_simp
    with_reducible rfl
  rotate_left
  · simp only [Act.put, List.setIfInBounds_toArray, List.set_cons_zero, List.set_cons_succ, i64_w, i32_w]
    rfl
  refine pure_ (i := 9) (N := some 21) (v := ?_) (a' := ?_) #[true, true, true, true, true, true, true, true, true, true, false, false, false, false, false] rfl rfl (any_of HT_.out (by kernel_rfl)) (fun _ _ _ h => h) (Or.inl ⟨by rfl, ?_⟩) ?_ ?_
  rotate_left
  · intro w'
    go_simp
    with_reducible rfl
  rotate_left
  · simp only [Act.put, List.setIfInBounds_toArray, List.set_cons_zero, List.set_cons_succ, i64_w, i32_w]
    rfl
  refine pure_ (i := 10) (N := some 22) (v := ?_) (a' := ?_) #[true, true, true, true, true, true, true, true, true, true, true, false, false, false, false] rfl rfl (any_of HT_.out (by kernel_rfl)) (fun _ _ _ h => h) (Or.inl ⟨by rfl, ?_⟩) ?_ ?_
  rotate_left
  · intro w'
    go_simp
    with_reducible rfl
  rotate_left
  · simp only [Act.put, List.setIfInBounds_toArray, List.set_cons_zero, List.set_cons_succ, i64_w, i32_w]
    rfl
  refine pure_ (i := 11) (N := some 23) (v := ?_) (a' := ?_) #[true, true, true, true, true, true, true, true, true, true, true, true, false, false, false] rfl rfl (any_of HT_.out (by kernel_rfl)) (fun _ _ _ h => h) (Or.inl ⟨by rfl, ?_⟩) ?_ ?_
  rotate_left
  · intro w'
    go_simp
    with_reducible rfl
  rotate_left
  · simp only [Act.put, List.setIfInBounds_toArray, List.set_cons_zero, List.set_cons_succ, i64_w, i32_w]
    rfl
  refine one_ (i := 12) (N := some 24) #[true, true, true, true, true, true, true, true, true, true, true, true, true, false, false] rfl rfl (one_of HT_.out (by kernel_rfl)) (by decide) (fun K hK => ?_)
  refine goes_ Try.func53 (by kernel_rfl) rfl #[.slice A0 l0.length c0, .slice A1 l1.length c1] (by rfl) rfl rfl (by (try simp only [List.map_toArray, List.map_cons, List.map_nil]); first | done | rfl | (simp only [List.length_drop, List.length_take]; rfl)) ?_
  with_reducible refine (laws_eqArticleS.calls k _ _ l0 _ _ l1 r _ ?side1 ?side2 ?side3 ?side4 A10.out).mono ?_
  (case side1 => repeat (first | exact HR0.out | exact (Kd.C_below HR0.out HB.out) | (with_reducible refine Kd.C_alloc ?_ _) | (with_reducible refine Kd.C_drewN ?_ _) | (with_reducible refine Kd.C_drew ?_)))
  (case side2 => exact HC0.out)
  (case side3 => repeat (first | exact HR1.out | exact (Kd.C_below HR1.out HB.out) | (with_reducible refine Kd.C_alloc ?_ _) | (with_reducible refine Kd.C_drewN ?_ _) | (with_reducible refine Kd.C_drew ?_)))
  (case side4 => exact HC1.out)
  rintro e w14 ⟨rfl, hd⟩
  have hb : Below _ _ w14 := hd
  refine ⟨_, rfl, ?_⟩
  have n0_ := Aside0.mk (below_step (by repeat (first | (with_reducible first | exact HB.out | exact Below.refl _ _ | apply below_alloc | apply pw_below_drewN | apply below_drew1) | exact HB.out)) hb)
  clear HB hb hd
  have HB := n0_
  clear n0_
  refine hK.out _ _ trivial (fun hHeld => ?_)
  clear hK K
  refine norm_ (a' := ?_) ?_ ?_
  rotate_left
  · show Act.put _ (some 24) _ = _
    simp only [Act.put, List.setIfInBounds_toArray, List.set_cons_zero, List.set_cons_succ, i64_w, i32_w]
    rfl
  refine pure_ (i := 13) (N := some 25) (v := ?_) (a' := ?_) #[true, true, true, true, true, true, true, true, true, true, true, true, true, true, false] rfl rfl (any_of HT_.out (by kernel_rfl)) (fun _ _ _ h => h) (Or.inl ⟨by rfl, ?_⟩) ?_ ?_
  rotate_left
  · intro w'
    go_simp
    with_reducible rfl
  rotate_left
  · simp only [Act.put, List.setIfInBounds_toArray, List.set_cons_zero, List.set_cons_succ, i64_w, i32_w]
    rfl
  refine pure_ (i := 14) (N := some 4) (v := ?_) (a' := ?_) #[true, true, true, true, true, true, true, true, true, true, true, true, true, true, true] rfl rfl (any_of HT_.out (by kernel_rfl)) (fun _ _ _ h => h) (Or.inl ⟨by rfl, ?_⟩) ?_ ?_
  rotate_left
  · intro w'
    go_simp
    with_reducible rfl
  rotate_left
  · simp only [Act.put, List.setIfInBounds_toArray, List.set_cons_zero, List.set_cons_succ, i64_w, i32_w]
    rfl
  refine done_ (done_of HT_.out (by kernel_rfl)) ?_
  try go_wp2
  go_ret
  exact ⟨by first | rfl | (simp [errW_none, errW_some] <;> rfl) | (simp [*, errW_none, errW_some] <;> rfl), by repeat (first | (with_reducible first | exact HB.out | apply below_alloc | apply pw_below_drewN | apply below_drew1) | exact HB.out)⟩
/-! ### laws_intactInt64S, over rows with what lies behind their lengths: function 54 -/
set_option maxHeartbeats 8000000 in
set_option maxRecDepth 100000 in
theorem laws_intactInt64SX.calls (k : Nat) (A0 : Option Addr) (c0 : Nat) (l0 : List Int) (A1 : Option Addr) (c1 : Nat) (l1 : List Int) (n0 : Nat) (rm : Int) (r : Bool) (w : World) (hr0 : Kd.C (Kd.int .i64) w A0 l0.length l0) (hc0 : l0.length ≤ c0) (hr1 : Kd.C (Kd.int .i64) w A1 l1.length l1) (hc1 : l1.length ≤ c1) (hrm : laws_roomBehind.f (n0 : Int) = some rm) (hj : wrap64 ((n0 : Int) + rm) = (l0.length : Int)) (hl : l1.length = l0.length) (h : laws_eqInt64S.f k l0 l1 = some r) :
    Calls Try.prog 54 #[.slice A0 n0 c0, .slice A1 n0 c1] w fun e w' => e = .returned (.bool r) ∧ Below w.heap.size w w' := by
  have HR0 := Aside0.mk hr0
  have HR1 := Aside0.mk hr1
  have HC0 := Aside0.mk hc0
  have HC1 := Aside0.mk hc1
  have HL := Aside0.mk hl
  clear hr0 hr1 hc0 hc1 hl
  obtain ⟨ji5, hji5⟩ : ∃ j_ : Int, j_ = (l0.length : Int) := ⟨_, rfl⟩
  rw [← hji5] at hj
  have HJ := Aside0.mk hji5
  have hji5w : (IntKind.i64.wrap ((n0 : Int) + rm)) = ji5 := (i64_w _).trans hj
  clear hji5
  have A3 := Aside0.mk hrm
  have A10 := Aside0.mk h
  clear hrm h
  obtain ⟨i0, hi0, _, hsz0, _⟩ := info_parts info2
  have hcut0 := cut_cap (P := Try.prog) 23 2 .i64 Try.underlying23 hi0 A0 n0 c0 l0.length ji5 HJ.out HC0.out
  have hcut1 := cut_cap (P := Try.prog) 23 2 .i64 Try.underlying23 hi0 A1 n0 c1 l1.length ji5 (HJ.out.trans (by rw [HL.out])) HC1.out
  clear hi0 hsz0
  go_enter Try.func54, Try.ntmps54
  go_wp2_with (first | (go_at_call 48; (with_reducible refine (laws_roomBehind.calls (n0 : Int) rm _ A3.out).mono ?_); rintro e w' ⟨rfl, ⟨nd, rfl⟩⟩; (try first | exact ⟨rfl, _, World.drewN_drewN _ _ _⟩ | exact ⟨rfl, _, Eq.trans (World.drewN_drewN _ _ _) (congrArg (World.drewN _) (Nat.add_assoc _ _ _))⟩)) | (go_at_call 52; (with_reducible refine (laws_eqInt64S.calls k _ _ l0 _ _ l1 r _ ?side1 ?side2 ?side3 ?side4 A10.out).mono ?_); (case side1 => repeat (first | exact HR0.out | (with_reducible refine Kd.C_alloc ?_ _) | (with_reducible refine Kd.C_drewN ?_ _) | (with_reducible refine Kd.C_drew ?_))); (case side2 => exact HC0.out); (case side3 => repeat (first | exact HR1.out | (with_reducible refine Kd.C_alloc ?_ _) | (with_reducible refine Kd.C_drewN ?_ _) | (with_reducible refine Kd.C_drew ?_))); (case side4 => exact HC1.out); rintro e w' ⟨rfl, ⟨nd, rfl⟩⟩; (try first | exact ⟨rfl, _, World.drewN_drewN _ _ _⟩ | exact ⟨rfl, _, Eq.trans (World.drewN_drewN _ _ _) (congrArg (World.drewN _) (Nat.add_assoc _ _ _))⟩)))
  repeat (go_quiet (first | (go_at_call 48; (with_reducible refine (laws_roomBehind.calls (n0 : Int) rm _ A3.out).mono ?_); rintro e w' ⟨rfl, ⟨nd, rfl⟩⟩; (try first | exact ⟨rfl, _, World.drewN_drewN _ _ _⟩ | exact ⟨rfl, _, Eq.trans (World.drewN_drewN _ _ _) (congrArg (World.drewN _) (Nat.add_assoc _ _ _))⟩)) | (go_at_call 52; (with_reducible refine (laws_eqInt64S.calls k _ _ l0 _ _ l1 r _ ?side1 ?side2 ?side3 ?side4 A10.out).mono ?_); (case side1 => repeat (first | exact HR0.out | (with_reducible refine Kd.C_alloc ?_ _) | (with_reducible refine Kd.C_drewN ?_ _) | (with_reducible refine Kd.C_drew ?_))); (case side2 => exact HC0.out); (case side3 => repeat (first | exact HR1.out | (with_reducible refine Kd.C_alloc ?_ _) | (with_reducible refine Kd.C_drewN ?_ _) | (with_reducible refine Kd.C_drew ?_))); (case side4 => exact HC1.out); rintro e w' ⟨rfl, ⟨nd, rfl⟩⟩; (try first | exact ⟨rfl, _, World.drewN_drewN _ _ _⟩ | exact ⟨rfl, _, Eq.trans (World.drewN_drewN _ _ _) (congrArg (World.drewN _) (Nat.add_assoc _ _ _))⟩))); try go_wp2_with (first | (go_at_call 48; (with_reducible refine (laws_roomBehind.calls (n0 : Int) rm _ A3.out).mono ?_); rintro e w' ⟨rfl, ⟨nd, rfl⟩⟩; (try first | exact ⟨rfl, _, World.drewN_drewN _ _ _⟩ | exact ⟨rfl, _, Eq.trans (World.drewN_drewN _ _ _) (congrArg (World.drewN _) (Nat.add_assoc _ _ _))⟩)) | (go_at_call 52; (with_reducible refine (laws_eqInt64S.calls k _ _ l0 _ _ l1 r _ ?side1 ?side2 ?side3 ?side4 A10.out).mono ?_); (case side1 => repeat (first | exact HR0.out | (with_reducible refine Kd.C_alloc ?_ _) | (with_reducible refine Kd.C_drewN ?_ _) | (with_reducible refine Kd.C_drew ?_))); (case side2 => exact HC0.out); (case side3 => repeat (first | exact HR1.out | (with_reducible refine Kd.C_alloc ?_ _) | (with_reducible refine Kd.C_drewN ?_ _) | (with_reducible refine Kd.C_drew ?_))); (case side4 => exact HC1.out); rintro e w' ⟨rfl, ⟨nd, rfl⟩⟩; (try first | exact ⟨rfl, _, World.drewN_drewN _ _ _⟩ | exact ⟨rfl, _, Eq.trans (World.drewN_drewN _ _ _) (congrArg (World.drewN _) (Nat.add_assoc _ _ _))⟩))))
  go_ret
  exact ⟨by first | rfl | (simp; done) | (simp [*]; done), by repeat (first | (with_reducible first | exact Below.refl _ _ | apply below_alloc | apply pw_below_drewN | apply below_drew1) | exact Below.refl _ _)⟩
/-! ### laws_intactMagazine, over the row with what lies behind its length: function 21 -/
set_option maxHeartbeats 8000000 in
set_option maxRecDepth 100000 in
theorem laws_intactMagazineX.calls (k : Nat) (a0_0 : Int) (A0_1 : Option Addr) (c0_1 : Nat) (l0_1 : List Int) (A1_1 : Option Addr) (c1_1 : Nat) (l1_1 : List Int) (n0 : Nat) (rm : Int) (w : World) (hr0_1 : Kd.C (Kd.int .i64) w A0_1 l0_1.length l0_1) (hc0_1 : l0_1.length ≤ c0_1) (hr1_1 : Kd.C (Kd.int .i64) w A1_1 l1_1.length l1_1) (hc1_1 : l1_1.length ≤ c1_1) (hrm : laws_roomBehind.f (n0 : Int) = some rm) (hj : wrap64 ((n0 : Int) + rm) = (l0_1.length : Int)) (hl : l1_1.length = l0_1.length) (h : laws_eqInt64S.f k l0_1 l1_1 = some true) :
    Calls Try.prog 21 #[.agg #[.int .i64 a0_0, .slice A0_1 n0 c0_1], .agg #[.int .i64 a0_0, .slice A1_1 n0 c1_1]] w fun e w' => e = .returned (.bool true) ∧ Below w.heap.size w w' := by
  have hu28 := Try.underlying28
  have HR0_1 := Aside0.mk hr0_1
  have HC0_1 := Aside0.mk hc0_1
  have HR1_1 := Aside0.mk hr1_1
  have HC1_1 := Aside0.mk hc1_1
  clear hr0_1 hc0_1 hr1_1 hc1_1
  have HRM := Aside0.mk hrm
  have HJ := Aside0.mk hj
  have HL := Aside0.mk hl
  have A4 := Aside0.mk h
  clear hrm hj hl h
  have HB := Aside0.mk (Below.refl w.heap.size w)
  have c3b1 : (a0_0 != a0_0) = false := bne_self_eq_false _
  have c3b0 : (a0_0 == a0_0) = true := beq_self_eq_true _
  go_enter Try.func21, Try.ntmps21
  go_wp2_with (first | ((with_reducible refine gate_dst (N := 2) rfl ?_); refine box_event ?hg (N := 2) ?hd (cs := #[.int .i64 a0_0, .slice A0_1 n0 c0_1]) (t := 28) ?hr ?_; (case hd => rfl); (case hg => rfl); (case hr => first | (go_simp; done) | (go_simp; rfl)); intro gb175 hg w6 hbox hb; have n0_ := Aside0.mk (below_step (by repeat (first | (with_reducible first | exact HB.out | apply below_alloc | apply pw_below_drewN | apply below_drew1) | exact HB.out)) hb); have n1_ := Aside0.mk (hbox); have n2_ := Aside0.mk ((by rw [hg]; exact (below_size (by repeat (first | (with_reducible first | exact HB.out | apply below_alloc | apply pw_below_drewN | apply below_drew1) | exact HB.out))) : w.heap.size ≤ gb175)); have n3_ := Aside0.mk ((by rw [hg]; exact (below_size (by repeat (first | (with_reducible first | exact HB.out | apply below_alloc | apply pw_below_drewN | apply below_drew1) | exact HB.out))) : w.heap.size ≤ gb175)); clear HB; have HB := n0_; have BK175 := n1_; have GW175 := n2_; have GE175 := n3_; clear n0_ n1_ n2_ n3_; clear hb hbox hg) | ((with_reducible refine gate_dst (N := 3) rfl ?_); refine box_event ?hg (N := 3) ?hd (cs := #[.int .i64 a0_0, .slice A1_1 n0 c1_1]) (t := 28) ?hr ?_; (case hd => rfl); (case hg => rfl); (case hr => first | (go_simp; done) | (go_simp; rfl)); intro gb176 hg w7 hbox hb; have n0_ := Aside0.mk (blk_below (g := gb175) (o := .cells #[.int .i64 a0_0, .slice A0_1 n0 c0_1] 28 (0, 0)) (by (with_reducible repeat (first | refine blk_drewN ?_ _ | refine blk_drew ?_ | refine blk_alloc ?_ _)); exact BK175.out) hb); have n1_ := Aside0.mk (below_step (by repeat (first | (with_reducible first | exact HB.out | apply below_alloc | apply pw_below_drewN | apply below_drew1 | refine below_set ?_ GE175.out) | exact HB.out)) hb); have n2_ := Aside0.mk (hbox); have n3_ := Aside0.mk ((by rw [hg]; exact (below_size (by repeat (first | (with_reducible first | exact HB.out | apply below_alloc | apply pw_below_drewN | apply below_drew1 | refine below_set ?_ GE175.out) | exact HB.out))) : w.heap.size ≤ gb176)); have n4_ := Aside0.mk ((by rw [hg]; exact (below_size (by repeat (first | (with_reducible first | exact HB.out | apply below_alloc | apply pw_below_drewN | apply below_drew1 | refine below_set ?_ GE175.out) | exact HB.out))) : w.heap.size ≤ gb176)); have n5_ := Aside0.mk ((by rw [hg]; exact Nat.ne_of_lt (blk_lt (g := gb175) (o := .cells #[.int .i64 a0_0, .slice A0_1 n0 c0_1] 28 (0, 0)) (by (with_reducible repeat (first | refine blk_drewN ?_ _ | refine blk_drew ?_ | refine blk_alloc ?_ _)); exact BK175.out)) : gb175 ≠ gb176)); have n6_ := Aside0.mk ((by rw [hg]; exact Nat.ne_of_gt (blk_lt (g := gb175) (o := .cells #[.int .i64 a0_0, .slice A0_1 n0 c0_1] 28 (0, 0)) (by (with_reducible repeat (first | refine blk_drewN ?_ _ | refine blk_drew ?_ | refine blk_alloc ?_ _)); exact BK175.out)) : gb176 ≠ gb175)); clear BK175; clear HB; have BK175 := n0_; have HB := n1_; have BK176 := n2_; have GW176 := n3_; have GE176 := n4_; have NB175_176 := n5_; have NB176_175 := n6_; clear n0_ n1_ n2_ n3_ n4_ n5_ n6_; clear hb hbox hg; have hnb8 := NB175_176.out; have hnc8 := NB176_175.out; have hcz9_0 : w7.cell? ⟨gb175, 0, none⟩ = some (.int .i64 a0_0) := (blk_cell BK175.out 0).trans rfl; have hcz9_1 : w7.cell? ⟨gb175, 1, none⟩ = some (.slice A0_1 n0 c0_1) := (blk_cell BK175.out 1).trans rfl; have hfz9_0 := blk_frozen BK175.out 0; have hfz9_1 := blk_frozen BK175.out 1; have hcz10_0 : w7.cell? ⟨gb176, 0, none⟩ = some (.int .i64 a0_0) := (blk_cell BK176.out 0).trans rfl; have hcz10_1 : w7.cell? ⟨gb176, 1, none⟩ = some (.slice A1_1 n0 c1_1) := (blk_cell BK176.out 1).trans rfl; have hfz10_0 := blk_frozen BK176.out 0; have hfz10_1 := blk_frozen BK176.out 1) | ((with_reducible refine gate_callee (f := 54) rfl ?_); refine goesL_ (some 14) rfl rfl Try.func54 (by kernel_rfl) rfl #[.slice A0_1 n0 c0_1, .slice A1_1 n0 c1_1] rfl (by (try simp only [List.map_toArray, List.map_cons, List.map_nil]); first | done | rfl | (simp only [List.length_drop, List.length_take]; rfl)) ?_; (with_reducible refine (laws_intactInt64SX.calls k _ _ l0_1 _ _ l1_1 n0 rm true _ ?side1 ?side2 ?side3 ?side4 HRM.out HJ.out HL.out A4.out).mono ?_); (case side1 => repeat (first | exact (Kd.C_below HR0_1.out HB.out) | (with_reducible refine Kd.C_alloc ?_ _) | (with_reducible refine Kd.C_drewN ?_ _) | (with_reducible refine Kd.C_drew ?_))); (case side2 => exact HC0_1.out); (case side3 => repeat (first | exact (Kd.C_below HR1_1.out HB.out) | (with_reducible refine Kd.C_alloc ?_ _) | (with_reducible refine Kd.C_drewN ?_ _) | (with_reducible refine Kd.C_drew ?_))); (case side4 => exact HC1_1.out); rintro e w9_ ⟨rfl, hb⟩; refine ⟨_, rfl, ?_⟩; have n0_ := Aside0.mk (below_step (by repeat (first | (with_reducible first | exact HB.out | apply below_alloc | apply pw_below_drewN | apply below_drew1 | refine below_set ?_ GE175.out) | exact HB.out)) hb); clear HB hb; have HB := n0_; clear n0_))
  go_ret
  exact ⟨by first | rfl | (simp [errW_none, errW_some] <;> rfl) | (simp [*, errW_none, errW_some] <;> rfl), by repeat (first | (with_reducible first | exact HB.out | apply below_alloc | apply pw_below_drewN | apply below_drew1 | refine below_set ?_ GE175.out | refine below_set ?_ GE176.out) | exact HB.out)⟩

/-! ### the law: function 8 -/
def laws_FnExactRoomFor.T8 : Bool × List (List Nat × List Nat) := (true, [([], []), ([0], [0]), ([], []), ([2, 1], [2]), ([], []), ([1, 3, 4, 3], [1, 3, 4]), ([5], [5]), ([6], [6]), ([6], [6]), ([7, 5, 0, 1, 2, 3, 4, 5, 6, 7], [7]), ([8, 9, 0, 1, 2, 3, 4, 5, 6, 7, 8, 9], [8])])
def laws_FnExactRoomFor.B8 : List Nat := [0, 1, 0, 7, 0, 31, 63, 127, 127, 255, 1023]
theorem laws_FnExactRoomFor.tab8 : rtab .any (opsOf Try.f8 8) = laws_FnExactRoomFor.T8 := by kernel_rfl
theorem laws_FnExactRoomFor.bits8 : waitsOk laws_FnExactRoomFor.T8.2 laws_FnExactRoomFor.B8 = true := by kernel_rfl
def laws_FnExactRoomFor.T18 : Bool × List (List Nat × List Nat) := (true, [([], []), ([0], [0]), ([], []), ([2, 1], [2]), ([], []), ([1, 3, 4, 3], [1, 3, 4]), ([5], [5]), ([6], [6]), ([6], [6]), ([7, 5, 0, 1, 2, 3, 4, 5, 6, 7], [7]), ([8, 9, 0, 1, 2, 3, 4, 5, 6, 7, 8, 9], [8])])
def laws_FnExactRoomFor.B18 : List Nat := [0, 1, 0, 7, 0, 31, 63, 127, 127, 255, 1023]
theorem laws_FnExactRoomFor.tab18 : rtab .any (opsOf Try.f8 18) = laws_FnExactRoomFor.T18 := by kernel_rfl
theorem laws_FnExactRoomFor.bits18 : waitsOk laws_FnExactRoomFor.T18.2 laws_FnExactRoomFor.B18 = true := by kernel_rfl
set_option maxHeartbeats 8000000 in
set_option maxRecDepth 100000 in
theorem laws_FnExactRoomFor.skip1_ (A0 : Option Addr) (c0 : Nat) (l0 : List (S62)) (a1_0 : Int) (A1_1 : Option Addr) (c1_1 : Nat) (l1_1 : List Int) (a2 : ByteArray) (w : World) (hr0 : Kd.C k62 w A0 l0.length l0) (hc0 : l0.length ≤ c0) (hr1_1 : Kd.C (Kd.int .i64) w A1_1 l1_1.length l1_1) (hc1_1 : l1_1.length ≤ c1_1) (k : Nat) (t_1 : Int) (hz1_ : laws_szArticleS.f k l0 (wrap64 (1000000 - ((a2.size : Int)))) = some t_1) (hn_ : decide (t_1 < 0) = true) :
    Calls Try.prog 8 #[.slice A0 l0.length c0, .agg #[.int .i64 a1_0, .slice A1_1 l1_1.length c1_1], .string a2] w fun e w' => e = .returned (.bool true) ∧ Below w.heap.size w w' := by
  have HR0 := Aside0.mk hr0
  have HC0 := Aside0.mk hc0
  have HR1_1 := Aside0.mk hr1_1
  have HC1_1 := Aside0.mk hc1_1
  clear hr0 hc0 hr1_1 hc1_1
  have HZ1 := Aside0.mk hz1_
  have HN := Aside0.mk hn_
  clear hz1_ hn_
  have HB := Aside0.mk (Below.refl w.heap.size w)
  go_enter Try.func8, Try.ntmps8
  go_wp2_with (first | ((with_reducible refine gate_dst (N := 4) rfl ?_); refine box_event ?hg (N := 4) ?hd (cs := #[.int .i64 a1_0, .slice A1_1 l1_1.length c1_1]) (t := 25) ?hr ?_; (case hd => rfl); (case hg => rfl); (case hr => first | (go_simp; done) | (go_simp; rfl)); intro gb1 hg_ w_3 hbox hb; have BK2 := Aside0.mk hbox; have HGgb1 : Aside0 (gb1 < w_3.heap.size) := ⟨blk_lt hbox⟩; have hbA_ := Aside0.mk hb; clear hbox hg_ hb; have hcz_0 : w_3.cell? ⟨gb1, 0, none⟩ = some (.int .i64 a1_0) := (blk_cell BK2.out 0).trans rfl; have hfz_0 := blk_frozen BK2.out 0; have hcz_1 : w_3.cell? ⟨gb1, 1, none⟩ = some (.slice A1_1 l1_1.length c1_1) := (blk_cell BK2.out 1).trans rfl; have hfz_1 := blk_frozen BK2.out 1))
  clear hcz_0 hfz_0 hcz_1 hfz_1
  have hb := hbA_.out
  clear hbA_
  have HBi := Aside0.mk (below_step (by repeat (first | (with_reducible first | exact Below.refl _ _ | apply below_alloc | apply pw_below_drewN | apply below_drew1) | exact Below.refl _ _)) hb : Below w.heap.size w w_3)
  clear hb
  have HBn := Aside0.mk (below_step HB.out HBi.out)
  clear HB
  have HB := HBn
  clear HBn
  have HS4 := Aside0.mk HBi.out.size
  clear HBi
  have HWw_3 := Aside0.mk HB.out.size
  have hczgb1_0 : w_3.cell? ⟨gb1, 0, none⟩ = some (.int .i64 a1_0) := (blk_cell BK2.out 0).trans rfl
  have hfzgb1_0 := blk_frozen BK2.out 0
  have hczgb1_1 : w_3.cell? ⟨gb1, 1, none⟩ = some (.slice A1_1 l1_1.length c1_1) := (blk_cell BK2.out 1).trans rfl
  have hfzgb1_1 := blk_frozen BK2.out 1
  go_wp2_with (fail)
  clear hczgb1_0 hfzgb1_0 hczgb1_1 hfzgb1_1
  go_at_call 13
  (with_reducible refine (laws_szArticleS.calls k _ _ l0 (wrap64 (1000000 - ((a2.size : Int)))) t_1 _ ?side1 ?side2 HZ1.out).mono ?_)
  (case side1 => repeat (first | exact HR0.out | exact (Kd.C_below HR0.out HB.out) | (with_reducible refine Kd.C_alloc ?_ _) | (with_reducible refine Kd.C_drewN ?_ _) | (with_reducible refine Kd.C_drew ?_)))
  (case side2 => exact HC0.out)
  rintro e w_5 ⟨rfl, hb⟩
  have HBi := Aside0.mk (below_step (by repeat (first | (with_reducible first | exact Below.refl _ _ | apply below_alloc | apply pw_below_drewN | apply below_drew1) | exact Below.refl _ _)) hb : Below w_3.heap.size w_3 w_5)
  clear hb
  have HBn := Aside0.mk (below_step HB.out HBi.out)
  clear HB
  have HB := HBn
  clear HBn
  have HS6 := Aside0.mk HBi.out.size
  have n0_ := Aside0.mk (blk_below BK2.out HBi.out)
  clear BK2
  have BK2 := n0_
  clear n0_
  clear HBi
  have HWw_5 := Aside0.mk HB.out.size
  have hn_ := HN.out
  go_wp2
  go_ret
  exact ⟨by first | rfl | (simp; done) | (simp [*]; done), by repeat (first | (with_reducible first | exact HB.out | apply below_alloc | apply pw_below_drewN | apply below_drew1) | exact HB.out)⟩

set_option maxHeartbeats 8000000 in
set_option maxRecDepth 100000 in
theorem laws_FnExactRoomFor.skip2_ (A0 : Option Addr) (c0 : Nat) (l0 : List (S62)) (a1_0 : Int) (A1_1 : Option Addr) (c1_1 : Nat) (l1_1 : List Int) (a2 : ByteArray) (w : World) (hr0 : Kd.C k62 w A0 l0.length l0) (hc0 : l0.length ≤ c0) (hr1_1 : Kd.C (Kd.int .i64) w A1_1 l1_1.length l1_1) (hc1_1 : l1_1.length ≤ c1_1) (k : Nat) (t_1 : Int) (t_2 : Int) (hz1_ : laws_szArticleS.f k l0 (wrap64 (1000000 - ((a2.size : Int)))) = some t_1) (hn1_ : decide (t_1 < 0) = false) (hz2_ : laws_szMagazine.f a1_0 l1_1 t_1 = some t_2) (hn_ : decide (t_2 < 0) = true) :
    Calls Try.prog 8 #[.slice A0 l0.length c0, .agg #[.int .i64 a1_0, .slice A1_1 l1_1.length c1_1], .string a2] w fun e w' => e = .returned (.bool true) ∧ Below w.heap.size w w' := by
  have HR0 := Aside0.mk hr0
  have HC0 := Aside0.mk hc0
  have HR1_1 := Aside0.mk hr1_1
  have HC1_1 := Aside0.mk hc1_1
  clear hr0 hc0 hr1_1 hc1_1
  have HZ1 := Aside0.mk hz1_
  have HN1 := Aside0.mk hn1_
  have HZ2 := Aside0.mk hz2_
  have HN := Aside0.mk hn_
  clear hz1_ hn1_ hz2_ hn_
  have HB := Aside0.mk (Below.refl w.heap.size w)
  go_enter Try.func8, Try.ntmps8
  go_wp2_with (first | ((with_reducible refine gate_dst (N := 4) rfl ?_); refine box_event ?hg (N := 4) ?hd (cs := #[.int .i64 a1_0, .slice A1_1 l1_1.length c1_1]) (t := 25) ?hr ?_; (case hd => rfl); (case hg => rfl); (case hr => first | (go_simp; done) | (go_simp; rfl)); intro gb1 hg_ w_3 hbox hb; have BK2 := Aside0.mk hbox; have HGgb1 : Aside0 (gb1 < w_3.heap.size) := ⟨blk_lt hbox⟩; have hbA_ := Aside0.mk hb; clear hbox hg_ hb; have hcz_0 : w_3.cell? ⟨gb1, 0, none⟩ = some (.int .i64 a1_0) := (blk_cell BK2.out 0).trans rfl; have hfz_0 := blk_frozen BK2.out 0; have hcz_1 : w_3.cell? ⟨gb1, 1, none⟩ = some (.slice A1_1 l1_1.length c1_1) := (blk_cell BK2.out 1).trans rfl; have hfz_1 := blk_frozen BK2.out 1))
  clear hcz_0 hfz_0 hcz_1 hfz_1
  have hb := hbA_.out
  clear hbA_
  have HBi := Aside0.mk (below_step (by repeat (first | (with_reducible first | exact Below.refl _ _ | apply below_alloc | apply pw_below_drewN | apply below_drew1) | exact Below.refl _ _)) hb : Below w.heap.size w w_3)
  clear hb
  have HBn := Aside0.mk (below_step HB.out HBi.out)
  clear HB
  have HB := HBn
  clear HBn
  have HS4 := Aside0.mk HBi.out.size
  clear HBi
  have HWw_3 := Aside0.mk HB.out.size
  have hczgb1_0 : w_3.cell? ⟨gb1, 0, none⟩ = some (.int .i64 a1_0) := (blk_cell BK2.out 0).trans rfl
  have hfzgb1_0 := blk_frozen BK2.out 0
  have hczgb1_1 : w_3.cell? ⟨gb1, 1, none⟩ = some (.slice A1_1 l1_1.length c1_1) := (blk_cell BK2.out 1).trans rfl
  have hfzgb1_1 := blk_frozen BK2.out 1
  go_wp2_with (fail)
  clear hczgb1_0 hfzgb1_0 hczgb1_1 hfzgb1_1
  go_at_call 13
  (with_reducible refine (laws_szArticleS.calls k _ _ l0 (wrap64 (1000000 - ((a2.size : Int)))) t_1 _ ?side1 ?side2 HZ1.out).mono ?_)
  (case side1 => repeat (first | exact HR0.out | exact (Kd.C_below HR0.out HB.out) | (with_reducible refine Kd.C_alloc ?_ _) | (with_reducible refine Kd.C_drewN ?_ _) | (with_reducible refine Kd.C_drew ?_)))
  (case side2 => exact HC0.out)
  rintro e w_5 ⟨rfl, hb⟩
  have HBi := Aside0.mk (below_step (by repeat (first | (with_reducible first | exact Below.refl _ _ | apply below_alloc | apply pw_below_drewN | apply below_drew1) | exact Below.refl _ _)) hb : Below w_3.heap.size w_3 w_5)
  clear hb
  have HBn := Aside0.mk (below_step HB.out HBi.out)
  clear HB
  have HB := HBn
  clear HBn
  have HS6 := Aside0.mk HBi.out.size
  have n0_ := Aside0.mk (blk_below BK2.out HBi.out)
  clear BK2
  have BK2 := n0_
  clear n0_
  clear HBi
  have HWw_5 := Aside0.mk HB.out.size
  have hn_ := HN1.out
  have hczgb1_0 : w_5.cell? ⟨gb1, 0, none⟩ = some (.int .i64 a1_0) := (blk_cell BK2.out 0).trans rfl
  have hfzgb1_0 := blk_frozen BK2.out 0
  have hczgb1_1 : w_5.cell? ⟨gb1, 1, none⟩ = some (.slice A1_1 l1_1.length c1_1) := (blk_cell BK2.out 1).trans rfl
  have hfzgb1_1 := blk_frozen BK2.out 1
  go_wp2_with (fail)
  clear hczgb1_0 hfzgb1_0 hczgb1_1 hfzgb1_1
  clear hn_
  have hczgb1_0 : w_5.cell? ⟨gb1, 0, none⟩ = some (.int .i64 a1_0) := (blk_cell BK2.out 0).trans rfl
  have hfzgb1_0 := blk_frozen BK2.out 0
  have hczgb1_1 : w_5.cell? ⟨gb1, 1, none⟩ = some (.slice A1_1 l1_1.length c1_1) := (blk_cell BK2.out 1).trans rfl
  have hfzgb1_1 := blk_frozen BK2.out 1
  go_wp2_with (fail)
  clear hczgb1_0 hfzgb1_0 hczgb1_1 hfzgb1_1
  go_at_call 14
  (with_reducible refine (laws_szMagazine.calls a1_0 _ _ l1_1 t_1 t_2 _ ?side1 ?side2 HZ2.out).mono ?_)
  (case side1 => repeat (first | exact HR1_1.out | exact (Kd.C_below HR1_1.out HB.out) | (with_reducible refine Kd.C_alloc ?_ _) | (with_reducible refine Kd.C_drewN ?_ _) | (with_reducible refine Kd.C_drew ?_)))
  (case side2 => exact HC1_1.out)
  rintro e w_7 ⟨rfl, hb⟩
  have HBi := Aside0.mk (below_step (by repeat (first | (with_reducible first | exact Below.refl _ _ | apply below_alloc | apply pw_below_drewN | apply below_drew1) | exact Below.refl _ _)) hb : Below w_5.heap.size w_5 w_7)
  clear hb
  have HBn := Aside0.mk (below_step HB.out HBi.out)
  clear HB
  have HB := HBn
  clear HBn
  have HS8 := Aside0.mk HBi.out.size
  have n0_ := Aside0.mk (blk_below BK2.out HBi.out)
  clear BK2
  have BK2 := n0_
  clear n0_
  clear HBi
  have HWw_7 := Aside0.mk HB.out.size
  have hn_ := HN.out
  go_wp2
  go_ret
  exact ⟨by first | rfl | (simp; done) | (simp [*]; done), by repeat (first | (with_reducible first | exact HB.out | apply below_alloc | apply pw_below_drewN | apply below_drew1) | exact HB.out)⟩
set_option maxHeartbeats 8000000 in
set_option maxRecDepth 100000 in
theorem laws_FnExactRoomFor.true_ (k : Nat) (A0 : Option Addr) (c0 : Nat) (l0 : List (S62)) (a1_0 : Int) (A1_1 : Option Addr) (c1_1 : Nat) (l1_1 : List Int) (a2 : ByteArray) (w : World) (hr0 : Kd.C k62 w A0 l0.length l0) (hc0 : l0.length ≤ c0) (hr1_1 : Kd.C (Kd.int .i64) w A1_1 l1_1.length l1_1) (hc1_1 : l1_1.length ≤ c1_1) (xs0 ext0 extb0 : List (S65)) (rm0 : Int) (xs1_1 ext1_1 extb1_1 : List Int) (rm1_1 : Int) (t_1 : Int) (t_2 : Int) (res_r1 : Int) (res_r2 : Int) (hto0_ : laws_toArticleSX.f k l0 false = some ext0) (htob0_ : laws_toArticleSX.f k l0 true = some extb0) (hxl0_ : xs0.length = l0.length) (hnb0_ : extb0 = [] → l0.length = 0) (hne0_ : ¬ (ext0 = [])) (hxe0_ : xs0 = ext0.take xs0.length) (hxb0_ : xs0 = extb0.take xs0.length) (hle0_ : xs0.length ≤ ext0.length) (hlb0_ : xs0.length ≤ extb0.length) (hrm0_ : laws_roomBehind.f (xs0.length : Int) = some rm0) (hj0_ : wrap64 ((xs0.length : Int) + rm0) = (ext0.length : Int)) (heqx0_ : laws_eqArticleS.f k ext0 ext0 = some true) (hto1_1_ : laws_toInt64SX.f k l1_1 false = some ext1_1) (htob1_1_ : laws_toInt64SX.f k l1_1 true = some extb1_1) (hxl1_1_ : xs1_1.length = l1_1.length) (hnb1_1_ : extb1_1 = [] → l1_1.length = 0) (hne1_1_ : ¬ (ext1_1 = [])) (hxe1_1_ : xs1_1 = ext1_1.take xs1_1.length) (hxb1_1_ : xs1_1 = extb1_1.take xs1_1.length) (hle1_1_ : xs1_1.length ≤ ext1_1.length) (hlb1_1_ : xs1_1.length ≤ extb1_1.length) (hrm1_1_ : laws_roomBehind.f (xs1_1.length : Int) = some rm1_1) (hj1_1_ : wrap64 ((xs1_1.length : Int) + rm1_1) = (ext1_1.length : Int)) (heqx1_1_ : laws_eqInt64S.f k ext1_1 ext1_1 = some true) (hz1_ : laws_szArticleS.f k l0 (wrap64 (1000000 - ((a2.size : Int)))) = some t_1) (hn1_ : decide (t_1 < 0) = false) (hz2_ : laws_szMagazine.f a1_0 l1_1 t_1 = some t_2) (hn2_ : decide (t_2 < 0) = false) (hfspec_ : spec_RoomFor.f k xs0 a1_0 xs1_1 a2 = some (res_r1, res_r2)) (hfimpl_ : impl_RoomFor.f k xs0 a1_0 xs1_1 a2 = some (res_r1, res_r2)) :
    Calls Try.prog 8 #[.slice A0 l0.length c0, .agg #[.int .i64 a1_0, .slice A1_1 l1_1.length c1_1], .string a2] w fun e w' => e = .returned (.bool true) ∧ Below w.heap.size w w' := by
  have HR0 := Aside0.mk hr0
  have HC0 := Aside0.mk hc0
  have HR1_1 := Aside0.mk hr1_1
  have HC1_1 := Aside0.mk hc1_1
  clear hr0 hc0 hr1_1 hc1_1
  have HTO0 := Aside0.mk hto0_
  have HTOB0 := Aside0.mk htob0_
  have HXL0 := Aside0.mk hxl0_
  have HNB0 := Aside0.mk hnb0_
  have HNE0 := Aside0.mk hne0_
  have HXE0 := Aside0.mk hxe0_
  have HXB0 := Aside0.mk hxb0_
  have HLE0 := Aside0.mk hle0_
  have HLB0 := Aside0.mk hlb0_
  have HRM0 := Aside0.mk hrm0_
  have HJ0 := Aside0.mk hj0_
  have HEQX0 := Aside0.mk heqx0_
  have HTO1_1 := Aside0.mk hto1_1_
  have HTOB1_1 := Aside0.mk htob1_1_
  have HXL1_1 := Aside0.mk hxl1_1_
  have HNB1_1 := Aside0.mk hnb1_1_
  have HNE1_1 := Aside0.mk hne1_1_
  have HXE1_1 := Aside0.mk hxe1_1_
  have HXB1_1 := Aside0.mk hxb1_1_
  have HLE1_1 := Aside0.mk hle1_1_
  have HLB1_1 := Aside0.mk hlb1_1_
  have HRM1_1 := Aside0.mk hrm1_1_
  have HJ1_1 := Aside0.mk hj1_1_
  have HEQX1_1 := Aside0.mk heqx1_1_
  have HZ1 := Aside0.mk hz1_
  have HN1 := Aside0.mk hn1_
  have HZ2 := Aside0.mk hz2_
  have HN2 := Aside0.mk hn2_
  have HFspec := Aside0.mk hfspec_
  have HFimpl := Aside0.mk hfimpl_
  clear hto0_ htob0_ hxl0_ hnb0_ hne0_ hxe0_ hxb0_ hle0_ hlb0_ hrm0_ hj0_ heqx0_ hto1_1_ htob1_1_ hxl1_1_ hnb1_1_ hne1_1_ hxe1_1_ hxb1_1_ hle1_1_ hlb1_1_ hrm1_1_ hj1_1_ heqx1_1_ hz1_ hn1_ hz2_ hn2_ hfspec_ hfimpl_
  have HB := Aside0.mk (Below.refl w.heap.size w)
  go_enter Try.func8, Try.ntmps8
  go_wp2_with (first | ((with_reducible refine gate_dst (N := 4) rfl ?_); refine box_event ?hg (N := 4) ?hd (cs := #[.int .i64 a1_0, .slice A1_1 l1_1.length c1_1]) (t := 25) ?hr ?_; (case hd => rfl); (case hg => rfl); (case hr => first | (go_simp; done) | (go_simp; rfl)); intro gb1 hg_ w_3 hbox hb; have BK2 := Aside0.mk hbox; have HGgb1 : Aside0 (gb1 < w_3.heap.size) := ⟨blk_lt hbox⟩; have hbA_ := Aside0.mk hb; clear hbox hg_ hb; have hcz_0 : w_3.cell? ⟨gb1, 0, none⟩ = some (.int .i64 a1_0) := (blk_cell BK2.out 0).trans rfl; have hfz_0 := blk_frozen BK2.out 0; have hcz_1 : w_3.cell? ⟨gb1, 1, none⟩ = some (.slice A1_1 l1_1.length c1_1) := (blk_cell BK2.out 1).trans rfl; have hfz_1 := blk_frozen BK2.out 1))
  clear hcz_0 hfz_0 hcz_1 hfz_1
  have hb := hbA_.out
  clear hbA_
  have HBi := Aside0.mk (below_step (by repeat (first | (with_reducible first | exact Below.refl _ _ | apply below_alloc | apply pw_below_drewN | apply below_drew1) | exact Below.refl _ _)) hb : Below w.heap.size w w_3)
  clear hb
  have HBn := Aside0.mk (below_step HB.out HBi.out)
  clear HB
  have HB := HBn
  clear HBn
  have HS4 := Aside0.mk HBi.out.size
  clear HBi
  have HWw_3 := Aside0.mk HB.out.size
  have hczgb1_0 : w_3.cell? ⟨gb1, 0, none⟩ = some (.int .i64 a1_0) := (blk_cell BK2.out 0).trans rfl
  have hfzgb1_0 := blk_frozen BK2.out 0
  have hczgb1_1 : w_3.cell? ⟨gb1, 1, none⟩ = some (.slice A1_1 l1_1.length c1_1) := (blk_cell BK2.out 1).trans rfl
  have hfzgb1_1 := blk_frozen BK2.out 1
  go_wp2_with (fail)
  clear hczgb1_0 hfzgb1_0 hczgb1_1 hfzgb1_1
  go_at_call 13
  (with_reducible refine (laws_szArticleS.calls k _ _ l0 (wrap64 (1000000 - ((a2.size : Int)))) t_1 _ ?side1 ?side2 HZ1.out).mono ?_)
  (case side1 => repeat (first | exact HR0.out | exact (Kd.C_below HR0.out HB.out) | (with_reducible refine Kd.C_alloc ?_ _) | (with_reducible refine Kd.C_drewN ?_ _) | (with_reducible refine Kd.C_drew ?_)))
  (case side2 => exact HC0.out)
  rintro e w_5 ⟨rfl, hb⟩
  have HBi := Aside0.mk (below_step (by repeat (first | (with_reducible first | exact Below.refl _ _ | apply below_alloc | apply pw_below_drewN | apply below_drew1) | exact Below.refl _ _)) hb : Below w_3.heap.size w_3 w_5)
  clear hb
  have HBn := Aside0.mk (below_step HB.out HBi.out)
  clear HB
  have HB := HBn
  clear HBn
  have HS6 := Aside0.mk HBi.out.size
  have n0_ := Aside0.mk (blk_below BK2.out HBi.out)
  clear BK2
  have BK2 := n0_
  clear n0_
  clear HBi
  have HWw_5 := Aside0.mk HB.out.size
  have hn_ := HN1.out
  have hczgb1_0 : w_5.cell? ⟨gb1, 0, none⟩ = some (.int .i64 a1_0) := (blk_cell BK2.out 0).trans rfl
  have hfzgb1_0 := blk_frozen BK2.out 0
  have hczgb1_1 : w_5.cell? ⟨gb1, 1, none⟩ = some (.slice A1_1 l1_1.length c1_1) := (blk_cell BK2.out 1).trans rfl
  have hfzgb1_1 := blk_frozen BK2.out 1
  go_wp2_with (fail)
  clear hczgb1_0 hfzgb1_0 hczgb1_1 hfzgb1_1
  clear hn_
  have hczgb1_0 : w_5.cell? ⟨gb1, 0, none⟩ = some (.int .i64 a1_0) := (blk_cell BK2.out 0).trans rfl
  have hfzgb1_0 := blk_frozen BK2.out 0
  have hczgb1_1 : w_5.cell? ⟨gb1, 1, none⟩ = some (.slice A1_1 l1_1.length c1_1) := (blk_cell BK2.out 1).trans rfl
  have hfzgb1_1 := blk_frozen BK2.out 1
  go_wp2_with (fail)
  clear hczgb1_0 hfzgb1_0 hczgb1_1 hfzgb1_1
  go_at_call 14
  (with_reducible refine (laws_szMagazine.calls a1_0 _ _ l1_1 t_1 t_2 _ ?side1 ?side2 HZ2.out).mono ?_)
  (case side1 => repeat (first | exact HR1_1.out | exact (Kd.C_below HR1_1.out HB.out) | (with_reducible refine Kd.C_alloc ?_ _) | (with_reducible refine Kd.C_drewN ?_ _) | (with_reducible refine Kd.C_drew ?_)))
  (case side2 => exact HC1_1.out)
  rintro e w_7 ⟨rfl, hb⟩
  have HBi := Aside0.mk (below_step (by repeat (first | (with_reducible first | exact Below.refl _ _ | apply below_alloc | apply pw_below_drewN | apply below_drew1) | exact Below.refl _ _)) hb : Below w_5.heap.size w_5 w_7)
  clear hb
  have HBn := Aside0.mk (below_step HB.out HBi.out)
  clear HB
  have HB := HBn
  clear HBn
  have HS8 := Aside0.mk HBi.out.size
  have n0_ := Aside0.mk (blk_below BK2.out HBi.out)
  clear BK2
  have BK2 := n0_
  clear n0_
  clear HBi
  have HWw_7 := Aside0.mk HB.out.size
  have hn_ := HN2.out
  have hczgb1_0 : w_7.cell? ⟨gb1, 0, none⟩ = some (.int .i64 a1_0) := (blk_cell BK2.out 0).trans rfl
  have hfzgb1_0 := blk_frozen BK2.out 0
  have hczgb1_1 : w_7.cell? ⟨gb1, 1, none⟩ = some (.slice A1_1 l1_1.length c1_1) := (blk_cell BK2.out 1).trans rfl
  have hfzgb1_1 := blk_frozen BK2.out 1
  go_wp2_with (fail)
  clear hczgb1_0 hfzgb1_0 hczgb1_1 hfzgb1_1
  clear hn_
  have hczgb1_0 : w_7.cell? ⟨gb1, 0, none⟩ = some (.int .i64 a1_0) := (blk_cell BK2.out 0).trans rfl
  have hfzgb1_0 := blk_frozen BK2.out 0
  have hczgb1_1 : w_7.cell? ⟨gb1, 1, none⟩ = some (.slice A1_1 l1_1.length c1_1) := (blk_cell BK2.out 1).trans rfl
  have hfzgb1_1 := blk_frozen BK2.out 1
  go_wp2_with (fail)
  clear hczgb1_0 hfzgb1_0 hczgb1_1 hfzgb1_1
  refine start_ (n := 11) (S := fun w' => w'.cell? ⟨gb1, 0, none⟩ = some (.int .i64 a1_0) ∧ w'.cell? ⟨gb1, 1, none⟩ = some (.slice A1_1 l1_1.length c1_1)) (ds := []) #[false, false, false, false, false, false, false, false, false, false, false] (by kernel_rfl) rfl rfl ⟨(blk_cell BK2.out 0).trans rfl, (blk_cell BK2.out 1).trans rfl⟩ (fun hHeld => ?_)
  refine with_tabW laws_FnExactRoomFor.tab8 laws_FnExactRoomFor.bits8 (fun HT_ HW_ => ?_)
  generalize hq_ : World.drew _ = w_9 at hHeld ⊢
  have n0_ : Aside0 (Below w.heap.size w w_9) := ⟨by rw [← hq_]; (repeat (first | (with_reducible first | exact HB.out | apply below_alloc | apply pw_below_drewN | apply below_drew1) | exact HB.out))⟩
  clear HB
  have HB := n0_
  clear n0_
  have HS10 : Aside0 (w_7.heap.size ≤ w_9.heap.size) := ⟨by rw [← hq_]; exact Nat.le_refl _⟩
  have n0_ : Aside0 (w_9.heap[gb1]? = some (.cells #[.int .i64 a1_0, .slice A1_1 l1_1.length c1_1] 25 (0, 0))) := ⟨by rw [← hq_]; (with_reducible repeat (first | refine blk_drewN ?_ _ | refine blk_drew ?_ | refine blk_alloc ?_ _)); exact BK2.out⟩
  clear BK2
  have BK2 := n0_
  clear n0_
  clear hq_
  have HWw_9 := Aside0.mk HB.out.size
  refine pure_ (i := 0) (N := some 30) (v := ?_) (a' := ?_) #[true, false, false, false, false, false, false, false, false, false, false] rfl rfl (any_of HT_.out (by kernel_rfl)) (fun _ _ _ h => h) (Or.inl ⟨by rfl, ?_⟩) ?_ ?_
  rotate_left
  · intro w'
    go_simp
    with_reducible rfl
  rotate_left
  · simp only [Act.put, List.setIfInBounds_toArray, List.set_cons_zero, List.set_cons_succ, i64_w, i32_w]
    rfl
  refine pure_ (i := 4) (N := some 34) (v := ?_) (a' := ?_) #[true, false, false, false, true, false, false, false, false, false, false] rfl rfl (any_of HT_.out (by kernel_rfl)) (fun _ _ _ h => h) (Or.inl ⟨by rfl, ?_⟩) ?_ ?_
  rotate_left
  · intro w'
    go_simp
    with_reducible rfl
  rotate_left
  · simp only [Act.put, List.setIfInBounds_toArray, List.set_cons_zero, List.set_cons_succ, i64_w, i32_w]
    rfl
  refine take_ (i := 2) (N := some 32) (v := ?_) (a' := ?_) #[true, false, true, false, true, false, false, false, false, false, false] rfl rfl (take_ofW HT_.out HW_.out (by kernel_rfl)) (fun _ _ _ h => h) (Or.inl ⟨by rfl, ?_⟩) hHeld ?_ ?_
  rotate_left
  · rintro w' ⟨s0, s1⟩
    go_simp
    with_reducible rfl
  rotate_left
  · simp only [Act.put, List.setIfInBounds_toArray, List.set_cons_zero, List.set_cons_succ, i64_w, i32_w]
    rfl
  refine one_ (i := 1) (N := some 31) #[true, true, true, false, true, false, false, false, false, false, false] rfl rfl (one_of HT_.out (by kernel_rfl)) (by decide) (fun K hK => ?_)
  refine goes_ Try.func16 (by kernel_rfl) rfl #[.slice A0 l0.length c0, .bool false] (by rfl) rfl rfl (by (try simp only [List.map_toArray, List.map_cons, List.map_nil]); first | done | rfl | (simp only [List.length_drop, List.length_take]; rfl)) ?_
  (with_reducible refine (laws_toArticleSX.calls k _ _ l0 false ext0 _ ?side1 ?side2 HTO0.out).mono ?_)
  (case side1 => repeat (first | exact HR0.out | exact (Kd.C_below HR0.out HB.out) | (with_reducible refine Kd.C_alloc ?_ _) | (with_reducible refine Kd.C_drewN ?_ _) | (with_reducible refine Kd.C_drew ?_)))
  (case side2 => exact HC0.out)
  rintro e w_11 ⟨Ao13, no14, co15, rfl, hn, ho, hb⟩
  obtain rfl : no14 = xs0.length := hn.full HXL0.out HNE0.out
  clear hn
  have ho1 := Aside0.mk (Kd.R_lower (R_span ho) (Nat.le_trans HB.out.size (by repeat (first | (with_reducible first | exact Below.refl _ _ | apply below_alloc | apply pw_below_drewN | apply below_drew1) | exact Below.refl _ _) : Below w_9.heap.size w_9 _).size))
  clear ho
  have HBi := Aside0.mk (below_step (by repeat (first | (with_reducible first | exact Below.refl _ _ | apply below_alloc | apply pw_below_drewN | apply below_drew1) | exact Below.refl _ _)) hb : Below w_9.heap.size w_9 w_11)
  clear hb
  have HBn := Aside0.mk (below_step HB.out HBi.out)
  clear HB
  have HB := HBn
  clear HBn
  have HS16 := Aside0.mk HBi.out.size
  have n0_ := Aside0.mk (blk_below BK2.out HBi.out)
  clear BK2
  have BK2 := n0_
  clear n0_
  clear HBi
  have HWw_11 := Aside0.mk HB.out.size
  have HO12 := Aside0.mk (Kd.R_mono (ok' := fun k_ => w_9.heap.size ≤ k_ ∧ k_ < w_11.heap.size) ho1.out (fun k_ hk_ => hk_))
  clear ho1
  refine ⟨_, rfl, ?_⟩
  refine hK.out _ _ ⟨(blk_cell BK2.out 0).trans rfl, (blk_cell BK2.out 1).trans rfl⟩ (fun hHeld => ?_)
  clear hK K
  refine norm_ (a' := ?_) ?_ ?_
  rotate_left
  · show Act.put _ (some 31) _ = _
    simp only [Act.put, List.setIfInBounds_toArray, List.set_cons_zero, List.set_cons_succ, i64_w, i32_w]
    rfl
  refine one_ (i := 3) (N := some 33) #[true, true, true, true, true, false, false, false, false, false, false] rfl rfl (one_of HT_.out (by kernel_rfl)) (by decide) (fun K hK => ?_)
  refine goes_ Try.func17 (by kernel_rfl) rfl #[.agg #[.int .i64 a1_0, .slice A1_1 l1_1.length c1_1], .bool false] (by rfl) rfl rfl (by (try simp only [List.map_toArray, List.map_cons, List.map_nil]); first | done | rfl | (simp only [List.length_drop, List.length_take]; rfl)) ?_
  (with_reducible refine (laws_toMagazineX.calls k a1_0 _ _ l1_1 false a1_0 ext1_1 _ ?side1 ?side2 (by unfold laws_toMagazineX.f; rw [HTO1_1.out, Option.bind_some])).mono ?_)
  (case side1 => repeat (first | exact HR1_1.out | exact (Kd.C_below HR1_1.out HB.out) | (with_reducible refine Kd.C_alloc ?_ _) | (with_reducible refine Kd.C_drewN ?_ _) | (with_reducible refine Kd.C_drew ?_)))
  (case side2 => exact HC1_1.out)
  rintro e w_17 ⟨Ao19, no20, co21, rfl, hn, ho, hb⟩
  obtain rfl : no20 = xs1_1.length := hn.full HXL1_1.out HNE1_1.out
  clear hn
  have ho1 := Aside0.mk (Kd.R_lower (R_span ho) (Nat.le_trans HB.out.size (by repeat (first | (with_reducible first | exact Below.refl _ _ | apply below_alloc | apply pw_below_drewN | apply below_drew1) | exact Below.refl _ _) : Below w_11.heap.size w_11 _).size))
  clear ho
  have HBi := Aside0.mk (below_step (by repeat (first | (with_reducible first | exact Below.refl _ _ | apply below_alloc | apply pw_below_drewN | apply below_drew1) | exact Below.refl _ _)) hb : Below w_11.heap.size w_11 w_17)
  clear hb
  have HBn := Aside0.mk (below_step HB.out HBi.out)
  clear HB
  have HB := HBn
  clear HBn
  have HS22 := Aside0.mk HBi.out.size
  have n0_ := Aside0.mk (blk_below BK2.out HBi.out)
  clear BK2
  have BK2 := n0_
  clear n0_
  have n0_ := Aside0.mk (Kd.R_below HO12.out HBi.out)
  clear HO12
  have HO12 := n0_
  clear n0_
  clear HBi
  have HWw_17 := Aside0.mk HB.out.size
  have HO18 := Aside0.mk (Kd.R_mono (ok' := fun k_ => w_11.heap.size ≤ k_ ∧ k_ < w_17.heap.size) ho1.out (fun k_ hk_ => hk_))
  clear ho1
  refine ⟨_, rfl, ?_⟩
  refine hK.out _ _ ⟨(blk_cell BK2.out 0).trans rfl, (blk_cell BK2.out 1).trans rfl⟩ (fun hHeld => ?_)
  clear hK K
  refine norm_ (a' := ?_) ?_ ?_
  rotate_left
  · show Act.put _ (some 33) _ = _
    simp only [Act.put, List.setIfInBounds_toArray, List.set_cons_zero, List.set_cons_succ, i64_w, i32_w]
    rfl
  refine one_ (i := 5) (N := some 35) #[true, true, true, true, true, true, false, false, false, false, false] rfl rfl (one_of HT_.out (by kernel_rfl)) (by decide) (fun K hK => ?_)
  refine goes_ Try.func33 (by kernel_rfl) rfl #[.slice Ao13 xs0.length co15, .agg #[.int .i64 a1_0, .slice Ao19 xs1_1.length co21], .string a2] (by rfl) rfl rfl (by (try simp only [List.map_toArray, List.map_cons, List.map_nil]); first | done | rfl | (simp only [List.length_drop, List.length_take]; rfl)) ?_
  (with_reducible refine (spec_RoomFor.calls k _ _ xs0 a1_0 _ _ xs1_1 a2 res_r1 res_r2 _ ?side1 ?side2 ?side3 ?side4 HFspec.out).mono ?_)
  (case side1 => repeat (first | exact C_ext (Kd.R_reads' HO12.out).2.2 HXE0.out HLE0.out | (with_reducible refine Kd.C_alloc ?_ _) | (with_reducible refine Kd.C_drewN ?_ _) | (with_reducible refine Kd.C_drew ?_)))
  (case side2 => exact Nat.le_trans HLE0.out (Kd.R_reads' HO12.out).2.1)
  (case side3 => repeat (first | exact C_ext (Kd.R_reads' HO18.out).2.2 HXE1_1.out HLE1_1.out | (with_reducible refine Kd.C_alloc ?_ _) | (with_reducible refine Kd.C_drewN ?_ _) | (with_reducible refine Kd.C_drew ?_)))
  (case side4 => exact Nat.le_trans HLE1_1.out (Kd.R_reads' HO18.out).2.1)
  rintro e w_23 ⟨rfl, hb⟩
  have HBi := Aside0.mk (below_step (by repeat (first | (with_reducible first | exact Below.refl _ _ | apply below_alloc | apply pw_below_drewN | apply below_drew1) | exact Below.refl _ _)) hb : Below w_17.heap.size w_17 w_23)
  clear hb
  have HBn := Aside0.mk (below_step HB.out HBi.out)
  clear HB
  have HB := HBn
  clear HBn
  have HS24 := Aside0.mk HBi.out.size
  have n0_ := Aside0.mk (blk_below BK2.out HBi.out)
  clear BK2
  have BK2 := n0_
  clear n0_
  have n0_ := Aside0.mk (Kd.R_below HO12.out HBi.out)
  clear HO12
  have HO12 := n0_
  clear n0_
  have n0_ := Aside0.mk (Kd.R_below HO18.out HBi.out)
  clear HO18
  have HO18 := n0_
  clear n0_
  clear HBi
  have HWw_23 := Aside0.mk HB.out.size
  refine ⟨_, rfl, ?_⟩
  refine hK.out _ _ ⟨(blk_cell BK2.out 0).trans rfl, (blk_cell BK2.out 1).trans rfl⟩ (fun hHeld => ?_)
  clear hK K
  refine norm_ (a' := ?_) ?_ ?_
  rotate_left
  · show Act.put _ (some 35) _ = _
    simp only [Act.put, List.setIfInBounds_toArray, List.set_cons_zero, List.set_cons_succ, i64_w, i32_w]
    rfl
  refine pure_ (i := 6) (N := some 29) (v := ?_) (a' := ?_) #[true, true, true, true, true, true, true, false, false, false, false] rfl rfl (any_of HT_.out (by kernel_rfl)) (fun _ _ _ h => h) (Or.inl ⟨by rfl, ?_⟩) ?_ ?_
  rotate_left
  · intro w'
    go_simp
    with_reducible rfl
  rotate_left
  · simp only [Act.put, List.setIfInBounds_toArray, List.set_cons_zero, List.set_cons_succ, i64_w, i32_w]
    rfl
  refine pure_ (i := 7) (N := some 36) (v := ?_) (a' := ?_) #[true, true, true, true, true, true, true, true, false, false, false] rfl rfl (any_of HT_.out (by kernel_rfl)) (fun _ _ _ h => h) (Or.inl ⟨by rfl, ?_⟩) ?_ ?_
  rotate_left
  · intro w'
    go_simp
    with_reducible rfl
  rotate_left
  · simp only [Act.put, List.setIfInBounds_toArray, List.set_cons_zero, List.set_cons_succ, i64_w, i32_w]
    rfl
  refine pure_ (i := 8) (N := some 37) (v := ?_) (a' := ?_) #[true, true, true, true, true, true, true, true, true, false, false] rfl rfl (any_of HT_.out (by kernel_rfl)) (fun _ _ _ h => h) (Or.inl ⟨by rfl, ?_⟩) ?_ ?_
  rotate_left
  · intro w'
    go_simp
    with_reducible rfl
  rotate_left
  · simp only [Act.put, List.setIfInBounds_toArray, List.set_cons_zero, List.set_cons_succ, i64_w, i32_w]
    rfl
  refine pure_ (i := 9) (N := some 8) (v := ?_) (a' := ?_) #[true, true, true, true, true, true, true, true, true, true, false] rfl rfl (any_of HT_.out (by kernel_rfl)) (fun _ _ _ h => h) (Or.inl ⟨by rfl, ?_⟩) ?_ ?_
  rotate_left
  · intro w'
    go_simp
    with_reducible rfl
  rotate_left
  · simp only [Act.put, List.setIfInBounds_toArray, List.set_cons_zero, List.set_cons_succ, i64_w, i32_w]
    rfl
  refine pure_ (i := 10) (N := some 9) (v := ?_) (a' := ?_) #[true, true, true, true, true, true, true, true, true, true, true] rfl rfl (any_of HT_.out (by kernel_rfl)) (fun _ _ _ h => h) (Or.inl ⟨by rfl, ?_⟩) ?_ ?_
  rotate_left
  · intro w'
    go_simp
    with_reducible rfl
  rotate_left
  · simp only [Act.put, List.setIfInBounds_toArray, List.set_cons_zero, List.set_cons_succ, i64_w, i32_w]
    rfl
  refine done_ (done_of HT_.out (by kernel_rfl)) ?_
  clear HO12
  clear HO18
  have hczgb1_0 : w_23.cell? ⟨gb1, 0, none⟩ = some (.int .i64 a1_0) := (blk_cell BK2.out 0).trans rfl
  have hfzgb1_0 := blk_frozen BK2.out 0
  have hczgb1_1 : w_23.cell? ⟨gb1, 1, none⟩ = some (.slice A1_1 l1_1.length c1_1) := (blk_cell BK2.out 1).trans rfl
  have hfzgb1_1 := blk_frozen BK2.out 1
  go_wp2_with (fail)
  clear hczgb1_0 hfzgb1_0 hczgb1_1 hfzgb1_1
  go_at_call 16
  (with_reducible refine (laws_toArticleSX.calls k _ _ l0 false ext0 _ ?side1 ?side2 HTO0.out).mono ?_)
  (case side1 => repeat (first | exact HR0.out | exact (Kd.C_below HR0.out HB.out) | (with_reducible refine Kd.C_alloc ?_ _) | (with_reducible refine Kd.C_drewN ?_ _) | (with_reducible refine Kd.C_drew ?_)))
  (case side2 => exact HC0.out)
  rintro e w_25 ⟨Ao27, no28, co29, rfl, hn, ho, hb⟩
  obtain rfl : no28 = xs0.length := hn.full HXL0.out HNE0.out
  clear hn
  have ho1 := Aside0.mk (Kd.R_lower (R_span ho) (Nat.le_trans HB.out.size (by repeat (first | (with_reducible first | exact Below.refl _ _ | apply below_alloc | apply pw_below_drewN | apply below_drew1) | exact Below.refl _ _) : Below w_23.heap.size w_23 _).size))
  clear ho
  have HBi := Aside0.mk (below_step (by repeat (first | (with_reducible first | exact Below.refl _ _ | apply below_alloc | apply pw_below_drewN | apply below_drew1) | exact Below.refl _ _)) hb : Below w_23.heap.size w_23 w_25)
  clear hb
  have HBn := Aside0.mk (below_step HB.out HBi.out)
  clear HB
  have HB := HBn
  clear HBn
  have HS30 := Aside0.mk HBi.out.size
  have n0_ := Aside0.mk (blk_below BK2.out HBi.out)
  clear BK2
  have BK2 := n0_
  clear n0_
  clear HBi
  have HWw_25 := Aside0.mk HB.out.size
  have HO26 := Aside0.mk (Kd.R_mono (ok' := fun k_ => w_23.heap.size ≤ k_ ∧ k_ < w_25.heap.size) ho1.out (fun k_ hk_ => hk_))
  clear ho1
  have hczgb1_0 : w_25.cell? ⟨gb1, 0, none⟩ = some (.int .i64 a1_0) := (blk_cell BK2.out 0).trans rfl
  have hfzgb1_0 := blk_frozen BK2.out 0
  have hczgb1_1 : w_25.cell? ⟨gb1, 1, none⟩ = some (.slice A1_1 l1_1.length c1_1) := (blk_cell BK2.out 1).trans rfl
  have hfzgb1_1 := blk_frozen BK2.out 1
  go_wp2_with (fail)
  clear hczgb1_0 hfzgb1_0 hczgb1_1 hfzgb1_1
  go_at_call 17
  (with_reducible refine (laws_toMagazineX.calls k a1_0 _ _ l1_1 false a1_0 ext1_1 _ ?side1 ?side2 (by unfold laws_toMagazineX.f; rw [HTO1_1.out, Option.bind_some])).mono ?_)
  (case side1 => repeat (first | exact HR1_1.out | exact (Kd.C_below HR1_1.out HB.out) | (with_reducible refine Kd.C_alloc ?_ _) | (with_reducible refine Kd.C_drewN ?_ _) | (with_reducible refine Kd.C_drew ?_)))
  (case side2 => exact HC1_1.out)
  rintro e w_31 ⟨Ao33, no34, co35, rfl, hn, ho, hb⟩
  obtain rfl : no34 = xs1_1.length := hn.full HXL1_1.out HNE1_1.out
  clear hn
  have ho1 := Aside0.mk (Kd.R_lower (R_span ho) (Nat.le_trans HB.out.size (by repeat (first | (with_reducible first | exact Below.refl _ _ | apply below_alloc | apply pw_below_drewN | apply below_drew1) | exact Below.refl _ _) : Below w_25.heap.size w_25 _).size))
  clear ho
  have HBi := Aside0.mk (below_step (by repeat (first | (with_reducible first | exact Below.refl _ _ | apply below_alloc | apply pw_below_drewN | apply below_drew1) | exact Below.refl _ _)) hb : Below w_25.heap.size w_25 w_31)
  clear hb
  have HBn := Aside0.mk (below_step HB.out HBi.out)
  clear HB
  have HB := HBn
  clear HBn
  have HS36 := Aside0.mk HBi.out.size
  have n0_ := Aside0.mk (blk_below BK2.out HBi.out)
  clear BK2
  have BK2 := n0_
  clear n0_
  have n0_ := Aside0.mk (Kd.R_below HO26.out HBi.out)
  clear HO26
  have HO26 := n0_
  clear n0_
  clear HBi
  have HWw_31 := Aside0.mk HB.out.size
  have HO32 := Aside0.mk (Kd.R_mono (ok' := fun k_ => w_25.heap.size ≤ k_ ∧ k_ < w_31.heap.size) ho1.out (fun k_ hk_ => hk_))
  clear ho1
  go_wp2_with (first | ((with_reducible refine gate_dst (N := 11) rfl ?_); refine box_event ?hg (N := 11) ?hd (cs := #[.int .i64 0, .slice none 0 0]) (t := 28) ?hr ?_; (case hd => rfl); (case hg => rfl); (case hr => first | (go_simp; done) | (go_simp; rfl)); intro gb37 hg_ w_39 hbox hb; have BK38 := Aside0.mk hbox; have HGgb37 : Aside0 (gb37 < w_39.heap.size) := ⟨blk_lt hbox⟩; have HLgb37 : Aside0 (w_31.heap.size ≤ gb37) := ⟨by rw [hg_]; exact Nat.le_refl _⟩; have hbA_ := Aside0.mk hb; have hbB_ := Aside0.mk (below_step (by repeat (first | (with_reducible first | exact Below.refl _ _ | apply below_alloc | apply pw_below_drewN | apply below_drew1) | exact Below.refl _ _)) hb : Below w_31.heap.size w_31 w_39); clear hbox hg_ hb; have hczgb37_0 : w_39.cell? ⟨gb37, 0, none⟩ = some (.int .i64 0) := (blk_cell BK38.out 0).trans rfl; have hfzgb37_0 := blk_frozen BK38.out 0; have hczgb37_1 : w_39.cell? ⟨gb37, 1, none⟩ = some (.slice none 0 0) := (blk_cell BK38.out 1).trans rfl; have hfzgb37_1 := blk_frozen BK38.out 1; have hczgb1_0 : w_39.cell? ⟨gb1, 0, none⟩ = some (.int .i64 a1_0) := (blk_cell (blk_below BK2.out hbB_.out) 0).trans rfl; have hfzgb1_0 := blk_frozen (blk_below BK2.out hbB_.out) 0; have hczgb1_1 : w_39.cell? ⟨gb1, 1, none⟩ = some (.slice A1_1 l1_1.length c1_1) := (blk_cell (blk_below BK2.out hbB_.out) 1).trans rfl; have hfzgb1_1 := blk_frozen (blk_below BK2.out hbB_.out) 1; have hnegb1 : gb1 ≠ gb37 := Nat.ne_of_lt (Nat.lt_of_lt_of_le (blk_lt BK2.out) HLgb37.out); have hnfgb1 := hnegb1.symm))
  clear hczgb37_0 hfzgb37_0 hczgb37_1 hfzgb37_1 hczgb1_0 hfzgb1_0 hczgb1_1 hfzgb1_1 hnegb1 hnfgb1
  have hb := hbA_.out
  clear hbA_ hbB_
  have HBi := Aside0.mk (below_step (by repeat (first | (with_reducible first | exact Below.refl _ _ | apply below_alloc | apply pw_below_drewN | apply below_drew1) | exact Below.refl _ _)) hb : Below w_31.heap.size w_31 w_39)
  clear hb
  have HBn := Aside0.mk (below_step HB.out HBi.out)
  clear HB
  have HB := HBn
  clear HBn
  have HS41 := Aside0.mk HBi.out.size
  have n0_ := Aside0.mk (blk_below BK2.out HBi.out)
  clear BK2
  have BK2 := n0_
  clear n0_
  have n0_ := Aside0.mk (Kd.R_below HO26.out HBi.out)
  clear HO26
  have HO26 := n0_
  clear n0_
  have n0_ := Aside0.mk (Kd.R_below HO32.out HBi.out)
  clear HO32
  have HO32 := n0_
  clear n0_
  clear HBi
  have HWw_39 := Aside0.mk HB.out.size
  generalize hq_ : World.setCell (World.setCell w_39 ⟨gb37, 0, none⟩ (.int .i64 a1_0)) ⟨gb37, 1, none⟩ (.slice Ao33 xs1_1.length co35) = w_42
  have hk1 : Aside0 (Kept w_39 w_42 (fun k_ => k_ = gb37)) := ⟨by rw [← hq_]; exact Kept.then_ (kept_set w_39 gb37 0 _) (kept_set (World.setCell w_39 ⟨gb37, 0, none⟩ (.int .i64 a1_0)) gb37 1 _) (fun _ h_ => .inl h_)⟩
  have hz_ : w.heap.size ≤ w_31.heap.size := HWw_31.out
  have n0_ : Aside0 (Below w.heap.size w w_42) := ⟨by rw [← hq_]; exact (below_set (below_set HB.out (Nat.le_trans hz_ HLgb37.out)) (Nat.le_trans hz_ HLgb37.out))⟩
  clear HB hz_
  have HB := n0_
  clear n0_
  have n0_ : Aside0 (w_42.heap[gb37]? = some (.cells #[.int .i64 a1_0, .slice Ao33 xs1_1.length co35] 28 (0, 0))) := ⟨by rw [← hq_]; exact (blk_put (cs := #[.int .i64 a1_0, .slice none 0 0]) (blk_put (cs := #[.int .i64 0, .slice none 0 0]) BK38.out 0 _ rfl) 1 _ rfl)⟩
  clear BK38 hq_
  have BK38 := n0_
  clear n0_
  have HS43 := Aside0.mk hk1.out.1
  have n0_ := Aside0.mk ((hk1.out.2 gb1 (blk_lt BK2.out) (fun h_ => by have sHGgb1 := HGgb1.out; have sHS4 := HS4.out; have sHS6 := HS6.out; have sHS8 := HS8.out; have sHS10 := HS10.out; have sHS16 := HS16.out; have sHS22 := HS22.out; have sHS24 := HS24.out; have sHS30 := HS30.out; have sHS36 := HS36.out; have sHGgb37 := HGgb37.out; have sHLgb37 := HLgb37.out; have sHS41 := HS41.out; have sHS43 := HS43.out; omega)).trans BK2.out)
  clear BK2
  have BK2 := n0_
  clear n0_
  have n0_ := Aside0.mk (Kd.R_kept HO26.out hk1.out (fun k_ (h1_ : w_23.heap.size ≤ k_ ∧ k_ < w_25.heap.size) (h2_ : k_ = gb37) => by have sHGgb1 := HGgb1.out; have sHS4 := HS4.out; have sHS6 := HS6.out; have sHS8 := HS8.out; have sHS10 := HS10.out; have sHS16 := HS16.out; have sHS22 := HS22.out; have sHS24 := HS24.out; have sHS30 := HS30.out; have sHS36 := HS36.out; have sHGgb37 := HGgb37.out; have sHLgb37 := HLgb37.out; have sHS41 := HS41.out; have sHS43 := HS43.out; omega))
  clear HO26
  have HO26 := n0_
  clear n0_
  have n0_ := Aside0.mk (Kd.R_kept HO32.out hk1.out (fun k_ (h1_ : w_25.heap.size ≤ k_ ∧ k_ < w_31.heap.size) (h2_ : k_ = gb37) => by have sHGgb1 := HGgb1.out; have sHS4 := HS4.out; have sHS6 := HS6.out; have sHS8 := HS8.out; have sHS10 := HS10.out; have sHS16 := HS16.out; have sHS22 := HS22.out; have sHS24 := HS24.out; have sHS30 := HS30.out; have sHS36 := HS36.out; have sHGgb37 := HGgb37.out; have sHLgb37 := HLgb37.out; have sHS41 := HS41.out; have sHS43 := HS43.out; omega))
  clear HO32
  have HO32 := n0_
  clear n0_
  clear hk1
  have HWw_42 := Aside0.mk HB.out.size
  have hczgb1_0 : w_42.cell? ⟨gb1, 0, none⟩ = some (.int .i64 a1_0) := (blk_cell BK2.out 0).trans rfl
  have hfzgb1_0 := blk_frozen BK2.out 0
  have hczgb1_1 : w_42.cell? ⟨gb1, 1, none⟩ = some (.slice A1_1 l1_1.length c1_1) := (blk_cell BK2.out 1).trans rfl
  have hfzgb1_1 := blk_frozen BK2.out 1
  have hczgb37_0 : w_42.cell? ⟨gb37, 0, none⟩ = some (.int .i64 a1_0) := (blk_cell BK38.out 0).trans rfl
  have hfzgb37_0 := blk_frozen BK38.out 0
  have hczgb37_1 : w_42.cell? ⟨gb37, 1, none⟩ = some (.slice Ao33 xs1_1.length co35) := (blk_cell BK38.out 1).trans rfl
  have hfzgb37_1 := blk_frozen BK38.out 1
  go_wp2_with (fail)
  clear hczgb1_0 hfzgb1_0 hczgb1_1 hfzgb1_1 hczgb37_0 hfzgb37_0 hczgb37_1 hfzgb37_1
  go_at_call 34
  (with_reducible refine (impl_RoomFor.calls k _ _ xs0 a1_0 _ _ xs1_1 a2 res_r1 res_r2 _ ?side1 ?side2 ?side3 ?side4 HFimpl.out).mono ?_)
  (case side1 => repeat (first | exact C_ext (Kd.R_reads' HO26.out).2.2 HXE0.out HLE0.out | (with_reducible refine Kd.C_alloc ?_ _) | (with_reducible refine Kd.C_drewN ?_ _) | (with_reducible refine Kd.C_drew ?_)))
  (case side2 => exact Nat.le_trans HLE0.out (Kd.R_reads' HO26.out).2.1)
  (case side3 => repeat (first | exact C_ext (Kd.R_reads' HO32.out).2.2 HXE1_1.out HLE1_1.out | (with_reducible refine Kd.C_alloc ?_ _) | (with_reducible refine Kd.C_drewN ?_ _) | (with_reducible refine Kd.C_drew ?_)))
  (case side4 => exact Nat.le_trans HLE1_1.out (Kd.R_reads' HO32.out).2.1)
  rintro e w_44 ⟨rfl, hb⟩
  have HBi := Aside0.mk (below_step (by repeat (first | (with_reducible first | exact Below.refl _ _ | apply below_alloc | apply pw_below_drewN | apply below_drew1) | exact Below.refl _ _)) hb : Below w_42.heap.size w_42 w_44)
  clear hb
  have HBn := Aside0.mk (below_step HB.out HBi.out)
  clear HB
  have HB := HBn
  clear HBn
  have HS45 := Aside0.mk HBi.out.size
  have n0_ := Aside0.mk (blk_below BK2.out HBi.out)
  clear BK2
  have BK2 := n0_
  clear n0_
  have n0_ := Aside0.mk (Kd.R_below HO26.out HBi.out)
  clear HO26
  have HO26 := n0_
  clear n0_
  have n0_ := Aside0.mk (Kd.R_below HO32.out HBi.out)
  clear HO32
  have HO32 := n0_
  clear n0_
  have n0_ := Aside0.mk (blk_below BK38.out HBi.out)
  clear BK38
  have BK38 := n0_
  clear n0_
  clear HBi
  have HWw_44 := Aside0.mk HB.out.size
  have hczgb1_0 : w_44.cell? ⟨gb1, 0, none⟩ = some (.int .i64 a1_0) := (blk_cell BK2.out 0).trans rfl
  have hfzgb1_0 := blk_frozen BK2.out 0
  have hczgb1_1 : w_44.cell? ⟨gb1, 1, none⟩ = some (.slice A1_1 l1_1.length c1_1) := (blk_cell BK2.out 1).trans rfl
  have hfzgb1_1 := blk_frozen BK2.out 1
  have hczgb37_0 : w_44.cell? ⟨gb37, 0, none⟩ = some (.int .i64 a1_0) := (blk_cell BK38.out 0).trans rfl
  have hfzgb37_0 := blk_frozen BK38.out 0
  have hczgb37_1 : w_44.cell? ⟨gb37, 1, none⟩ = some (.slice Ao33 xs1_1.length co35) := (blk_cell BK38.out 1).trans rfl
  have hfzgb37_1 := blk_frozen BK38.out 1
  go_wp2_with (fail)
  clear hczgb1_0 hfzgb1_0 hczgb1_1 hfzgb1_1 hczgb37_0 hfzgb37_0 hczgb37_1 hfzgb37_1
  go_at_call 16
  (with_reducible refine (laws_toArticleSX.calls k _ _ l0 false ext0 _ ?side1 ?side2 HTO0.out).mono ?_)
  (case side1 => repeat (first | exact HR0.out | exact (Kd.C_below HR0.out HB.out) | (with_reducible refine Kd.C_alloc ?_ _) | (with_reducible refine Kd.C_drewN ?_ _) | (with_reducible refine Kd.C_drew ?_)))
  (case side2 => exact HC0.out)
  rintro e w_46 ⟨Ao48, no49, co50, rfl, hn, ho, hb⟩
  obtain rfl : no49 = xs0.length := hn.full HXL0.out HNE0.out
  clear hn
  have ho1 := Aside0.mk (Kd.R_lower (R_span ho) (Nat.le_trans HB.out.size (by repeat (first | (with_reducible first | exact Below.refl _ _ | apply below_alloc | apply pw_below_drewN | apply below_drew1) | exact Below.refl _ _) : Below w_44.heap.size w_44 _).size))
  clear ho
  have HBi := Aside0.mk (below_step (by repeat (first | (with_reducible first | exact Below.refl _ _ | apply below_alloc | apply pw_below_drewN | apply below_drew1) | exact Below.refl _ _)) hb : Below w_44.heap.size w_44 w_46)
  clear hb
  have HBn := Aside0.mk (below_step HB.out HBi.out)
  clear HB
  have HB := HBn
  clear HBn
  have HS51 := Aside0.mk HBi.out.size
  have n0_ := Aside0.mk (blk_below BK2.out HBi.out)
  clear BK2
  have BK2 := n0_
  clear n0_
  have n0_ := Aside0.mk (Kd.R_below HO26.out HBi.out)
  clear HO26
  have HO26 := n0_
  clear n0_
  have n0_ := Aside0.mk (Kd.R_below HO32.out HBi.out)
  clear HO32
  have HO32 := n0_
  clear n0_
  have n0_ := Aside0.mk (blk_below BK38.out HBi.out)
  clear BK38
  have BK38 := n0_
  clear n0_
  clear HBi
  have HWw_46 := Aside0.mk HB.out.size
  have HO47 := Aside0.mk (Kd.R_mono (ok' := fun k_ => w_44.heap.size ≤ k_ ∧ k_ < w_46.heap.size) ho1.out (fun k_ hk_ => hk_))
  clear ho1
  have hczgb1_0 : w_46.cell? ⟨gb1, 0, none⟩ = some (.int .i64 a1_0) := (blk_cell BK2.out 0).trans rfl
  have hfzgb1_0 := blk_frozen BK2.out 0
  have hczgb1_1 : w_46.cell? ⟨gb1, 1, none⟩ = some (.slice A1_1 l1_1.length c1_1) := (blk_cell BK2.out 1).trans rfl
  have hfzgb1_1 := blk_frozen BK2.out 1
  have hczgb37_0 : w_46.cell? ⟨gb37, 0, none⟩ = some (.int .i64 a1_0) := (blk_cell BK38.out 0).trans rfl
  have hfzgb37_0 := blk_frozen BK38.out 0
  have hczgb37_1 : w_46.cell? ⟨gb37, 1, none⟩ = some (.slice Ao33 xs1_1.length co35) := (blk_cell BK38.out 1).trans rfl
  have hfzgb37_1 := blk_frozen BK38.out 1
  go_wp2_with (fail)
  clear hczgb1_0 hfzgb1_0 hczgb1_1 hfzgb1_1 hczgb37_0 hfzgb37_0 hczgb37_1 hfzgb37_1
  go_at_call 20
  (with_reducible refine (laws_intactArticleSX.calls k _ _ ext0 _ _ ext0 xs0.length rm0 true _ ?side1 ?side2 ?side3 ?side4 HRM0.out HJ0.out rfl HEQX0.out).mono ?_)
  (case side1 => repeat (first | exact (Kd.R_reads' HO26.out).2.2 | (with_reducible refine Kd.C_alloc ?_ _) | (with_reducible refine Kd.C_drewN ?_ _) | (with_reducible refine Kd.C_drew ?_)))
  (case side2 => exact (Kd.R_reads' HO26.out).2.1)
  (case side3 => repeat (first | exact (Kd.R_reads' HO47.out).2.2 | (with_reducible refine Kd.C_alloc ?_ _) | (with_reducible refine Kd.C_drewN ?_ _) | (with_reducible refine Kd.C_drew ?_)))
  (case side4 => exact (Kd.R_reads' HO47.out).2.1)
  rintro e w_52 ⟨rfl, hb⟩
  have HBi := Aside0.mk (below_step (by repeat (first | (with_reducible first | exact Below.refl _ _ | apply below_alloc | apply pw_below_drewN | apply below_drew1) | exact Below.refl _ _)) hb : Below w_46.heap.size w_46 w_52)
  clear hb
  have HBn := Aside0.mk (below_step HB.out HBi.out)
  clear HB
  have HB := HBn
  clear HBn
  have HS53 := Aside0.mk HBi.out.size
  have n0_ := Aside0.mk (blk_below BK2.out HBi.out)
  clear BK2
  have BK2 := n0_
  clear n0_
  have n0_ := Aside0.mk (Kd.R_below HO26.out HBi.out)
  clear HO26
  have HO26 := n0_
  clear n0_
  have n0_ := Aside0.mk (Kd.R_below HO32.out HBi.out)
  clear HO32
  have HO32 := n0_
  clear n0_
  have n0_ := Aside0.mk (blk_below BK38.out HBi.out)
  clear BK38
  have BK38 := n0_
  clear n0_
  have n0_ := Aside0.mk (Kd.R_below HO47.out HBi.out)
  clear HO47
  have HO47 := n0_
  clear n0_
  clear HBi
  have HWw_52 := Aside0.mk HB.out.size
  clear HO47
  have hczgb1_0 : w_52.cell? ⟨gb1, 0, none⟩ = some (.int .i64 a1_0) := (blk_cell BK2.out 0).trans rfl
  have hfzgb1_0 := blk_frozen BK2.out 0
  have hczgb1_1 : w_52.cell? ⟨gb1, 1, none⟩ = some (.slice A1_1 l1_1.length c1_1) := (blk_cell BK2.out 1).trans rfl
  have hfzgb1_1 := blk_frozen BK2.out 1
  have hczgb37_0 : w_52.cell? ⟨gb37, 0, none⟩ = some (.int .i64 a1_0) := (blk_cell BK38.out 0).trans rfl
  have hfzgb37_0 := blk_frozen BK38.out 0
  have hczgb37_1 : w_52.cell? ⟨gb37, 1, none⟩ = some (.slice Ao33 xs1_1.length co35) := (blk_cell BK38.out 1).trans rfl
  have hfzgb37_1 := blk_frozen BK38.out 1
  go_wp2_with (fail)
  clear hczgb1_0 hfzgb1_0 hczgb1_1 hfzgb1_1 hczgb37_0 hfzgb37_0 hczgb37_1 hfzgb37_1
  refine start_ (n := 5) (S := fun w' => w'.cell? ⟨gb1, 0, none⟩ = some (.int .i64 a1_0) ∧ w'.cell? ⟨gb1, 1, none⟩ = some (.slice A1_1 l1_1.length c1_1) ∧ w'.cell? ⟨gb37, 0, none⟩ = some (.int .i64 a1_0) ∧ w'.cell? ⟨gb37, 1, none⟩ = some (.slice Ao33 xs1_1.length co35)) (ds := []) #[false, false, false, false, false] (by kernel_rfl) rfl rfl ⟨(blk_cell BK2.out 0).trans rfl, (blk_cell BK2.out 1).trans rfl, (blk_cell BK38.out 0).trans rfl, (blk_cell BK38.out 1).trans rfl⟩ (fun hHeld => ?_)
  generalize hq_ : World.drew _ = w_54 at hHeld ⊢
  have n0_ : Aside0 (Below w.heap.size w w_54) := ⟨by rw [← hq_]; (repeat (first | (with_reducible first | exact HB.out | apply below_alloc | apply pw_below_drewN | apply below_drew1) | exact HB.out))⟩
  clear HB
  have HB := n0_
  clear n0_
  have HS55 : Aside0 (w_52.heap.size ≤ w_54.heap.size) := ⟨by rw [← hq_]; exact Nat.le_refl _⟩
  have n0_ : Aside0 (w_54.heap[gb1]? = some (.cells #[.int .i64 a1_0, .slice A1_1 l1_1.length c1_1] 25 (0, 0))) := ⟨by rw [← hq_]; (with_reducible repeat (first | refine blk_drewN ?_ _ | refine blk_drew ?_ | refine blk_alloc ?_ _)); exact BK2.out⟩
  clear BK2
  have BK2 := n0_
  clear n0_
  have n0_ : Aside0 (Kd.R k65 65 w_54 w.heap.size (fun k_ => w_23.heap.size ≤ k_ ∧ k_ < w_25.heap.size) (.slice Ao27 ext0.length co29) ext0) := ⟨by rw [← hq_]; (with_reducible repeat (first | apply Kd.R_alloc | apply Kd.R_drewN | apply Kd.R_drew)); exact HO26.out⟩
  clear HO26
  have HO26 := n0_
  clear n0_
  have n0_ : Aside0 (Kd.R (Kd.int .i64) 2 w_54 w.heap.size (fun k_ => w_25.heap.size ≤ k_ ∧ k_ < w_31.heap.size) (.slice Ao33 ext1_1.length co35) ext1_1) := ⟨by rw [← hq_]; (with_reducible repeat (first | apply Kd.R_alloc | apply Kd.R_drewN | apply Kd.R_drew)); exact HO32.out⟩
  clear HO32
  have HO32 := n0_
  clear n0_
  have n0_ : Aside0 (w_54.heap[gb37]? = some (.cells #[.int .i64 a1_0, .slice Ao33 xs1_1.length co35] 28 (0, 0))) := ⟨by rw [← hq_]; (with_reducible repeat (first | refine blk_drewN ?_ _ | refine blk_drew ?_ | refine blk_alloc ?_ _)); exact BK38.out⟩
  clear BK38
  have BK38 := n0_
  clear n0_
  clear hq_
  have HWw_54 := Aside0.mk HB.out.size
  refine take_ (i := 0) (N := some 62) (v := ?_) (a' := ?_) #[true, false, false, false, false] rfl rfl (by kernel_rfl) (fun _ _ _ h => h) (Or.inl ⟨by rfl, ?_⟩) hHeld ?_ ?_
  rotate_left
  · rintro w' ⟨s0, s1, s2, s3⟩
    go_simp
    with_reducible rfl
  rotate_left
  · simp only [Act.put, List.setIfInBounds_toArray, List.set_cons_zero, List.set_cons_succ, i64_w, i32_w]
    rfl
  refine take_ (i := 1) (N := some 63) (v := ?_) (a' := ?_) #[true, true, false, false, false] rfl rfl (by kernel_rfl) (fun _ _ _ h => h) (Or.inl ⟨by rfl, ?_⟩) hHeld ?_ ?_
  rotate_left
  · rintro w' ⟨s0, s1, s2, s3⟩
    go_simp
    with_reducible rfl
  rotate_left
  · simp only [Act.put, List.setIfInBounds_toArray, List.set_cons_zero, List.set_cons_succ, i64_w, i32_w]
    rfl
  refine one_ (i := 2) (N := some 64) #[true, true, true, false, false] rfl rfl (by kernel_rfl) (by decide) (fun K hK => ?_)
  refine goes_ Try.func17 (by kernel_rfl) rfl #[.agg #[.int .i64 a1_0, .slice A1_1 l1_1.length c1_1], .bool false] (by rfl) rfl rfl (by (try simp only [List.map_toArray, List.map_cons, List.map_nil]); first | done | rfl | (simp only [List.length_drop, List.length_take]; rfl)) ?_
  (with_reducible refine (laws_toMagazineX.calls k a1_0 _ _ l1_1 false a1_0 ext1_1 _ ?side1 ?side2 (by unfold laws_toMagazineX.f; rw [HTO1_1.out, Option.bind_some])).mono ?_)
  (case side1 => repeat (first | exact HR1_1.out | exact (Kd.C_below HR1_1.out HB.out) | (with_reducible refine Kd.C_alloc ?_ _) | (with_reducible refine Kd.C_drewN ?_ _) | (with_reducible refine Kd.C_drew ?_)))
  (case side2 => exact HC1_1.out)
  rintro e w_56 ⟨Ao58, no59, co60, rfl, hn, ho, hb⟩
  obtain rfl : no59 = xs1_1.length := hn.full HXL1_1.out HNE1_1.out
  clear hn
  have ho1 := Aside0.mk (Kd.R_lower (R_span ho) (Nat.le_trans HB.out.size (by repeat (first | (with_reducible first | exact Below.refl _ _ | apply below_alloc | apply pw_below_drewN | apply below_drew1) | exact Below.refl _ _) : Below w_54.heap.size w_54 _).size))
  clear ho
  have HBi := Aside0.mk (below_step (by repeat (first | (with_reducible first | exact Below.refl _ _ | apply below_alloc | apply pw_below_drewN | apply below_drew1) | exact Below.refl _ _)) hb : Below w_54.heap.size w_54 w_56)
  clear hb
  have HBn := Aside0.mk (below_step HB.out HBi.out)
  clear HB
  have HB := HBn
  clear HBn
  have HS61 := Aside0.mk HBi.out.size
  have n0_ := Aside0.mk (blk_below BK2.out HBi.out)
  clear BK2
  have BK2 := n0_
  clear n0_
  have n0_ := Aside0.mk (Kd.R_below HO26.out HBi.out)
  clear HO26
  have HO26 := n0_
  clear n0_
  have n0_ := Aside0.mk (Kd.R_below HO32.out HBi.out)
  clear HO32
  have HO32 := n0_
  clear n0_
  have n0_ := Aside0.mk (blk_below BK38.out HBi.out)
  clear BK38
  have BK38 := n0_
  clear n0_
  clear HBi
  have HWw_56 := Aside0.mk HB.out.size
  have HO57 := Aside0.mk (Kd.R_mono (ok' := fun k_ => w_54.heap.size ≤ k_ ∧ k_ < w_56.heap.size) ho1.out (fun k_ hk_ => hk_))
  clear ho1
  refine ⟨_, rfl, ?_⟩
  refine hK.out _ _ ⟨(blk_cell BK2.out 0).trans rfl, (blk_cell BK2.out 1).trans rfl, (blk_cell BK38.out 0).trans rfl, (blk_cell BK38.out 1).trans rfl⟩ (fun hHeld => ?_)
  clear hK K
  refine norm_ (a' := ?_) ?_ ?_
  rotate_left
  · show Act.put _ (some 64) _ = _
    simp only [Act.put, List.setIfInBounds_toArray, List.set_cons_zero, List.set_cons_succ, i64_w, i32_w]
    rfl
  refine one_ (i := 3) (N := some 65) #[true, true, true, true, false] rfl rfl (by kernel_rfl) (by decide) (fun K hK => ?_)
  refine goes_ Try.func21 (by kernel_rfl) rfl #[.agg #[.int .i64 a1_0, .slice Ao33 xs1_1.length co35], .agg #[.int .i64 a1_0, .slice Ao58 xs1_1.length co60]] (by rfl) rfl rfl (by (try simp only [List.map_toArray, List.map_cons, List.map_nil]); first | done | rfl | (simp only [List.length_drop, List.length_take]; rfl)) ?_
  (with_reducible refine (laws_intactMagazineX.calls k a1_0 _ _ ext1_1 _ _ ext1_1 xs1_1.length rm1_1 _ ?side1 ?side2 ?side3 ?side4 HRM1_1.out HJ1_1.out rfl HEQX1_1.out).mono ?_)
  (case side1 => repeat (first | exact (Kd.R_reads' HO32.out).2.2 | (with_reducible refine Kd.C_alloc ?_ _) | (with_reducible refine Kd.C_drewN ?_ _) | (with_reducible refine Kd.C_drew ?_)))
  (case side2 => exact (Kd.R_reads' HO32.out).2.1)
  (case side3 => repeat (first | exact (Kd.R_reads' HO57.out).2.2 | (with_reducible refine Kd.C_alloc ?_ _) | (with_reducible refine Kd.C_drewN ?_ _) | (with_reducible refine Kd.C_drew ?_)))
  (case side4 => exact (Kd.R_reads' HO57.out).2.1)
  rintro e w_62 ⟨rfl, hb⟩
  have HBi := Aside0.mk (below_step (by repeat (first | (with_reducible first | exact Below.refl _ _ | apply below_alloc | apply pw_below_drewN | apply below_drew1) | exact Below.refl _ _)) hb : Below w_56.heap.size w_56 w_62)
  clear hb
  have HBn := Aside0.mk (below_step HB.out HBi.out)
  clear HB
  have HB := HBn
  clear HBn
  have HS63 := Aside0.mk HBi.out.size
  have n0_ := Aside0.mk (blk_below BK2.out HBi.out)
  clear BK2
  have BK2 := n0_
  clear n0_
  have n0_ := Aside0.mk (Kd.R_below HO26.out HBi.out)
  clear HO26
  have HO26 := n0_
  clear n0_
  have n0_ := Aside0.mk (Kd.R_below HO32.out HBi.out)
  clear HO32
  have HO32 := n0_
  clear n0_
  have n0_ := Aside0.mk (blk_below BK38.out HBi.out)
  clear BK38
  have BK38 := n0_
  clear n0_
  have n0_ := Aside0.mk (Kd.R_below HO57.out HBi.out)
  clear HO57
  have HO57 := n0_
  clear n0_
  clear HBi
  have HWw_62 := Aside0.mk HB.out.size
  refine ⟨_, rfl, ?_⟩
  refine hK.out _ _ ⟨(blk_cell BK2.out 0).trans rfl, (blk_cell BK2.out 1).trans rfl, (blk_cell BK38.out 0).trans rfl, (blk_cell BK38.out 1).trans rfl⟩ (fun hHeld => ?_)
  clear hK K
  refine norm_ (a' := ?_) ?_ ?_
  rotate_left
  · show Act.put _ (some 65) _ = _
    simp only [Act.put, List.setIfInBounds_toArray, List.set_cons_zero, List.set_cons_succ, i64_w, i32_w]
    rfl
  refine pure_ (i := 4) (N := some 66) (v := ?_) (a' := ?_) #[true, true, true, true, true] rfl rfl (by kernel_rfl) (fun _ _ _ h => h) (Or.inl ⟨by rfl, ?_⟩) ?_ ?_
  rotate_left
  · intro w'
    go_simp
    with_reducible rfl
  rotate_left
  · simp only [Act.put, List.setIfInBounds_toArray, List.set_cons_zero, List.set_cons_succ, i64_w, i32_w]
    rfl
  refine done_ (by kernel_rfl) ?_
  clear HO57
  have hczgb1_0 : w_62.cell? ⟨gb1, 0, none⟩ = some (.int .i64 a1_0) := (blk_cell BK2.out 0).trans rfl
  have hfzgb1_0 := blk_frozen BK2.out 0
  have hczgb1_1 : w_62.cell? ⟨gb1, 1, none⟩ = some (.slice A1_1 l1_1.length c1_1) := (blk_cell BK2.out 1).trans rfl
  have hfzgb1_1 := blk_frozen BK2.out 1
  have hczgb37_0 : w_62.cell? ⟨gb37, 0, none⟩ = some (.int .i64 a1_0) := (blk_cell BK38.out 0).trans rfl
  have hfzgb37_0 := blk_frozen BK38.out 0
  have hczgb37_1 : w_62.cell? ⟨gb37, 1, none⟩ = some (.slice Ao33 xs1_1.length co35) := (blk_cell BK38.out 1).trans rfl
  have hfzgb37_1 := blk_frozen BK38.out 1
  go_wp2_with (fail)
  clear hczgb1_0 hfzgb1_0 hczgb1_1 hfzgb1_1 hczgb37_0 hfzgb37_0 hczgb37_1 hfzgb37_1
  refine start_ (n := 11) (S := fun w' => w'.cell? ⟨gb1, 0, none⟩ = some (.int .i64 a1_0) ∧ w'.cell? ⟨gb1, 1, none⟩ = some (.slice A1_1 l1_1.length c1_1) ∧ w'.cell? ⟨gb37, 0, none⟩ = some (.int .i64 a1_0) ∧ w'.cell? ⟨gb37, 1, none⟩ = some (.slice Ao33 xs1_1.length co35)) (ds := []) #[false, false, false, false, false, false, false, false, false, false, false] (by kernel_rfl) rfl rfl ⟨(blk_cell BK2.out 0).trans rfl, (blk_cell BK2.out 1).trans rfl, (blk_cell BK38.out 0).trans rfl, (blk_cell BK38.out 1).trans rfl⟩ (fun hHeld => ?_)
  refine with_tabW laws_FnExactRoomFor.tab18 laws_FnExactRoomFor.bits18 (fun HT_ HW_ => ?_)
  generalize hq_ : World.drew _ = w_64 at hHeld ⊢
  have n0_ : Aside0 (Below w.heap.size w w_64) := ⟨by rw [← hq_]; (repeat (first | (with_reducible first | exact HB.out | apply below_alloc | apply pw_below_drewN | apply below_drew1) | exact HB.out))⟩
  clear HB
  have HB := n0_
  clear n0_
  have HS65 : Aside0 (w_62.heap.size ≤ w_64.heap.size) := ⟨by rw [← hq_]; exact Nat.le_refl _⟩
  have n0_ : Aside0 (w_64.heap[gb1]? = some (.cells #[.int .i64 a1_0, .slice A1_1 l1_1.length c1_1] 25 (0, 0))) := ⟨by rw [← hq_]; (with_reducible repeat (first | refine blk_drewN ?_ _ | refine blk_drew ?_ | refine blk_alloc ?_ _)); exact BK2.out⟩
  clear BK2
  have BK2 := n0_
  clear n0_
  have n0_ : Aside0 (Kd.R k65 65 w_64 w.heap.size (fun k_ => w_23.heap.size ≤ k_ ∧ k_ < w_25.heap.size) (.slice Ao27 ext0.length co29) ext0) := ⟨by rw [← hq_]; (with_reducible repeat (first | apply Kd.R_alloc | apply Kd.R_drewN | apply Kd.R_drew)); exact HO26.out⟩
  clear HO26
  have HO26 := n0_
  clear n0_
  have n0_ : Aside0 (Kd.R (Kd.int .i64) 2 w_64 w.heap.size (fun k_ => w_25.heap.size ≤ k_ ∧ k_ < w_31.heap.size) (.slice Ao33 ext1_1.length co35) ext1_1) := ⟨by rw [← hq_]; (with_reducible repeat (first | apply Kd.R_alloc | apply Kd.R_drewN | apply Kd.R_drew)); exact HO32.out⟩
  clear HO32
  have HO32 := n0_
  clear n0_
  have n0_ : Aside0 (w_64.heap[gb37]? = some (.cells #[.int .i64 a1_0, .slice Ao33 xs1_1.length co35] 28 (0, 0))) := ⟨by rw [← hq_]; (with_reducible repeat (first | refine blk_drewN ?_ _ | refine blk_drew ?_ | refine blk_alloc ?_ _)); exact BK38.out⟩
  clear BK38
  have BK38 := n0_
  clear n0_
  clear hq_
  have HWw_64 := Aside0.mk HB.out.size
  refine pure_ (i := 0) (N := some 68) (v := ?_) (a' := ?_) #[true, false, false, false, false, false, false, false, false, false, false] rfl rfl (any_of HT_.out (by kernel_rfl)) (fun _ _ _ h => h) (Or.inl ⟨by rfl, ?_⟩) ?_ ?_
  rotate_left
  · intro w'
    go_simp
    with_reducible rfl
  rotate_left
  · simp only [Act.put, List.setIfInBounds_toArray, List.set_cons_zero, List.set_cons_succ, i64_w, i32_w]
    rfl
  refine pure_ (i := 4) (N := some 72) (v := ?_) (a' := ?_) #[true, false, false, false, true, false, false, false, false, false, false] rfl rfl (any_of HT_.out (by kernel_rfl)) (fun _ _ _ h => h) (Or.inl ⟨by rfl, ?_⟩) ?_ ?_
  rotate_left
  · intro w'
    go_simp
    with_reducible rfl
  rotate_left
  · simp only [Act.put, List.setIfInBounds_toArray, List.set_cons_zero, List.set_cons_succ, i64_w, i32_w]
    rfl
  refine take_ (i := 2) (N := some 70) (v := ?_) (a' := ?_) #[true, false, true, false, true, false, false, false, false, false, false] rfl rfl (take_ofW HT_.out HW_.out (by kernel_rfl)) (fun _ _ _ h => h) (Or.inl ⟨by rfl, ?_⟩) hHeld ?_ ?_
  rotate_left
  · rintro w' ⟨s0, s1, s2, s3⟩
    go_simp
    with_reducible rfl
  rotate_left
  · simp only [Act.put, List.setIfInBounds_toArray, List.set_cons_zero, List.set_cons_succ, i64_w, i32_w]
    rfl
  refine one_ (i := 1) (N := some 69) #[true, true, true, false, true, false, false, false, false, false, false] rfl rfl (one_of HT_.out (by kernel_rfl)) (by decide) (fun K hK => ?_)
  refine goes_ Try.func16 (by kernel_rfl) rfl #[.slice A0 l0.length c0, .bool true] (by rfl) rfl rfl (by (try simp only [List.map_toArray, List.map_cons, List.map_nil]); first | done | rfl | (simp only [List.length_drop, List.length_take]; rfl)) ?_
  (with_reducible refine (laws_toArticleSX.calls k _ _ l0 true extb0 _ ?side1 ?side2 HTOB0.out).mono ?_)
  (case side1 => repeat (first | exact HR0.out | exact (Kd.C_below HR0.out HB.out) | (with_reducible refine Kd.C_alloc ?_ _) | (with_reducible refine Kd.C_drewN ?_ _) | (with_reducible refine Kd.C_drew ?_)))
  (case side2 => exact HC0.out)
  rintro e w_66 ⟨Ao68, no69, co70, rfl, hn, ho, hb⟩
  obtain rfl : no69 = xs0.length := hn.bare HXL0.out HNB0.out
  clear hn
  have ho1 := Aside0.mk (Kd.R_lower (R_span ho) (Nat.le_trans HB.out.size (by repeat (first | (with_reducible first | exact Below.refl _ _ | apply below_alloc | apply pw_below_drewN | apply below_drew1) | exact Below.refl _ _) : Below w_64.heap.size w_64 _).size))
  clear ho
  have HBi := Aside0.mk (below_step (by repeat (first | (with_reducible first | exact Below.refl _ _ | apply below_alloc | apply pw_below_drewN | apply below_drew1) | exact Below.refl _ _)) hb : Below w_64.heap.size w_64 w_66)
  clear hb
  have HBn := Aside0.mk (below_step HB.out HBi.out)
  clear HB
  have HB := HBn
  clear HBn
  have HS71 := Aside0.mk HBi.out.size
  have n0_ := Aside0.mk (blk_below BK2.out HBi.out)
  clear BK2
  have BK2 := n0_
  clear n0_
  have n0_ := Aside0.mk (Kd.R_below HO26.out HBi.out)
  clear HO26
  have HO26 := n0_
  clear n0_
  have n0_ := Aside0.mk (Kd.R_below HO32.out HBi.out)
  clear HO32
  have HO32 := n0_
  clear n0_
  have n0_ := Aside0.mk (blk_below BK38.out HBi.out)
  clear BK38
  have BK38 := n0_
  clear n0_
  clear HBi
  have HWw_66 := Aside0.mk HB.out.size
  have HO67 := Aside0.mk (Kd.R_mono (ok' := fun k_ => w_64.heap.size ≤ k_ ∧ k_ < w_66.heap.size) ho1.out (fun k_ hk_ => hk_))
  clear ho1
  refine ⟨_, rfl, ?_⟩
  refine hK.out _ _ ⟨(blk_cell BK2.out 0).trans rfl, (blk_cell BK2.out 1).trans rfl, (blk_cell BK38.out 0).trans rfl, (blk_cell BK38.out 1).trans rfl⟩ (fun hHeld => ?_)
  clear hK K
  refine norm_ (a' := ?_) ?_ ?_
  rotate_left
  · show Act.put _ (some 69) _ = _
    simp only [Act.put, List.setIfInBounds_toArray, List.set_cons_zero, List.set_cons_succ, i64_w, i32_w]
    rfl
  refine one_ (i := 3) (N := some 71) #[true, true, true, true, true, false, false, false, false, false, false] rfl rfl (one_of HT_.out (by kernel_rfl)) (by decide) (fun K hK => ?_)
  refine goes_ Try.func17 (by kernel_rfl) rfl #[.agg #[.int .i64 a1_0, .slice A1_1 l1_1.length c1_1], .bool true] (by rfl) rfl rfl (by (try simp only [List.map_toArray, List.map_cons, List.map_nil]); first | done | rfl | (simp only [List.length_drop, List.length_take]; rfl)) ?_
  (with_reducible refine (laws_toMagazineX.calls k a1_0 _ _ l1_1 true a1_0 extb1_1 _ ?side1 ?side2 (by unfold laws_toMagazineX.f; rw [HTOB1_1.out, Option.bind_some])).mono ?_)
  (case side1 => repeat (first | exact HR1_1.out | exact (Kd.C_below HR1_1.out HB.out) | (with_reducible refine Kd.C_alloc ?_ _) | (with_reducible refine Kd.C_drewN ?_ _) | (with_reducible refine Kd.C_drew ?_)))
  (case side2 => exact HC1_1.out)
  rintro e w_72 ⟨Ao74, no75, co76, rfl, hn, ho, hb⟩
  obtain rfl : no75 = xs1_1.length := hn.bare HXL1_1.out HNB1_1.out
  clear hn
  have ho1 := Aside0.mk (Kd.R_lower (R_span ho) (Nat.le_trans HB.out.size (by repeat (first | (with_reducible first | exact Below.refl _ _ | apply below_alloc | apply pw_below_drewN | apply below_drew1) | exact Below.refl _ _) : Below w_66.heap.size w_66 _).size))
  clear ho
  have HBi := Aside0.mk (below_step (by repeat (first | (with_reducible first | exact Below.refl _ _ | apply below_alloc | apply pw_below_drewN | apply below_drew1) | exact Below.refl _ _)) hb : Below w_66.heap.size w_66 w_72)
  clear hb
  have HBn := Aside0.mk (below_step HB.out HBi.out)
  clear HB
  have HB := HBn
  clear HBn
  have HS77 := Aside0.mk HBi.out.size
  have n0_ := Aside0.mk (blk_below BK2.out HBi.out)
  clear BK2
  have BK2 := n0_
  clear n0_
  have n0_ := Aside0.mk (Kd.R_below HO26.out HBi.out)
  clear HO26
  have HO26 := n0_
  clear n0_
  have n0_ := Aside0.mk (Kd.R_below HO32.out HBi.out)
  clear HO32
  have HO32 := n0_
  clear n0_
  have n0_ := Aside0.mk (blk_below BK38.out HBi.out)
  clear BK38
  have BK38 := n0_
  clear n0_
  have n0_ := Aside0.mk (Kd.R_below HO67.out HBi.out)
  clear HO67
  have HO67 := n0_
  clear n0_
  clear HBi
  have HWw_72 := Aside0.mk HB.out.size
  have HO73 := Aside0.mk (Kd.R_mono (ok' := fun k_ => w_66.heap.size ≤ k_ ∧ k_ < w_72.heap.size) ho1.out (fun k_ hk_ => hk_))
  clear ho1
  refine ⟨_, rfl, ?_⟩
  refine hK.out _ _ ⟨(blk_cell BK2.out 0).trans rfl, (blk_cell BK2.out 1).trans rfl, (blk_cell BK38.out 0).trans rfl, (blk_cell BK38.out 1).trans rfl⟩ (fun hHeld => ?_)
  clear hK K
  refine norm_ (a' := ?_) ?_ ?_
  rotate_left
  · show Act.put _ (some 71) _ = _
    simp only [Act.put, List.setIfInBounds_toArray, List.set_cons_zero, List.set_cons_succ, i64_w, i32_w]
    rfl
  refine one_ (i := 5) (N := some 73) #[true, true, true, true, true, true, false, false, false, false, false] rfl rfl (one_of HT_.out (by kernel_rfl)) (by decide) (fun K hK => ?_)
  refine goes_ Try.func34 (by kernel_rfl) rfl #[.slice Ao68 xs0.length co70, .agg #[.int .i64 a1_0, .slice Ao74 xs1_1.length co76], .string a2] (by rfl) rfl rfl (by (try simp only [List.map_toArray, List.map_cons, List.map_nil]); first | done | rfl | (simp only [List.length_drop, List.length_take]; rfl)) ?_
  (with_reducible refine (impl_RoomFor.calls k _ _ xs0 a1_0 _ _ xs1_1 a2 res_r1 res_r2 _ ?side1 ?side2 ?side3 ?side4 HFimpl.out).mono ?_)
  (case side1 => repeat (first | exact C_ext (Kd.R_reads' HO67.out).2.2 HXB0.out HLB0.out | (with_reducible refine Kd.C_alloc ?_ _) | (with_reducible refine Kd.C_drewN ?_ _) | (with_reducible refine Kd.C_drew ?_)))
  (case side2 => exact Nat.le_trans HLB0.out (Kd.R_reads' HO67.out).2.1)
  (case side3 => repeat (first | exact C_ext (Kd.R_reads' HO73.out).2.2 HXB1_1.out HLB1_1.out | (with_reducible refine Kd.C_alloc ?_ _) | (with_reducible refine Kd.C_drewN ?_ _) | (with_reducible refine Kd.C_drew ?_)))
  (case side4 => exact Nat.le_trans HLB1_1.out (Kd.R_reads' HO73.out).2.1)
  rintro e w_78 ⟨rfl, hb⟩
  have HBi := Aside0.mk (below_step (by repeat (first | (with_reducible first | exact Below.refl _ _ | apply below_alloc | apply pw_below_drewN | apply below_drew1) | exact Below.refl _ _)) hb : Below w_72.heap.size w_72 w_78)
  clear hb
  have HBn := Aside0.mk (below_step HB.out HBi.out)
  clear HB
  have HB := HBn
  clear HBn
  have HS79 := Aside0.mk HBi.out.size
  have n0_ := Aside0.mk (blk_below BK2.out HBi.out)
  clear BK2
  have BK2 := n0_
  clear n0_
  have n0_ := Aside0.mk (Kd.R_below HO26.out HBi.out)
  clear HO26
  have HO26 := n0_
  clear n0_
  have n0_ := Aside0.mk (Kd.R_below HO32.out HBi.out)
  clear HO32
  have HO32 := n0_
  clear n0_
  have n0_ := Aside0.mk (blk_below BK38.out HBi.out)
  clear BK38
  have BK38 := n0_
  clear n0_
  have n0_ := Aside0.mk (Kd.R_below HO67.out HBi.out)
  clear HO67
  have HO67 := n0_
  clear n0_
  have n0_ := Aside0.mk (Kd.R_below HO73.out HBi.out)
  clear HO73
  have HO73 := n0_
  clear n0_
  clear HBi
  have HWw_78 := Aside0.mk HB.out.size
  refine ⟨_, rfl, ?_⟩
  refine hK.out _ _ ⟨(blk_cell BK2.out 0).trans rfl, (blk_cell BK2.out 1).trans rfl, (blk_cell BK38.out 0).trans rfl, (blk_cell BK38.out 1).trans rfl⟩ (fun hHeld => ?_)
  clear hK K
  refine norm_ (a' := ?_) ?_ ?_
  rotate_left
  · show Act.put _ (some 73) _ = _
    simp only [Act.put, List.setIfInBounds_toArray, List.set_cons_zero, List.set_cons_succ, i64_w, i32_w]
    rfl
  refine pure_ (i := 6) (N := some 67) (v := ?_) (a' := ?_) #[true, true, true, true, true, true, true, false, false, false, false] rfl rfl (any_of HT_.out (by kernel_rfl)) (fun _ _ _ h => h) (Or.inl ⟨by rfl, ?_⟩) ?_ ?_
  rotate_left
  · intro w'
    go_simp
    with_reducible rfl
  rotate_left
  · simp only [Act.put, List.setIfInBounds_toArray, List.set_cons_zero, List.set_cons_succ, i64_w, i32_w]
    rfl
  refine pure_ (i := 7) (N := some 74) (v := ?_) (a' := ?_) #[true, true, true, true, true, true, true, true, false, false, false] rfl rfl (any_of HT_.out (by kernel_rfl)) (fun _ _ _ h => h) (Or.inl ⟨by rfl, ?_⟩) ?_ ?_
  rotate_left
  · intro w'
    go_simp
    with_reducible rfl
  rotate_left
  · simp only [Act.put, List.setIfInBounds_toArray, List.set_cons_zero, List.set_cons_succ, i64_w, i32_w]
    rfl
  refine pure_ (i := 8) (N := some 75) (v := ?_) (a' := ?_) #[true, true, true, true, true, true, true, true, true, false, false] rfl rfl (any_of HT_.out (by kernel_rfl)) (fun _ _ _ h => h) (Or.inl ⟨by rfl, ?_⟩) ?_ ?_
  rotate_left
  · intro w'
    go_simp
    with_reducible rfl
  rotate_left
  · simp only [Act.put, List.setIfInBounds_toArray, List.set_cons_zero, List.set_cons_succ, i64_w, i32_w]
    rfl
  refine pure_ (i := 9) (N := some 14) (v := ?_) (a' := ?_) #[true, true, true, true, true, true, true, true, true, true, false] rfl rfl (any_of HT_.out (by kernel_rfl)) (fun _ _ _ h => h) (Or.inl ⟨by rfl, ?_⟩) ?_ ?_
  rotate_left
  · intro w'
    go_simp
    with_reducible rfl
  rotate_left
  · simp only [Act.put, List.setIfInBounds_toArray, List.set_cons_zero, List.set_cons_succ, i64_w, i32_w]
    rfl
  refine pure_ (i := 10) (N := some 15) (v := ?_) (a' := ?_) #[true, true, true, true, true, true, true, true, true, true, true] rfl rfl (any_of HT_.out (by kernel_rfl)) (fun _ _ _ h => h) (Or.inl ⟨by rfl, ?_⟩) ?_ ?_
  rotate_left
  · intro w'
    go_simp
    with_reducible rfl
  rotate_left
  · simp only [Act.put, List.setIfInBounds_toArray, List.set_cons_zero, List.set_cons_succ, i64_w, i32_w]
    rfl
  refine done_ (done_of HT_.out (by kernel_rfl)) ?_
  clear HO67
  clear HO73
  go_wp2
  go_ret
  exact ⟨by first | rfl | (simp; done) | (simp [*]; done), by repeat (first | (with_reducible first | exact HB.out | apply below_alloc | apply pw_below_drewN | apply below_drew1) | exact HB.out)⟩

/-- What is to be told of the answers, for the law to tell true. -/
structure laws_FnExactRoomFor.Facts (k : Nat) (l0 : List (S62)) (a1_0 : Int) (l1_1 : List Int) (a2 : ByteArray) (xs0 : List (S65)) (ext0 : List (S65)) (extb0 : List (S65)) (rm0 : Int) (xs1_1 : List Int) (ext1_1 : List Int) (extb1_1 : List Int) (rm1_1 : Int) (t_1 : Int) (t_2 : Int) (res_r1 : Int) (res_r2 : Int) : Prop where
  hto0 : laws_toArticleSX.f k l0 false = some ext0
  htob0 : laws_toArticleSX.f k l0 true = some extb0
  hxl0 : xs0.length = l0.length
  hnb0 : extb0 = [] → l0.length = 0
  hne0 : ¬ (ext0 = [])
  hxe0 : xs0 = ext0.take xs0.length
  hxb0 : xs0 = extb0.take xs0.length
  hle0 : xs0.length ≤ ext0.length
  hlb0 : xs0.length ≤ extb0.length
  hrm0 : laws_roomBehind.f (xs0.length : Int) = some rm0
  hj0 : wrap64 ((xs0.length : Int) + rm0) = (ext0.length : Int)
  heqx0 : laws_eqArticleS.f k ext0 ext0 = some true
  hto1_1 : laws_toInt64SX.f k l1_1 false = some ext1_1
  htob1_1 : laws_toInt64SX.f k l1_1 true = some extb1_1
  hxl1_1 : xs1_1.length = l1_1.length
  hnb1_1 : extb1_1 = [] → l1_1.length = 0
  hne1_1 : ¬ (ext1_1 = [])
  hxe1_1 : xs1_1 = ext1_1.take xs1_1.length
  hxb1_1 : xs1_1 = extb1_1.take xs1_1.length
  hle1_1 : xs1_1.length ≤ ext1_1.length
  hlb1_1 : xs1_1.length ≤ extb1_1.length
  hrm1_1 : laws_roomBehind.f (xs1_1.length : Int) = some rm1_1
  hj1_1 : wrap64 ((xs1_1.length : Int) + rm1_1) = (ext1_1.length : Int)
  heqx1_1 : laws_eqInt64S.f k ext1_1 ext1_1 = some true
  hz1 : laws_szArticleS.f k l0 (wrap64 (1000000 - ((a2.size : Int)))) = some t_1
  hn1 : decide (t_1 < 0) = false
  hz2 : laws_szMagazine.f a1_0 l1_1 t_1 = some t_2
  hn2 : decide (t_2 < 0) = false
  hfspec : spec_RoomFor.f k xs0 a1_0 xs1_1 a2 = some (res_r1, res_r2)
  hfimpl : impl_RoomFor.f k xs0 a1_0 xs1_1 a2 = some (res_r1, res_r2)
/-- The statement over numbers and lists. -/
def laws_FnExactRoomFor.Pure : Prop := ∀ (l0 : List (S62)) (a1_0 : Int) (l1_1 : List Int) (a2 : ByteArray), (l0.length ≤ 140737488351232) → (l1_1.length ≤ 9223372036854775807) → ((Lit.int .i64 a1_0).wf = true) → (a2.size ≤ 140737488351232) → (∀ x ∈ l0, x.f0.size ≤ maxLen) → 
    (∃ k t_1, laws_szArticleS.f k l0 (wrap64 (1000000 - ((a2.size : Int)))) = some t_1 ∧ decide (t_1 < 0) = true) ∨
    (∃ k t_1 t_2, laws_szArticleS.f k l0 (wrap64 (1000000 - ((a2.size : Int)))) = some t_1 ∧ decide (t_1 < 0) = false ∧ laws_szMagazine.f a1_0 l1_1 t_1 = some t_2 ∧ decide (t_2 < 0) = true) ∨
    (∃ k xs0 ext0 extb0 rm0 xs1_1 ext1_1 extb1_1 rm1_1 t_1 t_2 res_r1 res_r2, laws_FnExactRoomFor.Facts k l0 a1_0 l1_1 a2 xs0 ext0 extb0 rm0 xs1_1 ext1_1 extb1_1 rm1_1 t_1 t_2 res_r1 res_r2)

theorem laws_FnExactRoomFor.walk (P_ : laws_FnExactRoomFor.Pure) (A0 : Option Addr) (c0 : Nat) (l0 : List (S62)) (a1_0 : Int) (A1_1 : Option Addr) (c1_1 : Nat) (l1_1 : List Int) (a2 : ByteArray) (w : World) (hr0 : Kd.C k62 w A0 l0.length l0) (hc0 : l0.length ≤ c0) (hr1_1 : Kd.C (Kd.int .i64) w A1_1 l1_1.length l1_1) (hc1_1 : l1_1.length ≤ c1_1) (wa1_0 : (Lit.int .i64 a1_0).wf = true) (wa2 : a2.size ≤ 140737488351232) (wsl0 : ∀ x ∈ l0, x.f0.size ≤ maxLen) (wl0 : l0.length ≤ 140737488351232) :
    Calls Try.prog 8 #[.slice A0 l0.length c0, .agg #[.int .i64 a1_0, .slice A1_1 l1_1.length c1_1], .string a2] w fun e w' => e = .returned (.bool true) ∧ Below w.heap.size w w' := by
  rcases P_ l0 a1_0 l1_1 a2 wl0 (Kd.C_max hr1_1) wa1_0 wa2 wsl0 with ⟨k, t_1, h0_, h1_⟩ | ⟨k, t_1, t_2, h0_, h1_, h2_, h3_⟩ | ⟨k, xs0, ext0, extb0, rm0, xs1_1, ext1_1, extb1_1, rm1_1, t_1, t_2, res_r1, res_r2, F⟩
  · exact laws_FnExactRoomFor.skip1_ _ _ l0 a1_0 _ _ l1_1 a2 w hr0 hc0 hr1_1 hc1_1 k t_1 h0_ h1_
  · exact laws_FnExactRoomFor.skip2_ _ _ l0 a1_0 _ _ l1_1 a2 w hr0 hc0 hr1_1 hc1_1 k t_1 t_2 h0_ h1_ h2_ h3_
  · exact laws_FnExactRoomFor.true_ k _ _ l0 a1_0 _ _ l1_1 a2 w hr0 hc0 hr1_1 hc1_1 xs0 ext0 extb0 rm0 xs1_1 ext1_1 extb1_1 rm1_1 t_1 t_2 res_r1 res_r2 F.hto0 F.htob0 F.hxl0 F.hnb0 F.hne0 F.hxe0 F.hxb0 F.hle0 F.hlb0 F.hrm0 F.hj0 F.heqx0 F.hto1_1 F.htob1_1 F.hxl1_1 F.hnb1_1 F.hne1_1 F.hxe1_1 F.hxb1_1 F.hle1_1 F.hlb1_1 F.hrm1_1 F.hj1_1 F.heqx1_1 F.hz1 F.hn1 F.hz2 F.hn2 F.hfspec F.hfimpl

end Go.Proofs.Ytdgglhfnlljmeaa.PFnExactRoomFor
