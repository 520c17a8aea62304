/- FnExactTooClose: the parts of the law that look behind a row's length, and the law's walk: with the answers that the functions give, it tells true. -/
import Derived.Test.YtmhnkhealidjjaaQFnExactTooClosex4
namespace Go.Proofs.Ytmhnkhealidjjaa.PFnExactTooClose
open Go.RowKit Go.Proofs.YtmhnkhealidjjaaW.PrintWords Go.Proofs.YtmhnkhealidjjaaW.PrintLast Go.Proofs.YtmhnkhealidjjaaW.PrintMore
attribute [local go_sem] max2_int min2_int max_two min_two max_three min_three max_four min_four   -- for this text's walks alone
set_option linter.unusedVariables false
set_option linter.unusedSimpArgs false
open Go.Proofs.YtmhnkhealidjjaaX

/-! ### laws_intactDepotS, over rows with what lies behind their lengths: function 23 -/
def laws_intactDepotS.T2 : Bool × List (List Nat × List Nat) := (true, [([], []), ([0], [0]), ([], []), ([2], [2]), ([1, 3], [1, 3]), ([4], [4]), ([5], [5]), ([5], [5]), ([6, 7, 5], [5, 6, 7]), ([5], [5]), ([5], [5]), ([9, 10, 5], [5, 9, 10]), ([8, 11, 5, 5], [5, 8, 11]), ([5, 12], [5, 12]), ([13, 12, 0, 1, 2, 3, 4, 5, 6, 7, 8, 9, 10, 11, 12, 13], [13])])
def laws_intactDepotS.B2 : List Nat := [0, 1, 0, 4, 15, 31, 63, 63, 255, 63, 63, 1599, 4095, 8191, 16383]
theorem laws_intactDepotS.tab2 : rtab .any (opsOf Try.f23 2) = laws_intactDepotS.T2 := by kernel_rfl
theorem laws_intactDepotS.bits2 : waitsOk laws_intactDepotS.T2.2 laws_intactDepotS.B2 = true := by kernel_rfl
set_option maxHeartbeats 8000000 in
set_option maxRecDepth 100000 in
theorem laws_intactDepotSX.calls (k : Nat) (A0 : Option Addr) (c0 : Nat) (l0 : List (S51)) (A1 : Option Addr) (c1 : Nat) (l1 : List (S51)) (n0 : Nat) (rm : Int) (r : Bool) (w : World) (hr0 : Kd.C k51 w A0 l0.length l0) (hc0 : l0.length ≤ c0) (hr1 : Kd.C k51 w A1 l1.length l1) (hc1 : l1.length ≤ c1) (hrm : laws_roomBehind.f (n0 : Int) = some rm) (hj : wrap64 ((n0 : Int) + rm) = (l0.length : Int)) (hl : l1.length = l0.length) (h : laws_eqDepotS.f k l0 l1 = some r) :
    Calls Try.prog 23 #[.slice A0 n0 c0, .slice A1 n0 c1] w fun e w' => e = .returned (.bool r) ∧ Below w.heap.size w w' := by
  have HR0 := Aside0.mk hr0
  have HR1 := Aside0.mk hr1
  have HC0 := Aside0.mk hc0
  have HC1 := Aside0.mk hc1
  have HL := Aside0.mk hl
  clear hr0 hr1 hc0 hc1 hl
  have HB := Aside0.mk (Below.refl w.heap.size w)
  obtain ⟨ji5, hji5⟩ : ∃ j_ : Int, j_ = (l0.length : Int) := ⟨_, rfl⟩
  rw [← hji5] at hj
  have HJ := Aside0.mk hji5
  have hji5w : (IntKind.i64.wrap ((n0 : Int) + rm)) = ji5 := (i64_w _).trans hj
  clear hji5
  have A3 := Aside0.mk hrm
  have A10 := Aside0.mk h
  clear hrm h
  go_enter Try.func23, Try.ntmps23
  try go_wp2_with (first | (go_at_call 62; (with_reducible refine (laws_roomBehind.calls (n0 : Int) rm _ A3.out).mono ?_); rintro e w' ⟨rfl, ⟨nd, rfl⟩⟩))
  have n0_ := Aside0.mk (below_drew1 (pw_below_drewN HB.out nd))
  clear HB
  have HB := n0_
  clear n0_
  obtain ⟨i0, hi0, _, hsz0, _⟩ := info_parts info51
  have hcut0 := cut_cap (P := Try.prog) 28 51 .i64 Try.underlying28 hi0 A0 n0 c0 l0.length ji5 HJ.out HC0.out
  have hcut1 := cut_cap (P := Try.prog) 28 51 .i64 Try.underlying28 hi0 A1 n0 c1 l1.length ji5 (HJ.out.trans (by rw [HL.out])) HC1.out
  clear hi0 hsz0
  refine start_ (n := 15) (S := fun w' => True) (ds := []) #[false, false, false, false, false, false, false, false, false, false, false, false, false, false, false] (by kernel_rfl) rfl rfl trivial (fun hHeld => ?_); refine with_tabW laws_intactDepotS.tab2 laws_intactDepotS.bits2 (fun HT_ HW_ => ?_)
  try generalize (w.drewN nd).drew = w11 at HB hHeld ⊢
  refine pure_ (i := 0) (N := some 12) (v := ?_) (a' := ?_) #[true, false, false, false, false, false, false, false, false, false, false, false, false, false, false] rfl rfl (any_of HT_.out (by kernel_rfl)) (fun _ _ _ h => h) (Or.inl ⟨by rfl, ?_⟩) ?_ ?_
  rotate_left
  · intro w'
    go_simp
    with_reducible rfl
  rotate_left
  · simp only [Act.put, List.setIfInBounds_toArray, List.set_cons_zero, List.set_cons_succ, i64_w, i32_w]
    rfl
  refine pure_ (i := 1) (N := some 13) (v := ?_) (a' := ?_) #[true, true, false, false, false, false, false, false, false, false, false, false, false, false, false] rfl rfl (any_of HT_.out (by kernel_rfl)) (fun _ _ _ h => h) (Or.inl ⟨by rfl, ?_⟩) ?_ ?_
  rotate_left
  · intro w'
    go_simp
    with_reducible rfl
  rotate_left
  · simp only [Act.put, List.setIfInBounds_toArray, List.set_cons_zero, List.set_cons_succ, i64_w, i32_w]
    rfl
  refine pure_ (i := 2) (N := some 14) (v := ?_) (a' := ?_) #[true, true, true, false, false, false, false, false, false, false, false, false, false, false, false] rfl rfl (any_of HT_.out (by kernel_rfl)) (fun _ _ _ h => h) (Or.inl ⟨by rfl, ?_⟩) ?_ ?_
  rotate_left
  · intro w'
    go_simp
    with_reducible rfl
  rotate_left
  · simp only [Act.put, List.setIfInBounds_toArray, List.set_cons_zero, List.set_cons_succ, i64_w, i32_w]
    rfl
  refine pure_ (i := 3) (N := some 15) (v := ?_) (a' := ?_) #[true, true, true, true, false, false, false, false, false, false, false, false, false, false, false] rfl rfl (any_of HT_.out (by kernel_rfl)) (fun _ _ _ h => h) (Or.inl ⟨by rfl, ?_⟩) ?_ ?_
  rotate_left
  · intro w'
    go_simp
    with_reducible rfl
  rotate_left
  · simp only [Act.put, List.setIfInBounds_toArray, List.set_cons_zero, List.set_cons_succ, i64_w, i32_w]
    rfl
  refine pure_ (i := 4) (N := some 16) (v := ?_) (a' := ?_) #[true, true, true, true, true, false, false, false, false, false, false, false, false, false, false] rfl rfl (any_of HT_.out (by kernel_rfl)) (fun _ _ _ h => h) (Or.inl ⟨by rfl, ?_⟩) ?_ ?_
  rotate_left
  · intro w'
    go_simp
    with_reducible rfl
  rotate_left
  · simp only [Act.put, List.setIfInBounds_toArray, List.set_cons_zero, List.set_cons_succ, i64_w, i32_w]
    rfl
  refine pure_ (i := 5) (N := some 17) (v := ?_) (a' := ?_) #[true, true, true, true, true, true, false, false, false, false, false, false, false, false, false] rfl rfl (any_of HT_.out (by kernel_rfl)) (fun _ _ _ h => h) (Or.inl ⟨by rfl, ?_⟩) ?_ ?_
  rotate_left
  · intro w'
    go_simp
    with_reducible rfl
  rotate_left
  · simp only [Act.put, List.setIfInBounds_toArray, List.set_cons_zero, List.set_cons_succ, i64_w, i32_w]
    rfl
  refine pure_ (i := 6) (N := some 18) (v := ?_) (a' := ?_) #[true, true, true, true, true, true, true, false, false, false, false, false, false, false, false] rfl rfl (any_of HT_.out (by kernel_rfl)) (fun _ _ _ h => h) (Or.inl ⟨by rfl, ?_⟩) ?_ ?_
  rotate_left
  · intro w'
    go_simp
    with_reducible rfl
  rotate_left
  · simp only [Act.put, List.setIfInBounds_toArray, List.set_cons_zero, List.set_cons_succ, i64_w, i32_w]
    rfl
  refine pure_ (i := 7) (N := some 19) (v := ?_) (a' := ?_) #[true, true, true, true, true, true, true, true, false, false, false, false, false, false, false] rfl rfl (any_of HT_.out (by kernel_rfl)) (fun _ _ _ h => h) (Or.inl ⟨by rfl, ?_⟩) ?_ ?_
  rotate_left
  · intro w'
    go_simp
    with_reducible rfl
  rotate_left
  · simp only [Act.put, List.setIfInBounds_toArray, List.set_cons_zero, List.set_cons_succ, i64_w, i32_w]
    rfl
  refine pure_ (i := 8) (N := some 20) (v := ?_) (a' := ?_) #[true, true, true, true, true, true, true, true, true, false, false, false, false, false, false] rfl rfl (any_of HT_.out (by kernel_rfl)) (fun _ _ _ h => h) (Or.inl ⟨by rfl, ?_⟩) ?_ ?_
  rotate_left
  · intro w'
    go_simp
    with_reducible rfl
  rotate_left
  · simp only [Act.put, List.setIfInBounds_toArray, List.set_cons_zero, List.set_cons_succ, i64_w, i32_w]
    rfl
  refine pure_ (i := 9) (N := some 21) (v := ?_) (a' := ?_) #[true, true, true, true, true, true, true, true, true, true, false, false, false, false, false] rfl rfl (any_of HT_.out (by kernel_rfl)) (fun _ _ _ h => h) (Or.inl ⟨by rfl, ?_⟩) ?_ ?_
  rotate_left
  · intro w'
    go_simp
    with_reducible rfl
  rotate_left
  · simp only [Act.put, List.setIfInBounds_toArray, List.set_cons_zero, List.set_cons_succ, i64_w, i32_w]
    rfl
  refine pure_ (i := 10) (N := some 22) (v := ?_) (a' := ?_) #[true, true, true, true, true, true, true, true, true, true, true, false, false, false, false] rfl rfl (any_of HT_.out (by kernel_rfl)) (fun _ _ _ h => h) (Or.inl ⟨by rfl, ?_⟩) ?_ ?_
  rotate_left
  · intro w'
    go_simp
    with_reducible rfl
  rotate_left
  · simp only [Act.put, List.setIfInBounds_toArray, List.set_cons_zero, List.set_cons_succ, i64_w, i32_w]
    rfl
  refine pure_ (i := 11) (N := some 23) (v := ?_) (a' := ?_) #[true, true, true, true, true, true, true, true, true, true, true, true, false, false, false] rfl rfl (any_of HT_.out (by kernel_rfl)) (fun _ _ _ h => h) (Or.inl ⟨by rfl, ?_⟩) ?_ ?_
  rotate_left
  · intro w'
    go_simp
    with_reducible rfl
  rotate_left
  · simp only [Act.put, List.setIfInBounds_toArray, List.set_cons_zero, List.set_cons_succ, i64_w, i32_w]
    rfl
  refine one_ (i := 12) (N := some 24) #[true, true, true, true, true, true, true, true, true, true, true, true, true, false, false] rfl rfl (one_of HT_.out (by kernel_rfl)) (by decide) (fun K hK => ?_)
  refine goes_ Try.func35 (by kernel_rfl) rfl #[.slice A0 l0.length c0, .slice A1 l1.length c1] (by rfl) rfl rfl (by (try simp only [List.map_toArray, List.map_cons, List.map_nil]); first | done | rfl | (simp only [List.length_drop, List.length_take]; rfl)) ?_
  with_reducible refine (laws_eqDepotS.calls k _ _ l0 _ _ l1 r _ ?side1 ?side2 ?side3 ?side4 A10.out).mono ?_
  (case side1 => repeat (first | exact HR0.out | exact (Kd.C_below HR0.out HB.out) | (with_reducible refine Kd.C_alloc ?_ _) | (with_reducible refine Kd.C_drewN ?_ _) | (with_reducible refine Kd.C_drew ?_)))
  (case side2 => exact HC0.out)
  (case side3 => repeat (first | exact HR1.out | exact (Kd.C_below HR1.out HB.out) | (with_reducible refine Kd.C_alloc ?_ _) | (with_reducible refine Kd.C_drewN ?_ _) | (with_reducible refine Kd.C_drew ?_)))
  (case side4 => exact HC1.out)
  rintro e w14 ⟨rfl, hd⟩
  have hb : Below _ _ w14 := hd
  refine ⟨_, rfl, ?_⟩
  have n0_ := Aside0.mk (below_step (by repeat (first | (with_reducible first | exact HB.out | exact Below.refl _ _ | apply below_alloc | apply pw_below_drewN | apply below_drew1) | exact HB.out)) hb)
  clear HB hb hd
  have HB := n0_
  clear n0_
  refine hK.out _ _ trivial (fun hHeld => ?_)
  clear hK K
  refine norm_ (a' := ?_) ?_ ?_
  rotate_left
  · show Act.put _ (some 24) _ = _
    simp only [Act.put, List.setIfInBounds_toArray, List.set_cons_zero, List.set_cons_succ, i64_w, i32_w]
    rfl
  refine pure_ (i := 13) (N := some 25) (v := ?_) (a' := ?_) #[true, true, true, true, true, true, true, true, true, true, true, true, true, true, false] rfl rfl (any_of HT_.out (by kernel_rfl)) (fun _ _ _ h => h) (Or.inl ⟨by rfl, ?_⟩) ?_ ?_
  rotate_left
  · intro w'
    go_simp
    with_reducible rfl
  rotate_left
  · simp only [Act.put, List.setIfInBounds_toArray, List.set_cons_zero, List.set_cons_succ, i64_w, i32_w]
    rfl
  refine pure_ (i := 14) (N := some 4) (v := ?_) (a' := ?_) #[true, true, true, true, true, true, true, true, true, true, true, true, true, true, true] rfl rfl (any_of HT_.out (by kernel_rfl)) (fun _ _ _ h => h) (Or.inl ⟨by rfl, ?_⟩) ?_ ?_
  rotate_left
  · intro w'
    go_simp
    with_reducible rfl
  rotate_left
  · simp only [Act.put, List.setIfInBounds_toArray, List.set_cons_zero, List.set_cons_succ, i64_w, i32_w]
    rfl
  refine done_ (done_of HT_.out (by kernel_rfl)) ?_
  try go_wp2
  go_ret
  exact ⟨by first | rfl | (simp [errW_none, errW_some] <;> rfl) | (simp [*, errW_none, errW_some] <;> rfl), by repeat (first | (with_reducible first | exact HB.out | apply below_alloc | apply pw_below_drewN | apply below_drew1) | exact HB.out)⟩

/-! ### the law: function 13 -/
set_option maxHeartbeats 8000000 in
set_option maxRecDepth 100000 in
theorem laws_FnExactTooClose.skip1_ (A0 : Option Addr) (c0 : Nat) (l0 : List (S65)) (a1 : Int) (w : World) (hr0 : Kd.C k65 w A0 l0.length l0) (hc0 : l0.length ≤ c0) (t_1 : Int) (hz1_ : laws_szDepotS.f l0 1000000 = some t_1) (hn_ : decide (t_1 < 0) = true) :
    Calls Try.prog 13 #[.slice A0 l0.length c0, .int .i64 a1] w fun e w' => e = .returned (.bool true) ∧ Below w.heap.size w w' := by
  have HR0 := Aside0.mk hr0
  have HC0 := Aside0.mk hc0
  clear hr0 hc0
  have HZ1 := Aside0.mk hz1_
  have HN := Aside0.mk hn_
  clear hz1_ hn_
  have HB := Aside0.mk (Below.refl w.heap.size w)
  go_enter Try.func13, Try.ntmps13
  go_wp2_with (fail)
  go_at_call 19
  (with_reducible refine (laws_szDepotS.calls _ _ l0 1000000 t_1 _ ?side1 ?side2 HZ1.out).mono ?_)
  (case side1 => repeat (first | exact HR0.out | exact (Kd.C_below HR0.out HB.out) | (with_reducible refine Kd.C_alloc ?_ _) | (with_reducible refine Kd.C_drewN ?_ _) | (with_reducible refine Kd.C_drew ?_)))
  (case side2 => exact HC0.out)
  rintro e w_1 ⟨rfl, hd⟩
  have hb := hd.below
  clear hd
  have HBi := Aside0.mk (below_step (by repeat (first | (with_reducible first | exact Below.refl _ _ | apply below_alloc | apply pw_below_drewN | apply below_drew1) | exact Below.refl _ _)) hb : Below w.heap.size w w_1)
  clear hb
  have HBn := Aside0.mk (below_step HB.out HBi.out)
  clear HB
  have HB := HBn
  clear HBn
  have HS2 := Aside0.mk HBi.out.size
  clear HBi
  have HWw_1 := Aside0.mk HB.out.size
  have hn_ := HN.out
  go_wp2
  go_ret
  exact ⟨by first | rfl | (simp; done) | (simp [*]; done), by repeat (first | (with_reducible first | exact HB.out | apply below_alloc | apply pw_below_drewN | apply below_drew1) | exact HB.out)⟩
set_option maxHeartbeats 8000000 in
set_option maxRecDepth 100000 in
theorem laws_FnExactTooClose.true_ (k : Nat) (A0 : Option Addr) (c0 : Nat) (l0 : List (S65)) (a1 : Int) (w : World) (hr0 : Kd.C k65 w A0 l0.length l0) (hc0 : l0.length ≤ c0) (xs0 ext0 extb0 : List (S51)) (rm0 : Int) (t_1 : Int) (ws_r1 : List (List Int)) (res_r2 : Int) (gs_r1 : List (List Int)) (mk_0 : Int) (ml_0 : List (S51)) (mk_1 : Int) (ml_1 : List (List Int)) (hto0_ : laws_toDepotSX.f k l0 false = some ext0) (htob0_ : laws_toDepotSX.f k l0 true = some extb0) (hxl0_ : xs0.length = l0.length) (hnb0_ : extb0 = [] → l0.length = 0) (hne0_ : ¬ (ext0 = [])) (hxe0_ : xs0 = ext0.take xs0.length) (hxb0_ : xs0 = extb0.take xs0.length) (hle0_ : xs0.length ≤ ext0.length) (hlb0_ : xs0.length ≤ extb0.length) (hrm0_ : laws_roomBehind.f (xs0.length : Int) = some rm0) (hj0_ : wrap64 ((xs0.length : Int) + rm0) = (ext0.length : Int)) (heqx0_ : laws_eqDepotS.f k ext0 ext0 = some true) (hz1_ : laws_szDepotS.f l0 1000000 = some t_1) (hn1_ : decide (t_1 < 0) = false) (hfspec_ : spec_TooClose.f k xs0 a1 = some (ws_r1, res_r2)) (hfimpl_ : impl_TooClose.f k xs0 a1 = some (gs_r1, res_r2)) (he_gs_r1_ws_r1_ : laws_eqInt64SS.f k gs_r1 ws_r1 = some true) (hm0_ : laws_markDepotS.f k xs0 101 = some (mk_0, ml_0)) (hmn0_ : decide (mk_0 < 0) = false) (hm1_ : laws_markInt64SS.f k gs_r1 101 = some (mk_1, ml_1)) (hmn1_ : decide (mk_1 < 0) = false) (hml1_ : gs_r1.length = ml_1.length) (hh_ml_1_ : laws_heldInt64SS.f k ml_1 101 = some mk_1) :
    Calls Try.prog 13 #[.slice A0 l0.length c0, .int .i64 a1] w fun e w' => e = .returned (.bool true) ∧ Below w.heap.size w w' := by
  have HR0 := Aside0.mk hr0
  have HC0 := Aside0.mk hc0
  clear hr0 hc0
  have HTO0 := Aside0.mk hto0_
  have HTOB0 := Aside0.mk htob0_
  have HXL0 := Aside0.mk hxl0_
  have HNB0 := Aside0.mk hnb0_
  have HNE0 := Aside0.mk hne0_
  have HXE0 := Aside0.mk hxe0_
  have HXB0 := Aside0.mk hxb0_
  have HLE0 := Aside0.mk hle0_
  have HLB0 := Aside0.mk hlb0_
  have HRM0 := Aside0.mk hrm0_
  have HJ0 := Aside0.mk hj0_
  have HEQX0 := Aside0.mk heqx0_
  have HZ1 := Aside0.mk hz1_
  have HN1 := Aside0.mk hn1_
  have HFspec := Aside0.mk hfspec_
  have HFimpl := Aside0.mk hfimpl_
  have HE_gs_r1_ws_r1 := Aside0.mk he_gs_r1_ws_r1_
  have HM0 := Aside0.mk hm0_
  have HMN0 := Aside0.mk hmn0_
  have HM1 := Aside0.mk hm1_
  have HMN1 := Aside0.mk hmn1_
  have HML1 := Aside0.mk hml1_
  have HH_ml_1 := Aside0.mk hh_ml_1_
  clear hto0_ htob0_ hxl0_ hnb0_ hne0_ hxe0_ hxb0_ hle0_ hlb0_ hrm0_ hj0_ heqx0_ hz1_ hn1_ hfspec_ hfimpl_ he_gs_r1_ws_r1_ hm0_ hmn0_ hm1_ hmn1_ hml1_ hh_ml_1_
  have HB := Aside0.mk (Below.refl w.heap.size w)
  go_enter Try.func13, Try.ntmps13
  go_wp2_with (fail)
  go_at_call 19
  (with_reducible refine (laws_szDepotS.calls _ _ l0 1000000 t_1 _ ?side1 ?side2 HZ1.out).mono ?_)
  (case side1 => repeat (first | exact HR0.out | exact (Kd.C_below HR0.out HB.out) | (with_reducible refine Kd.C_alloc ?_ _) | (with_reducible refine Kd.C_drewN ?_ _) | (with_reducible refine Kd.C_drew ?_)))
  (case side2 => exact HC0.out)
  rintro e w_1 ⟨rfl, hd⟩
  have hb := hd.below
  clear hd
  have HBi := Aside0.mk (below_step (by repeat (first | (with_reducible first | exact Below.refl _ _ | apply below_alloc | apply pw_below_drewN | apply below_drew1) | exact Below.refl _ _)) hb : Below w.heap.size w w_1)
  clear hb
  have HBn := Aside0.mk (below_step HB.out HBi.out)
  clear HB
  have HB := HBn
  clear HBn
  have HS2 := Aside0.mk HBi.out.size
  clear HBi
  have HWw_1 := Aside0.mk HB.out.size
  have hn_ := HN1.out
  go_wp2_with (fail)
  clear hn_
  go_wp2_with (fail)
  go_at_call 21
  (with_reducible refine (laws_toDepotSX.calls k _ _ l0 false ext0 _ ?side1 ?side2 HTO0.out).mono ?_)
  (case side1 => repeat (first | exact HR0.out | exact (Kd.C_below HR0.out HB.out) | (with_reducible refine Kd.C_alloc ?_ _) | (with_reducible refine Kd.C_drewN ?_ _) | (with_reducible refine Kd.C_drew ?_)))
  (case side2 => exact HC0.out)
  rintro e w_3 ⟨Ao5, no6, co7, rfl, hn, ho, hb⟩
  obtain rfl : no6 = xs0.length := hn.full HXL0.out HNE0.out
  clear hn
  have ho1 := Aside0.mk (Kd.R_lower (R_span ho) (Nat.le_trans HB.out.size (by repeat (first | (with_reducible first | exact Below.refl _ _ | apply below_alloc | apply pw_below_drewN | apply below_drew1) | exact Below.refl _ _) : Below w_1.heap.size w_1 _).size))
  clear ho
  have HBi := Aside0.mk (below_step (by repeat (first | (with_reducible first | exact Below.refl _ _ | apply below_alloc | apply pw_below_drewN | apply below_drew1) | exact Below.refl _ _)) hb : Below w_1.heap.size w_1 w_3)
  clear hb
  have HBn := Aside0.mk (below_step HB.out HBi.out)
  clear HB
  have HB := HBn
  clear HBn
  have HS8 := Aside0.mk HBi.out.size
  clear HBi
  have HWw_3 := Aside0.mk HB.out.size
  have HO4 := Aside0.mk (Kd.R_mono (ok' := fun k_ => w_1.heap.size ≤ k_ ∧ k_ < w_3.heap.size) ho1.out (fun k_ hk_ => hk_))
  clear ho1
  go_wp2_with (fail)
  go_at_call 44
  (with_reducible refine (spec_TooClose.calls k _ _ xs0 a1 ws_r1 res_r2 _ ?side1 ?side2 HFspec.out).mono ?_)
  (case side1 => repeat (first | exact C_ext (Kd.R_reads' HO4.out).2.2 HXE0.out HLE0.out | (with_reducible refine Kd.C_alloc ?_ _) | (with_reducible refine Kd.C_drewN ?_ _) | (with_reducible refine Kd.C_drew ?_)))
  (case side2 => exact Nat.le_trans HLE0.out (Kd.R_reads' HO4.out).2.1)
  rintro e w_9 ⟨v_10, rfl, ho, hb⟩
  have ho1 := Aside0.mk (Kd.S_lower (base' := w.heap.size) (Kd.S_mono (ok' := fun k_ => w_3.heap.size ≤ k_ ∧ k_ < w_9.heap.size) (Kd.S_bound ho) (fun k_ hk_ => ⟨Nat.le_trans (by repeat (first | (with_reducible first | exact Below.refl _ _ | apply below_alloc | apply pw_below_drewN | apply below_drew1) | exact Below.refl _ _) : Below w_3.heap.size w_3 _).size hk_.2.1, hk_.2.2.1⟩)) (Nat.le_trans HB.out.size (by repeat (first | (with_reducible first | exact Below.refl _ _ | apply below_alloc | apply pw_below_drewN | apply below_drew1) | exact Below.refl _ _) : Below w_3.heap.size w_3 _).size))
  clear ho
  have HBi := Aside0.mk (below_step (by repeat (first | (with_reducible first | exact Below.refl _ _ | apply below_alloc | apply pw_below_drewN | apply below_drew1) | exact Below.refl _ _)) hb : Below w_3.heap.size w_3 w_9)
  clear hb
  have HBn := Aside0.mk (below_step HB.out HBi.out)
  clear HB
  have HB := HBn
  clear HBn
  have HS15 := Aside0.mk HBi.out.size
  have n0_ := Aside0.mk (Kd.R_below HO4.out HBi.out)
  clear HO4
  have HO4 := n0_
  clear n0_
  clear HBi
  have HWw_9 := Aside0.mk HB.out.size
  obtain ⟨Ao12, co13, eo14⟩ := Kd.S_slice ho1.out
  subst eo14
  have HO11 := ho1
  clear ho1
  clear HO4
  go_wp2_with (fail)
  go_at_call 21
  (with_reducible refine (laws_toDepotSX.calls k _ _ l0 false ext0 _ ?side1 ?side2 HTO0.out).mono ?_)
  (case side1 => repeat (first | exact HR0.out | exact (Kd.C_below HR0.out HB.out) | (with_reducible refine Kd.C_alloc ?_ _) | (with_reducible refine Kd.C_drewN ?_ _) | (with_reducible refine Kd.C_drew ?_)))
  (case side2 => exact HC0.out)
  rintro e w_16 ⟨Ao18, no19, co20, rfl, hn, ho, hb⟩
  obtain rfl : no19 = xs0.length := hn.full HXL0.out HNE0.out
  clear hn
  have ho1 := Aside0.mk (Kd.R_lower (R_span ho) (Nat.le_trans HB.out.size (by repeat (first | (with_reducible first | exact Below.refl _ _ | apply below_alloc | apply pw_below_drewN | apply below_drew1) | exact Below.refl _ _) : Below w_9.heap.size w_9 _).size))
  clear ho
  have HBi := Aside0.mk (below_step (by repeat (first | (with_reducible first | exact Below.refl _ _ | apply below_alloc | apply pw_below_drewN | apply below_drew1) | exact Below.refl _ _)) hb : Below w_9.heap.size w_9 w_16)
  clear hb
  have HBn := Aside0.mk (below_step HB.out HBi.out)
  clear HB
  have HB := HBn
  clear HBn
  have HS21 := Aside0.mk HBi.out.size
  have n0_ := Aside0.mk (Kd.S_below HO11.out HBi.out)
  clear HO11
  have HO11 := n0_
  clear n0_
  clear HBi
  have HWw_16 := Aside0.mk HB.out.size
  have HO17 := Aside0.mk (Kd.R_mono (ok' := fun k_ => w_9.heap.size ≤ k_ ∧ k_ < w_16.heap.size) ho1.out (fun k_ hk_ => hk_))
  clear ho1
  go_wp2_with (fail)
  go_at_call 45
  (with_reducible refine (impl_TooClose.calls k _ _ xs0 a1 gs_r1 res_r2 _ ?side1 ?side2 HFimpl.out).mono ?_)
  (case side1 => repeat (first | exact C_ext (Kd.R_reads' HO17.out).2.2 HXE0.out HLE0.out | (with_reducible refine Kd.C_alloc ?_ _) | (with_reducible refine Kd.C_drewN ?_ _) | (with_reducible refine Kd.C_drew ?_)))
  (case side2 => exact Nat.le_trans HLE0.out (Kd.R_reads' HO17.out).2.1)
  rintro e w_22 ⟨v_23, rfl, ho, hb⟩
  have ho1 := Aside0.mk (Kd.S_lower (base' := w.heap.size) (Kd.S_mono (ok' := fun k_ => w_16.heap.size ≤ k_ ∧ k_ < w_22.heap.size) (Kd.S_bound ho) (fun k_ hk_ => ⟨Nat.le_trans (by repeat (first | (with_reducible first | exact Below.refl _ _ | apply below_alloc | apply pw_below_drewN | apply below_drew1) | exact Below.refl _ _) : Below w_16.heap.size w_16 _).size hk_.2.1, hk_.2.2.1⟩)) (Nat.le_trans HB.out.size (by repeat (first | (with_reducible first | exact Below.refl _ _ | apply below_alloc | apply pw_below_drewN | apply below_drew1) | exact Below.refl _ _) : Below w_16.heap.size w_16 _).size))
  clear ho
  have HBi := Aside0.mk (below_step (by repeat (first | (with_reducible first | exact Below.refl _ _ | apply below_alloc | apply pw_below_drewN | apply below_drew1) | exact Below.refl _ _)) hb : Below w_16.heap.size w_16 w_22)
  clear hb
  have HBn := Aside0.mk (below_step HB.out HBi.out)
  clear HB
  have HB := HBn
  clear HBn
  have HS28 := Aside0.mk HBi.out.size
  have n0_ := Aside0.mk (Kd.S_below HO11.out HBi.out)
  clear HO11
  have HO11 := n0_
  clear n0_
  have n0_ := Aside0.mk (Kd.R_below HO17.out HBi.out)
  clear HO17
  have HO17 := n0_
  clear n0_
  clear HBi
  have HWw_22 := Aside0.mk HB.out.size
  obtain ⟨Ao25, co26, eo27⟩ := Kd.S_slice ho1.out
  subst eo27
  have HO24 := ho1
  clear ho1
  go_wp2_with (fail)
  go_at_call 46
  (with_reducible refine (laws_eqInt64SS.calls k _ _ gs_r1 _ _ ws_r1 true _ ?side1 ?side2 ?side3 ?side4 HE_gs_r1_ws_r1.out).mono ?_)
  (case side1 => repeat (first | exact (Kd.S_reads' HO24.out).2.2 | (with_reducible refine Kd.C_alloc ?_ _) | (with_reducible refine Kd.C_drewN ?_ _) | (with_reducible refine Kd.C_drew ?_)))
  (case side2 => exact (Kd.S_reads' HO24.out).2.1)
  (case side3 => repeat (first | exact (Kd.S_reads' HO11.out).2.2 | (with_reducible refine Kd.C_alloc ?_ _) | (with_reducible refine Kd.C_drewN ?_ _) | (with_reducible refine Kd.C_drew ?_)))
  (case side4 => exact (Kd.S_reads' HO11.out).2.1)
  rintro e w_29 ⟨rfl, hd⟩
  have hb := hd.below
  clear hd
  have HBi := Aside0.mk (below_step (by repeat (first | (with_reducible first | exact Below.refl _ _ | apply below_alloc | apply pw_below_drewN | apply below_drew1) | exact Below.refl _ _)) hb : Below w_22.heap.size w_22 w_29)
  clear hb
  have HBn := Aside0.mk (below_step HB.out HBi.out)
  clear HB
  have HB := HBn
  clear HBn
  have HS30 := Aside0.mk HBi.out.size
  have n0_ := Aside0.mk (Kd.S_below HO11.out HBi.out)
  clear HO11
  have HO11 := n0_
  clear n0_
  have n0_ := Aside0.mk (Kd.R_below HO17.out HBi.out)
  clear HO17
  have HO17 := n0_
  clear n0_
  have n0_ := Aside0.mk (Kd.S_below HO24.out HBi.out)
  clear HO24
  have HO24 := n0_
  clear n0_
  clear HBi
  have HWw_29 := Aside0.mk HB.out.size
  go_wp2_with (fail)
  go_at_call 21
  (with_reducible refine (laws_toDepotSX.calls k _ _ l0 false ext0 _ ?side1 ?side2 HTO0.out).mono ?_)
  (case side1 => repeat (first | exact HR0.out | exact (Kd.C_below HR0.out HB.out) | (with_reducible refine Kd.C_alloc ?_ _) | (with_reducible refine Kd.C_drewN ?_ _) | (with_reducible refine Kd.C_drew ?_)))
  (case side2 => exact HC0.out)
  rintro e w_31 ⟨Ao33, no34, co35, rfl, hn, ho, hb⟩
  obtain rfl : no34 = xs0.length := hn.full HXL0.out HNE0.out
  clear hn
  have ho1 := Aside0.mk (Kd.R_lower (R_span ho) (Nat.le_trans HB.out.size (by repeat (first | (with_reducible first | exact Below.refl _ _ | apply below_alloc | apply pw_below_drewN | apply below_drew1) | exact Below.refl _ _) : Below w_29.heap.size w_29 _).size))
  clear ho
  have HBi := Aside0.mk (below_step (by repeat (first | (with_reducible first | exact Below.refl _ _ | apply below_alloc | apply pw_below_drewN | apply below_drew1) | exact Below.refl _ _)) hb : Below w_29.heap.size w_29 w_31)
  clear hb
  have HBn := Aside0.mk (below_step HB.out HBi.out)
  clear HB
  have HB := HBn
  clear HBn
  have HS36 := Aside0.mk HBi.out.size
  have n0_ := Aside0.mk (Kd.S_below HO11.out HBi.out)
  clear HO11
  have HO11 := n0_
  clear n0_
  have n0_ := Aside0.mk (Kd.R_below HO17.out HBi.out)
  clear HO17
  have HO17 := n0_
  clear n0_
  have n0_ := Aside0.mk (Kd.S_below HO24.out HBi.out)
  clear HO24
  have HO24 := n0_
  clear n0_
  clear HBi
  have HWw_31 := Aside0.mk HB.out.size
  have HO32 := Aside0.mk (Kd.R_mono (ok' := fun k_ => w_29.heap.size ≤ k_ ∧ k_ < w_31.heap.size) ho1.out (fun k_ hk_ => hk_))
  clear ho1
  go_wp2_with (fail)
  go_at_call 23
  (with_reducible refine (laws_intactDepotSX.calls k _ _ ext0 _ _ ext0 xs0.length rm0 true _ ?side1 ?side2 ?side3 ?side4 HRM0.out HJ0.out rfl HEQX0.out).mono ?_)
  (case side1 => repeat (first | exact (Kd.R_reads' HO17.out).2.2 | (with_reducible refine Kd.C_alloc ?_ _) | (with_reducible refine Kd.C_drewN ?_ _) | (with_reducible refine Kd.C_drew ?_)))
  (case side2 => exact (Kd.R_reads' HO17.out).2.1)
  (case side3 => repeat (first | exact (Kd.R_reads' HO32.out).2.2 | (with_reducible refine Kd.C_alloc ?_ _) | (with_reducible refine Kd.C_drewN ?_ _) | (with_reducible refine Kd.C_drew ?_)))
  (case side4 => exact (Kd.R_reads' HO32.out).2.1)
  rintro e w_37 ⟨rfl, hb⟩
  have HBi := Aside0.mk (below_step (by repeat (first | (with_reducible first | exact Below.refl _ _ | apply below_alloc | apply pw_below_drewN | apply below_drew1) | exact Below.refl _ _)) hb : Below w_31.heap.size w_31 w_37)
  clear hb
  have HBn := Aside0.mk (below_step HB.out HBi.out)
  clear HB
  have HB := HBn
  clear HBn
  have HS38 := Aside0.mk HBi.out.size
  have n0_ := Aside0.mk (Kd.S_below HO11.out HBi.out)
  clear HO11
  have HO11 := n0_
  clear n0_
  have n0_ := Aside0.mk (Kd.R_below HO17.out HBi.out)
  clear HO17
  have HO17 := n0_
  clear n0_
  have n0_ := Aside0.mk (Kd.S_below HO24.out HBi.out)
  clear HO24
  have HO24 := n0_
  clear n0_
  have n0_ := Aside0.mk (Kd.R_below HO32.out HBi.out)
  clear HO32
  have HO32 := n0_
  clear n0_
  clear HBi
  have HWw_37 := Aside0.mk HB.out.size
  clear HO32
  go_wp2_with (fail)
  go_at_call 36
  (with_reducible refine (laws_markDepotS.calls k (fun k_ => w_9.heap.size ≤ k_ ∧ k_ < w_16.heap.size) (.slice Ao18 xs0.length co20) xs0 101 mk_0 ml_0 w _ ?side1 ?side2 HM0.out).mono ?_)
  (case side1 => repeat (first | (with_reducible first | exact HB.out | apply below_alloc | apply pw_below_drewN | apply below_drew1) | exact HB.out))
  (case side2 => (with_reducible repeat (first | apply Kd.R_alloc | apply Kd.R_drewN | apply Kd.R_drew)); exact (R_ext HO17.out HXE0.out HLE0.out))
  rintro e w_39 ⟨rfl, hy, hb, hk⟩
  have hk1 := Aside0.mk (Kept.then_ (Kept.of_below (by repeat (first | (with_reducible first | exact Below.refl _ _ | apply below_alloc | apply pw_below_drewN | apply below_drew1) | exact Below.refl _ _) : Below w_37.heap.size w_37 _) (fun k_ => w_9.heap.size ≤ k_ ∧ k_ < w_16.heap.size)) hk (fun _ h_ => .inl h_))
  clear hk
  have hy1 := Aside0.mk hy
  clear hy
  clear HB
  have HB := Aside0.mk hb
  clear hb
  have HS40 := Aside0.mk hk1.out.1
  have n0_ := Aside0.mk (Kd.S_kept HO11.out hk1.out (fun k_ (h1_ : w_3.heap.size ≤ k_ ∧ k_ < w_9.heap.size) (h2_ : w_9.heap.size ≤ k_ ∧ k_ < w_16.heap.size) => by have sHS2 := HS2.out; have sHS8 := HS8.out; have sHS15 := HS15.out; have sHS21 := HS21.out; have sHS28 := HS28.out; have sHS30 := HS30.out; have sHS36 := HS36.out; have sHS38 := HS38.out; have sHS40 := HS40.out; omega))
  clear HO11
  have HO11 := n0_
  clear n0_
  have n0_ := Aside0.mk (Kd.S_kept HO24.out hk1.out (fun k_ (h1_ : w_16.heap.size ≤ k_ ∧ k_ < w_22.heap.size) (h2_ : w_9.heap.size ≤ k_ ∧ k_ < w_16.heap.size) => by have sHS2 := HS2.out; have sHS8 := HS8.out; have sHS15 := HS15.out; have sHS21 := HS21.out; have sHS28 := HS28.out; have sHS30 := HS30.out; have sHS36 := HS36.out; have sHS38 := HS38.out; have sHS40 := HS40.out; omega))
  clear HO24
  have HO24 := n0_
  clear n0_
  have HWw_39 := Aside0.mk HB.out.size
  clear hy1 hk1
  clear HO17
  have hn_ := HMN0.out
  go_wp2_with (fail)
  clear hn_
  go_wp2_with (fail)
  go_at_call 46
  (with_reducible refine (laws_eqInt64SS.calls k _ _ gs_r1 _ _ ws_r1 true _ ?side1 ?side2 ?side3 ?side4 HE_gs_r1_ws_r1.out).mono ?_)
  (case side1 => repeat (first | exact (Kd.S_reads' HO24.out).2.2 | (with_reducible refine Kd.C_alloc ?_ _) | (with_reducible refine Kd.C_drewN ?_ _) | (with_reducible refine Kd.C_drew ?_)))
  (case side2 => exact (Kd.S_reads' HO24.out).2.1)
  (case side3 => repeat (first | exact (Kd.S_reads' HO11.out).2.2 | (with_reducible refine Kd.C_alloc ?_ _) | (with_reducible refine Kd.C_drewN ?_ _) | (with_reducible refine Kd.C_drew ?_)))
  (case side4 => exact (Kd.S_reads' HO11.out).2.1)
  rintro e w_41 ⟨rfl, hd⟩
  have hb := hd.below
  clear hd
  have HBi := Aside0.mk (below_step (by repeat (first | (with_reducible first | exact Below.refl _ _ | apply below_alloc | apply pw_below_drewN | apply below_drew1) | exact Below.refl _ _)) hb : Below w_39.heap.size w_39 w_41)
  clear hb
  have HBn := Aside0.mk (below_step HB.out HBi.out)
  clear HB
  have HB := HBn
  clear HBn
  have HS42 := Aside0.mk HBi.out.size
  have n0_ := Aside0.mk (Kd.S_below HO11.out HBi.out)
  clear HO11
  have HO11 := n0_
  clear n0_
  have n0_ := Aside0.mk (Kd.S_below HO24.out HBi.out)
  clear HO24
  have HO24 := n0_
  clear n0_
  clear HBi
  have HWw_41 := Aside0.mk HB.out.size
  go_wp2_with (fail)
  go_at_call 47
  (with_reducible refine (laws_markInt64SS.calls k (fun k_ => w_16.heap.size ≤ k_ ∧ k_ < w_22.heap.size) (.slice Ao25 gs_r1.length co26) gs_r1 101 mk_1 ml_1 w _ ?side1 ?side2 HM1.out).mono ?_)
  (case side1 => repeat (first | (with_reducible first | exact HB.out | apply below_alloc | apply pw_below_drewN | apply below_drew1) | exact HB.out))
  (case side2 => (with_reducible repeat (first | apply Kd.S_alloc | apply Kd.S_drewN | apply Kd.S_drew)); exact HO24.out)
  rintro e w_43 ⟨rfl, hy, hb, hk⟩
  have hk1 := Aside0.mk (Kept.then_ (Kept.of_below (by repeat (first | (with_reducible first | exact Below.refl _ _ | apply below_alloc | apply pw_below_drewN | apply below_drew1) | exact Below.refl _ _) : Below w_41.heap.size w_41 _) (fun k_ => w_16.heap.size ≤ k_ ∧ k_ < w_22.heap.size)) hk (fun _ h_ => .inl h_))
  clear hk
  have hy1 := Aside0.mk hy
  clear hy
  clear HB
  have HB := Aside0.mk hb
  clear hb
  have HS44 := Aside0.mk hk1.out.1
  have n0_ := Aside0.mk (Kd.S_kept HO11.out hk1.out (fun k_ (h1_ : w_3.heap.size ≤ k_ ∧ k_ < w_9.heap.size) (h2_ : w_16.heap.size ≤ k_ ∧ k_ < w_22.heap.size) => by have sHS2 := HS2.out; have sHS8 := HS8.out; have sHS15 := HS15.out; have sHS21 := HS21.out; have sHS28 := HS28.out; have sHS30 := HS30.out; have sHS36 := HS36.out; have sHS38 := HS38.out; have sHS40 := HS40.out; have sHS42 := HS42.out; have sHS44 := HS44.out; omega))
  clear HO11
  have HO11 := n0_
  clear n0_
  have HWw_43 := Aside0.mk HB.out.size
  have n0_ := hy1
  clear HO24
  have hl_ := HML1.out
  rw [hl_] at n0_
  try simp only [hl_]
  clear hl_
  have HO24 := n0_
  clear n0_ hy1 hk1
  go_wp2_with (fail)
  go_at_call 48
  (with_reducible refine (laws_heldInt64SS.calls k _ _ ml_1 101 mk_1 _ ?side1 ?side2 HH_ml_1.out).mono ?_)
  (case side1 => repeat (first | exact (Kd.S_reads' HO24.out).2.2 | (with_reducible refine Kd.C_alloc ?_ _) | (with_reducible refine Kd.C_drewN ?_ _) | (with_reducible refine Kd.C_drew ?_)))
  (case side2 => exact (Kd.S_reads' HO24.out).2.1)
  rintro e w_45 ⟨rfl, hd⟩
  have hb := hd.below
  clear hd
  have HBi := Aside0.mk (below_step (by repeat (first | (with_reducible first | exact Below.refl _ _ | apply below_alloc | apply pw_below_drewN | apply below_drew1) | exact Below.refl _ _)) hb : Below w_43.heap.size w_43 w_45)
  clear hb
  have HBn := Aside0.mk (below_step HB.out HBi.out)
  clear HB
  have HB := HBn
  clear HBn
  have HS46 := Aside0.mk HBi.out.size
  have n0_ := Aside0.mk (Kd.S_below HO11.out HBi.out)
  clear HO11
  have HO11 := n0_
  clear n0_
  have n0_ := Aside0.mk (Kd.S_below HO24.out HBi.out)
  clear HO24
  have HO24 := n0_
  clear n0_
  clear HBi
  have HWw_45 := Aside0.mk HB.out.size
  have hn_ := HMN1.out
  go_wp2_with (fail)
  clear hn_
  go_wp2_with (fail)
  go_at_call 21
  (with_reducible refine (laws_toDepotSX.calls k _ _ l0 true extb0 _ ?side1 ?side2 HTOB0.out).mono ?_)
  (case side1 => repeat (first | exact HR0.out | exact (Kd.C_below HR0.out HB.out) | (with_reducible refine Kd.C_alloc ?_ _) | (with_reducible refine Kd.C_drewN ?_ _) | (with_reducible refine Kd.C_drew ?_)))
  (case side2 => exact HC0.out)
  rintro e w_47 ⟨Ao49, no50, co51, rfl, hn, ho, hb⟩
  obtain rfl : no50 = xs0.length := hn.bare HXL0.out HNB0.out
  clear hn
  have ho1 := Aside0.mk (Kd.R_lower (R_span ho) (Nat.le_trans HB.out.size (by repeat (first | (with_reducible first | exact Below.refl _ _ | apply below_alloc | apply pw_below_drewN | apply below_drew1) | exact Below.refl _ _) : Below w_45.heap.size w_45 _).size))
  clear ho
  have HBi := Aside0.mk (below_step (by repeat (first | (with_reducible first | exact Below.refl _ _ | apply below_alloc | apply pw_below_drewN | apply below_drew1) | exact Below.refl _ _)) hb : Below w_45.heap.size w_45 w_47)
  clear hb
  have HBn := Aside0.mk (below_step HB.out HBi.out)
  clear HB
  have HB := HBn
  clear HBn
  have HS52 := Aside0.mk HBi.out.size
  have n0_ := Aside0.mk (Kd.S_below HO11.out HBi.out)
  clear HO11
  have HO11 := n0_
  clear n0_
  have n0_ := Aside0.mk (Kd.S_below HO24.out HBi.out)
  clear HO24
  have HO24 := n0_
  clear n0_
  clear HBi
  have HWw_47 := Aside0.mk HB.out.size
  have HO48 := Aside0.mk (Kd.R_mono (ok' := fun k_ => w_45.heap.size ≤ k_ ∧ k_ < w_47.heap.size) ho1.out (fun k_ hk_ => hk_))
  clear ho1
  go_wp2_with (fail)
  go_at_call 45
  (with_reducible refine (impl_TooClose.calls k _ _ xs0 a1 gs_r1 res_r2 _ ?side1 ?side2 HFimpl.out).mono ?_)
  (case side1 => repeat (first | exact C_ext (Kd.R_reads' HO48.out).2.2 HXB0.out HLB0.out | (with_reducible refine Kd.C_alloc ?_ _) | (with_reducible refine Kd.C_drewN ?_ _) | (with_reducible refine Kd.C_drew ?_)))
  (case side2 => exact Nat.le_trans HLB0.out (Kd.R_reads' HO48.out).2.1)
  rintro e w_53 ⟨v_54, rfl, ho, hb⟩
  have ho1 := Aside0.mk (Kd.S_lower (base' := w.heap.size) (Kd.S_mono (ok' := fun k_ => w_47.heap.size ≤ k_ ∧ k_ < w_53.heap.size) (Kd.S_bound ho) (fun k_ hk_ => ⟨Nat.le_trans (by repeat (first | (with_reducible first | exact Below.refl _ _ | apply below_alloc | apply pw_below_drewN | apply below_drew1) | exact Below.refl _ _) : Below w_47.heap.size w_47 _).size hk_.2.1, hk_.2.2.1⟩)) (Nat.le_trans HB.out.size (by repeat (first | (with_reducible first | exact Below.refl _ _ | apply below_alloc | apply pw_below_drewN | apply below_drew1) | exact Below.refl _ _) : Below w_47.heap.size w_47 _).size))
  clear ho
  have HBi := Aside0.mk (below_step (by repeat (first | (with_reducible first | exact Below.refl _ _ | apply below_alloc | apply pw_below_drewN | apply below_drew1) | exact Below.refl _ _)) hb : Below w_47.heap.size w_47 w_53)
  clear hb
  have HBn := Aside0.mk (below_step HB.out HBi.out)
  clear HB
  have HB := HBn
  clear HBn
  have HS59 := Aside0.mk HBi.out.size
  have n0_ := Aside0.mk (Kd.S_below HO11.out HBi.out)
  clear HO11
  have HO11 := n0_
  clear n0_
  have n0_ := Aside0.mk (Kd.S_below HO24.out HBi.out)
  clear HO24
  have HO24 := n0_
  clear n0_
  have n0_ := Aside0.mk (Kd.R_below HO48.out HBi.out)
  clear HO48
  have HO48 := n0_
  clear n0_
  clear HBi
  have HWw_53 := Aside0.mk HB.out.size
  obtain ⟨Ao56, co57, eo58⟩ := Kd.S_slice ho1.out
  subst eo58
  have HO55 := ho1
  clear ho1
  clear HO48
  go_wp2_with (fail)
  go_at_call 46
  (with_reducible refine (laws_eqInt64SS.calls k _ _ gs_r1 _ _ ws_r1 true _ ?side1 ?side2 ?side3 ?side4 HE_gs_r1_ws_r1.out).mono ?_)
  (case side1 => repeat (first | exact (Kd.S_reads' HO55.out).2.2 | (with_reducible refine Kd.C_alloc ?_ _) | (with_reducible refine Kd.C_drewN ?_ _) | (with_reducible refine Kd.C_drew ?_)))
  (case side2 => exact (Kd.S_reads' HO55.out).2.1)
  (case side3 => repeat (first | exact (Kd.S_reads' HO11.out).2.2 | (with_reducible refine Kd.C_alloc ?_ _) | (with_reducible refine Kd.C_drewN ?_ _) | (with_reducible refine Kd.C_drew ?_)))
  (case side4 => exact (Kd.S_reads' HO11.out).2.1)
  rintro e w_60 ⟨rfl, hd⟩
  have hb := hd.below
  clear hd
  have HBi := Aside0.mk (below_step (by repeat (first | (with_reducible first | exact Below.refl _ _ | apply below_alloc | apply pw_below_drewN | apply below_drew1) | exact Below.refl _ _)) hb : Below w_53.heap.size w_53 w_60)
  clear hb
  have HBn := Aside0.mk (below_step HB.out HBi.out)
  clear HB
  have HB := HBn
  clear HBn
  have HS61 := Aside0.mk HBi.out.size
  have n0_ := Aside0.mk (Kd.S_below HO11.out HBi.out)
  clear HO11
  have HO11 := n0_
  clear n0_
  have n0_ := Aside0.mk (Kd.S_below HO24.out HBi.out)
  clear HO24
  have HO24 := n0_
  clear n0_
  have n0_ := Aside0.mk (Kd.S_below HO55.out HBi.out)
  clear HO55
  have HO55 := n0_
  clear n0_
  clear HBi
  have HWw_60 := Aside0.mk HB.out.size
  go_wp2_with (fail)
  go_at_call 48
  (with_reducible refine (laws_heldInt64SS.calls k _ _ ml_1 101 mk_1 _ ?side1 ?side2 HH_ml_1.out).mono ?_)
  (case side1 => repeat (first | exact (Kd.S_reads' HO24.out).2.2 | (with_reducible refine Kd.C_alloc ?_ _) | (with_reducible refine Kd.C_drewN ?_ _) | (with_reducible refine Kd.C_drew ?_)))
  (case side2 => exact (Kd.S_reads' HO24.out).2.1)
  rintro e w_62 ⟨rfl, hd⟩
  have hb := hd.below
  clear hd
  have HBi := Aside0.mk (below_step (by repeat (first | (with_reducible first | exact Below.refl _ _ | apply below_alloc | apply pw_below_drewN | apply below_drew1) | exact Below.refl _ _)) hb : Below w_60.heap.size w_60 w_62)
  clear hb
  have HBn := Aside0.mk (below_step HB.out HBi.out)
  clear HB
  have HB := HBn
  clear HBn
  have HS63 := Aside0.mk HBi.out.size
  have n0_ := Aside0.mk (Kd.S_below HO11.out HBi.out)
  clear HO11
  have HO11 := n0_
  clear n0_
  have n0_ := Aside0.mk (Kd.S_below HO24.out HBi.out)
  clear HO24
  have HO24 := n0_
  clear n0_
  have n0_ := Aside0.mk (Kd.S_below HO55.out HBi.out)
  clear HO55
  have HO55 := n0_
  clear n0_
  clear HBi
  have HWw_62 := Aside0.mk HB.out.size
  have hn_ := HMN1.out
  go_wp2_with (fail)
  clear hn_
  go_wp2
  go_ret
  exact ⟨by first | rfl | (simp; done) | (simp [*]; done), by repeat (first | (with_reducible first | exact HB.out | apply below_alloc | apply pw_below_drewN | apply below_drew1) | exact HB.out)⟩

/-- What is to be told of the answers, for the law to tell true. -/
structure laws_FnExactTooClose.Facts (k : Nat) (l0 : List (S65)) (a1 : Int) (xs0 : List (S51)) (ext0 : List (S51)) (extb0 : List (S51)) (rm0 : Int) (t_1 : Int) (ws_r1 : List (List Int)) (res_r2 : Int) (gs_r1 : List (List Int)) (mk_0 : Int) (ml_0 : List (S51)) (mk_1 : Int) (ml_1 : List (List Int)) : Prop where
  hto0 : laws_toDepotSX.f k l0 false = some ext0
  htob0 : laws_toDepotSX.f k l0 true = some extb0
  hxl0 : xs0.length = l0.length
  hnb0 : extb0 = [] → l0.length = 0
  hne0 : ¬ (ext0 = [])
  hxe0 : xs0 = ext0.take xs0.length
  hxb0 : xs0 = extb0.take xs0.length
  hle0 : xs0.length ≤ ext0.length
  hlb0 : xs0.length ≤ extb0.length
  hrm0 : laws_roomBehind.f (xs0.length : Int) = some rm0
  hj0 : wrap64 ((xs0.length : Int) + rm0) = (ext0.length : Int)
  heqx0 : laws_eqDepotS.f k ext0 ext0 = some true
  hz1 : laws_szDepotS.f l0 1000000 = some t_1
  hn1 : decide (t_1 < 0) = false
  hfspec : spec_TooClose.f k xs0 a1 = some (ws_r1, res_r2)
  hfimpl : impl_TooClose.f k xs0 a1 = some (gs_r1, res_r2)
  he_gs_r1_ws_r1 : laws_eqInt64SS.f k gs_r1 ws_r1 = some true
  hm0 : laws_markDepotS.f k xs0 101 = some (mk_0, ml_0)
  hmn0 : decide (mk_0 < 0) = false
  hm1 : laws_markInt64SS.f k gs_r1 101 = some (mk_1, ml_1)
  hmn1 : decide (mk_1 < 0) = false
  hml1 : gs_r1.length = ml_1.length
  hh_ml_1 : laws_heldInt64SS.f k ml_1 101 = some mk_1
/-- The statement over numbers and lists. -/
def laws_FnExactTooClose.Pure : Prop := ∀ (l0 : List (S65)) (a1 : Int), (l0.length ≤ 9223372036854775807) → ((Lit.int .i64 a1).wf = true) → 
    (∃ t_1, laws_szDepotS.f l0 1000000 = some t_1 ∧ decide (t_1 < 0) = true) ∨
    (∃ k xs0 ext0 extb0 rm0 t_1 ws_r1 res_r2 gs_r1 mk_0 ml_0 mk_1 ml_1, laws_FnExactTooClose.Facts k l0 a1 xs0 ext0 extb0 rm0 t_1 ws_r1 res_r2 gs_r1 mk_0 ml_0 mk_1 ml_1)

theorem laws_FnExactTooClose.walk (P_ : laws_FnExactTooClose.Pure) (A0 : Option Addr) (c0 : Nat) (l0 : List (S65)) (a1 : Int) (w : World) (hr0 : Kd.C k65 w A0 l0.length l0) (hc0 : l0.length ≤ c0) (wa1 : (Lit.int .i64 a1).wf = true) :
    Calls Try.prog 13 #[.slice A0 l0.length c0, .int .i64 a1] w fun e w' => e = .returned (.bool true) ∧ Below w.heap.size w w' := by
  rcases P_ l0 a1 (Kd.C_max hr0) wa1 with ⟨t_1, h0_, h1_⟩ | ⟨k, xs0, ext0, extb0, rm0, t_1, ws_r1, res_r2, gs_r1, mk_0, ml_0, mk_1, ml_1, F⟩
  · exact laws_FnExactTooClose.skip1_ _ _ l0 a1 w hr0 hc0 t_1 h0_ h1_
  · exact laws_FnExactTooClose.true_ k _ _ l0 a1 w hr0 hc0 xs0 ext0 extb0 rm0 t_1 ws_r1 res_r2 gs_r1 mk_0 ml_0 mk_1 ml_1 F.hto0 F.htob0 F.hxl0 F.hnb0 F.hne0 F.hxe0 F.hxb0 F.hle0 F.hlb0 F.hrm0 F.hj0 F.heqx0 F.hz1 F.hn1 F.hfspec F.hfimpl F.he_gs_r1_ws_r1 F.hm0 F.hmn0 F.hm1 F.hmn1 F.hml1 F.hh_ml_1

end Go.Proofs.Ytmhnkhealidjjaa.PFnExactTooClose
