/- FnExactAddTry: the parts of the law that look behind a row's length, and the law's walk: with the answers that the functions give, it tells true. -/
import Derived.Test.YthnpffomoaeeoaaQFnExactAddTryx7
namespace Go.Proofs.Ythnpffomoaeeoaa.PFnExactAddTry
open Go.RowKit Go.Proofs.YthnpffomoaeeoaaW.PrintWords Go.Proofs.YthnpffomoaeeoaaW.PrintLast Go.Proofs.YthnpffomoaeeoaaW.PrintMore
attribute [local go_sem] max2_int min2_int max_two min_two max_three min_three max_four min_four   -- for this text's walks alone
set_option linter.unusedVariables false
set_option linter.unusedSimpArgs false
open Go.Proofs.YthnpffomoaeeoaaX

/-! ### laws_intactTryS, over rows with what lies behind their lengths: function 17 -/
def laws_intactTryS.T2 : Bool × List (List Nat × List Nat) := (true, [([], []), ([0], [0]), ([], []), ([2], [2]), ([1, 3], [1, 3]), ([4], [4]), ([5], [5]), ([5], [5]), ([6, 7, 5], [5, 6, 7]), ([5], [5]), ([5], [5]), ([9, 10, 5], [5, 9, 10]), ([8, 11, 5, 5], [5, 8, 11]), ([5, 12], [5, 12]), ([13, 12, 0, 1, 2, 3, 4, 5, 6, 7, 8, 9, 10, 11, 12, 13], [13])])
def laws_intactTryS.B2 : List Nat := [0, 1, 0, 4, 15, 31, 63, 63, 255, 63, 63, 1599, 4095, 8191, 16383]
theorem laws_intactTryS.tab2 : rtab .any (opsOf Try.f17 2) = laws_intactTryS.T2 := by kernel_rfl
theorem laws_intactTryS.bits2 : waitsOk laws_intactTryS.T2.2 laws_intactTryS.B2 = true := by kernel_rfl
set_option maxHeartbeats 8000000 in
set_option maxRecDepth 100000 in
theorem laws_intactTrySX.calls (k : Nat) (A0 : Option Addr) (c0 : Nat) (l0 : List (S36)) (A1 : Option Addr) (c1 : Nat) (l1 : List (S36)) (n0 : Nat) (rm : Int) (r : Bool) (w : World) (hr0 : Kd.C k36 w A0 l0.length l0) (hc0 : l0.length ≤ c0) (hr1 : Kd.C k36 w A1 l1.length l1) (hc1 : l1.length ≤ c1) (hrm : laws_roomBehind.f (n0 : Int) = some rm) (hj : wrap64 ((n0 : Int) + rm) = (l0.length : Int)) (hl : l1.length = l0.length) (h : laws_eqTryS.f k l0 l1 = some r) :
    Calls Try.prog 17 #[.slice A0 n0 c0, .slice A1 n0 c1] w fun e w' => e = .returned (.bool r) ∧ Below w.heap.size w w' := by
  have HR0 := Aside0.mk hr0
  have HR1 := Aside0.mk hr1
  have HC0 := Aside0.mk hc0
  have HC1 := Aside0.mk hc1
  have HL := Aside0.mk hl
  clear hr0 hr1 hc0 hc1 hl
  have HB := Aside0.mk (Below.refl w.heap.size w)
  obtain ⟨ji5, hji5⟩ : ∃ j_ : Int, j_ = (l0.length : Int) := ⟨_, rfl⟩
  rw [← hji5] at hj
  have HJ := Aside0.mk hji5
  have hji5w : (IntKind.i64.wrap ((n0 : Int) + rm)) = ji5 := (i64_w _).trans hj
  clear hji5
  have A3 := Aside0.mk hrm
  have A10 := Aside0.mk h
  clear hrm h
  go_enter Try.func17, Try.ntmps17
  try go_wp2_with (first | (go_at_call 49; (with_reducible refine (laws_roomBehind.calls (n0 : Int) rm _ A3.out).mono ?_); rintro e w' ⟨rfl, ⟨nd, rfl⟩⟩))
  have n0_ := Aside0.mk (below_drew1 (pw_below_drewN HB.out nd))
  clear HB
  have HB := n0_
  clear n0_
  obtain ⟨i0, hi0, _, hsz0, _⟩ := info_parts info36
  have hcut0 := cut_cap (P := Try.prog) 25 36 .i64 Try.underlying25 hi0 A0 n0 c0 l0.length ji5 HJ.out HC0.out
  have hcut1 := cut_cap (P := Try.prog) 25 36 .i64 Try.underlying25 hi0 A1 n0 c1 l1.length ji5 (HJ.out.trans (by rw [HL.out])) HC1.out
  clear hi0 hsz0
  refine start_ (n := 15) (S := fun w' => True) (ds := []) #[false, false, false, false, false, false, false, false, false, false, false, false, false, false, false] (by kernel_rfl) rfl rfl trivial (fun hHeld => ?_); refine with_tabW laws_intactTryS.tab2 laws_intactTryS.bits2 (fun HT_ HW_ => ?_)
  try generalize (w.drewN nd).drew = w11 at HB hHeld ⊢
  refine pure_ (i := 0) (N := some 12) (v := ?_) (a' := ?_) #[true, false, false, false, false, false, false, false, false, false, false, false, false, false, false] rfl rfl (any_of HT_.out (by kernel_rfl)) (fun _ _ _ h => h) (Or.inl ⟨by rfl, ?_⟩) ?_ ?_
  rotate_left
  · intro w'
    go_simp
    with_reducible rfl
  rotate_left
  · simp only [Act.put, List.setIfInBounds_toArray, List.set_cons_zero, List.set_cons_succ, i64_w, i32_w]
    rfl
  refine pure_ (i := 1) (N := some 13) (v := ?_) (a' := ?_) #[true, true, false, false, false, false, false, false, false, false, false, false, false, false, false] rfl rfl (any_of HT_.out (by kernel_rfl)) (fun _ _ _ h => h) (Or.inl ⟨by rfl, ?_⟩) ?_ ?_
  rotate_left
  · intro w'
    go_simp
    with_reducible rfl
  rotate_left
  · simp only [Act.put, List.setIfInBounds_toArray, List.set_cons_zero, List.set_cons_succ, i64_w, i32_w]
    rfl
  refine pure_ (i := 2) (N := some 14) (v := ?_) (a' := ?_) #[true, true, true, false, false, false, false, false, false, false, false, false, false, false, false] rfl rfl (any_of HT_.out (by kernel_rfl)) (fun _ _ _ h => h) (Or.inl ⟨by rfl, ?_⟩) ?_ ?_
  rotate_left
  · intro w'
    go_simp
    with_reducible rfl
  rotate_left
  · simp only [Act.put, List.setIfInBounds_toArray, List.set_cons_zero, List.set_cons_succ, i64_w, i32_w]
    rfl
  refine pure_ (i := 3) (N := some 15) (v := ?_) (a' := ?_) #[true, true, true, true, false, false, false, false, false, false, false, false, false, false, false] rfl rfl (any_of HT_.out (by kernel_rfl)) (fun _ _ _ h => h) (Or.inl ⟨by rfl, ?_⟩) ?_ ?_
  rotate_left
  · intro w'
    go_simp
    with_reducible rfl
  rotate_left
  · simp only [Act.put, List.setIfInBounds_toArray, List.set_cons_zero, List.set_cons_succ, i64_w, i32_w]
    rfl
  refine pure_ (i := 4) (N := some 16) (v := ?_) (a' := ?_) #[true, true, true, true, true, false, false, false, false, false, false, false, false, false, false] rfl rfl (any_of HT_.out (by kernel_rfl)) (fun _ _ _ h => h) (Or.inl ⟨by rfl, ?_⟩) ?_ ?_
  rotate_left
  · intro w'
    go_simp
    with_reducible rfl
  rotate_left
  · simp only [Act.put, List.setIfInBounds_toArray, List.set_cons_zero, List.set_cons_succ, i64_w, i32_w]
    rfl
  refine pure_ (i := 5) (N := some 17) (v := ?_) (a' := ?_) #[true, true, true, true, true, true, false, false, false, false, false, false, false, false, false] rfl rfl (any_of HT_.out (by kernel_rfl)) (fun _ _ _ h => h) (Or.inl ⟨by rfl, ?_⟩) ?_ ?_
  rotate_left
  · intro w'
    go_simp
    with_reducible rfl
  rotate_left
  · simp only [Act.put, List.setIfInBounds_toArray, List.set_cons_zero, List.set_cons_succ, i64_w, i32_w]
    rfl
  refine pure_ (i := 6) (N := some 18) (v := ?_) (a' := ?_) #[true, true, true, true, true, true, true, false, false, false, false, false, false, false, false] rfl rfl (any_of HT_.out (by kernel_rfl)) (fun _ _ _ h => h) (Or.inl ⟨by rfl, ?_⟩) ?_ ?_
  rotate_left
  · intro w'
    go_simp
    with_reducible rfl
  rotate_left
  · simp only [Act.put, List.setIfInBounds_toArray, List.set_cons_zero, List.set_cons_succ, i64_w, i32_w]
    rfl
  refine pure_ (i := 7) (N := some 19) (v := ?_) (a' := ?_) #[true, true, true, true, true, true, true, true, false, false, false, false, false, false, false] rfl rfl (any_of HT_.out (by kernel_rfl)) (fun _ _ _ h => h) (Or.inl ⟨by rfl, ?_⟩) ?_ ?_
  rotate_left
  · intro w'
    go_simp
    with_reducible rfl
  rotate_left
  · simp only [Act.put, List.setIfInBounds_toArray, List.set_cons_zero, List.set_cons_succ, i64_w, i32_w]
    rfl
  refine pure_ (i := 8) (N := some 20) (v := ?_) (a' := ?_) #[true, true, true, true, true, true, true, true, true, false, false, false, false, false, false] rfl rfl (any_of HT_.out (by kernel_rfl)) (fun _ _ _ h => h) (Or.inl ⟨by rfl, ?_⟩) ?_ ?_
  rotate_left
  · intro w'
    go_simp
    with_reducible rfl
  rotate_left
  · simp only [Act.put, List.setIfInBounds_toArray, List.set_cons_zero, List.set_cons_succ, i64_w, i32_w]
    rfl
  refine pure_ (i := 9) (N := some 21) (v := ?_) (a' := ?_) #[true, true, true, true, true, true, true, true, true, true, false, false, false, false, false] rfl rfl (any_of HT_.out (by kernel_rfl)) (fun _ _ _ h => h) (Or.inl ⟨by rfl, ?_⟩) ?_ ?_
  rotate_left
  · intro w'
    go_simp
    with_reducible rfl
  rotate_left
  · simp only [Act.put, List.setIfInBounds_toArray, List.set_cons_zero, List.set_cons_succ, i64_w, i32_w]
    rfl
  refine pure_ (i := 10) (N := some 22) (v := ?_) (a' := ?_) #[true, true, true, true, true, true, true, true, true, true, true, false, false, false, false] rfl rfl (any_of HT_.out (by kernel_rfl)) (fun _ _ _ h => h) (Or.inl ⟨by rfl, ?_⟩) ?_ ?_
  rotate_left
  · intro w'
    go_simp
    with_reducible rfl
  rotate_left
  · simp only [Act.put, List.setIfInBounds_toArray, List.set_cons_zero, List.set_cons_succ, i64_w, i32_w]
    rfl
  refine pure_ (i := 11) (N := some 23) (v := ?_) (a' := ?_) #[true, true, true, true, true, true, true, true, true, true, true, true, false, false, false] rfl rfl (any_of HT_.out (by kernel_rfl)) (fun _ _ _ h => h) (Or.inl ⟨by rfl, ?_⟩) ?_ ?_
  rotate_left
  · intro w'
    go_simp
    with_reducible rfl
  rotate_left
  · simp only [Act.put, List.setIfInBounds_toArray, List.set_cons_zero, List.set_cons_succ, i64_w, i32_w]
    rfl
  refine one_ (i := 12) (N := some 24) #[true, true, true, true, true, true, true, true, true, true, true, true, true, false, false] rfl rfl (one_of HT_.out (by kernel_rfl)) (by decide) (fun K hK => ?_)
  refine goes_ Try.func25 (by kernel_rfl) rfl #[.slice A0 l0.length c0, .slice A1 l1.length c1] (by rfl) rfl rfl (by (try simp only [List.map_toArray, List.map_cons, List.map_nil]); first | done | rfl | (simp only [List.length_drop, List.length_take]; rfl)) ?_
  with_reducible refine (laws_eqTryS.calls k _ _ l0 _ _ l1 r _ ?side1 ?side2 ?side3 ?side4 A10.out).mono ?_
  (case side1 => repeat (first | exact HR0.out | exact (Kd.C_below HR0.out HB.out) | (with_reducible refine Kd.C_alloc ?_ _) | (with_reducible refine Kd.C_drewN ?_ _) | (with_reducible refine Kd.C_drew ?_)))
  (case side2 => exact HC0.out)
  (case side3 => repeat (first | exact HR1.out | exact (Kd.C_below HR1.out HB.out) | (with_reducible refine Kd.C_alloc ?_ _) | (with_reducible refine Kd.C_drewN ?_ _) | (with_reducible refine Kd.C_drew ?_)))
  (case side4 => exact HC1.out)
  rintro e w14 ⟨rfl, hd⟩
  have hb : Below _ _ w14 := hd
  refine ⟨_, rfl, ?_⟩
  have n0_ := Aside0.mk (below_step (by repeat (first | (with_reducible first | exact HB.out | exact Below.refl _ _ | apply below_alloc | apply pw_below_drewN | apply below_drew1) | exact HB.out)) hb)
  clear HB hb hd
  have HB := n0_
  clear n0_
  refine hK.out _ _ trivial (fun hHeld => ?_)
  clear hK K
  refine norm_ (a' := ?_) ?_ ?_
  rotate_left
  · show Act.put _ (some 24) _ = _
    simp only [Act.put, List.setIfInBounds_toArray, List.set_cons_zero, List.set_cons_succ, i64_w, i32_w]
    rfl
  refine pure_ (i := 13) (N := some 25) (v := ?_) (a' := ?_) #[true, true, true, true, true, true, true, true, true, true, true, true, true, true, false] rfl rfl (any_of HT_.out (by kernel_rfl)) (fun _ _ _ h => h) (Or.inl ⟨by rfl, ?_⟩) ?_ ?_
  rotate_left
  · intro w'
    go_simp
    with_reducible rfl
  rotate_left
  · simp only [Act.put, List.setIfInBounds_toArray, List.set_cons_zero, List.set_cons_succ, i64_w, i32_w]
    rfl
  refine pure_ (i := 14) (N := some 4) (v := ?_) (a' := ?_) #[true, true, true, true, true, true, true, true, true, true, true, true, true, true, true] rfl rfl (any_of HT_.out (by kernel_rfl)) (fun _ _ _ h => h) (Or.inl ⟨by rfl, ?_⟩) ?_ ?_
  rotate_left
  · intro w'
    go_simp
    with_reducible rfl
  rotate_left
  · simp only [Act.put, List.setIfInBounds_toArray, List.set_cons_zero, List.set_cons_succ, i64_w, i32_w]
    rfl
  refine done_ (done_of HT_.out (by kernel_rfl)) ?_
  try go_wp2
  go_ret
  exact ⟨by first | rfl | (simp [errW_none, errW_some] <;> rfl) | (simp [*, errW_none, errW_some] <;> rfl), by repeat (first | (with_reducible first | exact HB.out | apply below_alloc | apply pw_below_drewN | apply below_drew1) | exact HB.out)⟩

/-! ### the law: function 6 -/
def laws_FnExactAddTry.T5 : Bool × List (List Nat × List Nat) := (true, [([], []), ([0], [0]), ([], []), ([2, 1], [2]), ([1, 3, 3], [1, 3]), ([4], [4]), ([5], [5]), ([5], [5]), ([6, 4, 0, 1, 2, 3, 4, 5, 6], [6]), ([7, 8, 0, 1, 2, 3, 4, 5, 6, 7, 8], [7])])
def laws_FnExactAddTry.B5 : List Nat := [0, 1, 0, 7, 15, 31, 63, 63, 127, 511]
theorem laws_FnExactAddTry.tab5 : rtab .any (opsOf Try.f6 5) = laws_FnExactAddTry.T5 := by kernel_rfl
theorem laws_FnExactAddTry.bits5 : waitsOk laws_FnExactAddTry.T5.2 laws_FnExactAddTry.B5 = true := by kernel_rfl
def laws_FnExactAddTry.T24 : Bool × List (List Nat × List Nat) := (true, [([], []), ([0], [0]), ([], []), ([2, 1], [2]), ([1, 3, 3], [1, 3]), ([4], [4]), ([5], [5]), ([5], [5]), ([6, 4, 0, 1, 2, 3, 4, 5, 6], [6]), ([7, 8, 0, 1, 2, 3, 4, 5, 6, 7, 8], [7])])
def laws_FnExactAddTry.B24 : List Nat := [0, 1, 0, 7, 15, 31, 63, 63, 127, 511]
theorem laws_FnExactAddTry.tab24 : rtab .any (opsOf Try.f6 24) = laws_FnExactAddTry.T24 := by kernel_rfl
theorem laws_FnExactAddTry.bits24 : waitsOk laws_FnExactAddTry.T24.2 laws_FnExactAddTry.B24 = true := by kernel_rfl
set_option maxHeartbeats 8000000 in
set_option maxRecDepth 100000 in
theorem laws_FnExactAddTry.skip1_ (A0 : Option Addr) (c0 : Nat) (l0 : List (S33)) (a1_0 : Int) (a1_1 : Int) (a1_2 : Bool) (w : World) (hr0 : Kd.C k33 w A0 l0.length l0) (hc0 : l0.length ≤ c0) (t_1 : Int) (hz1_ : laws_szTryS.f l0 1000000 = some t_1) (hn_ : decide (t_1 < 0) = true) :
    Calls Try.prog 6 #[.slice A0 l0.length c0, .agg #[.int .i64 a1_0, .int .i64 a1_1, .bool a1_2]] w fun e w' => e = .returned (.bool true) ∧ Below w.heap.size w w' := by
  have HR0 := Aside0.mk hr0
  have HC0 := Aside0.mk hc0
  clear hr0 hc0
  have HZ1 := Aside0.mk hz1_
  have HN := Aside0.mk hn_
  clear hz1_ hn_
  have HB := Aside0.mk (Below.refl w.heap.size w)
  go_enter Try.func6, Try.ntmps6
  go_wp2_with (first | ((with_reducible refine gate_dst (N := 3) rfl ?_); refine box_event ?hg (N := 3) ?hd (cs := #[.int .i64 a1_0, .int .i64 a1_1, .bool a1_2]) (t := 33) ?hr ?_; (case hd => rfl); (case hg => rfl); (case hr => first | (go_simp; done) | (go_simp; rfl)); intro gb1 hg_ w_3 hbox hb; have BK2 := Aside0.mk hbox; have HGgb1 : Aside0 (gb1 < w_3.heap.size) := ⟨blk_lt hbox⟩; have hbA_ := Aside0.mk hb; clear hbox hg_ hb))
  have hb := hbA_.out
  clear hbA_
  have HBi := Aside0.mk (below_step (by repeat (first | (with_reducible first | exact Below.refl _ _ | apply below_alloc | apply pw_below_drewN | apply below_drew1) | exact Below.refl _ _)) hb : Below w.heap.size w w_3)
  clear hb
  have HBn := Aside0.mk (below_step HB.out HBi.out)
  clear HB
  have HB := HBn
  clear HBn
  have HS4 := Aside0.mk HBi.out.size
  clear HBi
  go_wp2_with (fail)
  go_at_call 13
  (with_reducible refine (laws_szTryS.calls _ _ l0 1000000 t_1 _ ?side1 ?side2 HZ1.out).mono ?_)
  (case side1 => repeat (first | exact HR0.out | exact (Kd.C_below HR0.out HB.out) | (with_reducible refine Kd.C_alloc ?_ _) | (with_reducible refine Kd.C_drewN ?_ _) | (with_reducible refine Kd.C_drew ?_)))
  (case side2 => exact HC0.out)
  rintro e w_5 ⟨rfl, hd⟩
  have hb := hd.below
  clear hd
  have HBi := Aside0.mk (below_step (by repeat (first | (with_reducible first | exact Below.refl _ _ | apply below_alloc | apply pw_below_drewN | apply below_drew1) | exact Below.refl _ _)) hb : Below w_3.heap.size w_3 w_5)
  clear hb
  have HBn := Aside0.mk (below_step HB.out HBi.out)
  clear HB
  have HB := HBn
  clear HBn
  have HS6 := Aside0.mk HBi.out.size
  have n0_ := Aside0.mk (blk_below BK2.out HBi.out)
  clear BK2
  have BK2 := n0_
  clear n0_
  clear HBi
  have hn_ := HN.out
  go_wp2
  go_ret
  exact ⟨by first | rfl | (simp; done) | (simp [*]; done), by repeat (first | (with_reducible first | exact HB.out | apply below_alloc | apply pw_below_drewN | apply below_drew1) | exact HB.out)⟩
set_option maxHeartbeats 8000000 in
set_option maxRecDepth 100000 in
theorem laws_FnExactAddTry.true_ (k : Nat) (A0 : Option Addr) (c0 : Nat) (l0 : List (S33)) (a1_0 : Int) (a1_1 : Int) (a1_2 : Bool) (w : World) (hr0 : Kd.C k33 w A0 l0.length l0) (hc0 : l0.length ≤ c0) (xs0 ext0 extb0 : List (S36)) (rm0 : Int) (t_1 : Int) (ws_r1 : List (S36)) (res_r2 : Int) (gs_r1 : List (S36)) (mk_0 : Int) (ml_0 : List (S36)) (mk_1 : Int) (ml_1 : List (S36)) (hto0_ : laws_toTrySX.f k l0 false = some ext0) (htob0_ : laws_toTrySX.f k l0 true = some extb0) (hxl0_ : xs0.length = l0.length) (hnb0_ : extb0 = [] → l0.length = 0) (hne0_ : ¬ (ext0 = [])) (hxe0_ : xs0 = ext0.take xs0.length) (hxb0_ : xs0 = extb0.take xs0.length) (hle0_ : xs0.length ≤ ext0.length) (hlb0_ : xs0.length ≤ extb0.length) (hrm0_ : laws_roomBehind.f (xs0.length : Int) = some rm0) (hj0_ : wrap64 ((xs0.length : Int) + rm0) = (ext0.length : Int)) (heqx0_ : laws_eqTryS.f k ext0 ext0 = some true) (hz1_ : laws_szTryS.f l0 1000000 = some t_1) (hn1_ : decide (t_1 < 0) = false) (hfspec_ : spec_AddTry.f k xs0 a1_0 a1_1 a1_2 = some (ws_r1, res_r2)) (hvax_ : laws_toTry.f a1_0 a1_1 a1_2 = some (a1_0, a1_1, a1_2)) (hfimpl_ : impl_AddTry.f k xs0 a1_0 a1_1 a1_2 = some (gs_r1, res_r2)) (he_gs_r1_ws_r1_ : laws_eqTryS.f k gs_r1 ws_r1 = some true) (hm0_ : laws_markTryS.f k xs0 101 = some (mk_0, ml_0)) (hmn0_ : decide (mk_0 < 0) = false) (hm1_ : laws_markTryS.f k gs_r1 101 = some (mk_1, ml_1)) (hmn1_ : decide (mk_1 < 0) = false) (hml1_ : gs_r1.length = ml_1.length) (hh_ml_1_ : laws_heldTryS.f k ml_1 101 = some mk_1) :
    Calls Try.prog 6 #[.slice A0 l0.length c0, .agg #[.int .i64 a1_0, .int .i64 a1_1, .bool a1_2]] w fun e w' => e = .returned (.bool true) ∧ Below w.heap.size w w' := by
  have HR0 := Aside0.mk hr0
  have HC0 := Aside0.mk hc0
  clear hr0 hc0
  have HTO0 := Aside0.mk hto0_
  have HTOB0 := Aside0.mk htob0_
  have HXL0 := Aside0.mk hxl0_
  have HNB0 := Aside0.mk hnb0_
  have HNE0 := Aside0.mk hne0_
  have HXE0 := Aside0.mk hxe0_
  have HXB0 := Aside0.mk hxb0_
  have HLE0 := Aside0.mk hle0_
  have HLB0 := Aside0.mk hlb0_
  have HRM0 := Aside0.mk hrm0_
  have HJ0 := Aside0.mk hj0_
  have HEQX0 := Aside0.mk heqx0_
  have HZ1 := Aside0.mk hz1_
  have HN1 := Aside0.mk hn1_
  have HFspec := Aside0.mk hfspec_
  have HVaX := Aside0.mk hvax_
  have HFimpl := Aside0.mk hfimpl_
  have HE_gs_r1_ws_r1 := Aside0.mk he_gs_r1_ws_r1_
  have HM0 := Aside0.mk hm0_
  have HMN0 := Aside0.mk hmn0_
  have HM1 := Aside0.mk hm1_
  have HMN1 := Aside0.mk hmn1_
  have HML1 := Aside0.mk hml1_
  have HH_ml_1 := Aside0.mk hh_ml_1_
  clear hto0_ htob0_ hxl0_ hnb0_ hne0_ hxe0_ hxb0_ hle0_ hlb0_ hrm0_ hj0_ heqx0_ hz1_ hn1_ hfspec_ hvax_ hfimpl_ he_gs_r1_ws_r1_ hm0_ hmn0_ hm1_ hmn1_ hml1_ hh_ml_1_
  have HB := Aside0.mk (Below.refl w.heap.size w)
  go_enter Try.func6, Try.ntmps6
  go_wp2_with (first | ((with_reducible refine gate_dst (N := 3) rfl ?_); refine box_event ?hg (N := 3) ?hd (cs := #[.int .i64 a1_0, .int .i64 a1_1, .bool a1_2]) (t := 33) ?hr ?_; (case hd => rfl); (case hg => rfl); (case hr => first | (go_simp; done) | (go_simp; rfl)); intro gb1 hg_ w_3 hbox hb; have BK2 := Aside0.mk hbox; have HGgb1 : Aside0 (gb1 < w_3.heap.size) := ⟨blk_lt hbox⟩; have hbA_ := Aside0.mk hb; clear hbox hg_ hb))
  have hb := hbA_.out
  clear hbA_
  have HBi := Aside0.mk (below_step (by repeat (first | (with_reducible first | exact Below.refl _ _ | apply below_alloc | apply pw_below_drewN | apply below_drew1) | exact Below.refl _ _)) hb : Below w.heap.size w w_3)
  clear hb
  have HBn := Aside0.mk (below_step HB.out HBi.out)
  clear HB
  have HB := HBn
  clear HBn
  have HS4 := Aside0.mk HBi.out.size
  clear HBi
  go_wp2_with (fail)
  go_at_call 13
  (with_reducible refine (laws_szTryS.calls _ _ l0 1000000 t_1 _ ?side1 ?side2 HZ1.out).mono ?_)
  (case side1 => repeat (first | exact HR0.out | exact (Kd.C_below HR0.out HB.out) | (with_reducible refine Kd.C_alloc ?_ _) | (with_reducible refine Kd.C_drewN ?_ _) | (with_reducible refine Kd.C_drew ?_)))
  (case side2 => exact HC0.out)
  rintro e w_5 ⟨rfl, hd⟩
  have hb := hd.below
  clear hd
  have HBi := Aside0.mk (below_step (by repeat (first | (with_reducible first | exact Below.refl _ _ | apply below_alloc | apply pw_below_drewN | apply below_drew1) | exact Below.refl _ _)) hb : Below w_3.heap.size w_3 w_5)
  clear hb
  have HBn := Aside0.mk (below_step HB.out HBi.out)
  clear HB
  have HB := HBn
  clear HBn
  have HS6 := Aside0.mk HBi.out.size
  have n0_ := Aside0.mk (blk_below BK2.out HBi.out)
  clear BK2
  have BK2 := n0_
  clear n0_
  clear HBi
  have hn_ := HN1.out
  go_wp2_with (fail)
  clear hn_
  go_wp2_with (fail)
  refine start_ (n := 10) (S := fun w' => w'.cell? ⟨gb1, 0, none⟩ = some (.int .i64 a1_0) ∧ w'.cell? ⟨gb1, 1, none⟩ = some (.int .i64 a1_1) ∧ w'.cell? ⟨gb1, 2, none⟩ = some (.bool a1_2)) (ds := []) #[false, false, false, false, false, false, false, false, false, false] (by kernel_rfl) rfl rfl ⟨(blk_cell BK2.out 0).trans rfl, (blk_cell BK2.out 1).trans rfl, (blk_cell BK2.out 2).trans rfl⟩ (fun hHeld => ?_)
  refine with_tabW laws_FnExactAddTry.tab5 laws_FnExactAddTry.bits5 (fun HT_ HW_ => ?_)
  generalize hq_ : World.drew _ = w_7 at hHeld ⊢
  have n0_ : Aside0 (Below w.heap.size w w_7) := ⟨by rw [← hq_]; (repeat (first | (with_reducible first | exact HB.out | apply below_alloc | apply pw_below_drewN | apply below_drew1) | exact HB.out))⟩
  clear HB
  have HB := n0_
  clear n0_
  have HS8 : Aside0 (w_5.heap.size ≤ w_7.heap.size) := ⟨by rw [← hq_]; exact Nat.le_refl _⟩
  have n0_ : Aside0 (w_7.heap[gb1]? = some (.cells #[.int .i64 a1_0, .int .i64 a1_1, .bool a1_2] 33 (0, 0))) := ⟨by rw [← hq_]; (with_reducible repeat (first | refine blk_drewN ?_ _ | refine blk_drew ?_ | refine blk_alloc ?_ _)); exact BK2.out⟩
  clear BK2
  have BK2 := n0_
  clear n0_
  clear hq_
  refine pure_ (i := 0) (N := some 22) (v := ?_) (a' := ?_) #[true, false, false, false, false, false, false, false, false, false] rfl rfl (any_of HT_.out (by kernel_rfl)) (fun _ _ _ h => h) (Or.inl ⟨by rfl, ?_⟩) ?_ ?_
  rotate_left
  · intro w'
    go_simp
    with_reducible rfl
  rotate_left
  · simp only [Act.put, List.setIfInBounds_toArray, List.set_cons_zero, List.set_cons_succ, i64_w, i32_w]
    rfl
  refine take_ (i := 2) (N := some 24) (v := ?_) (a' := ?_) #[true, false, true, false, false, false, false, false, false, false] rfl rfl (take_ofW HT_.out HW_.out (by kernel_rfl)) (fun _ _ _ h => h) (Or.inl ⟨by rfl, ?_⟩) hHeld ?_ ?_
  rotate_left
  · rintro w' ⟨s0, s1, s2⟩
    go_simp
    with_reducible rfl
  rotate_left
  · simp only [Act.put, List.setIfInBounds_toArray, List.set_cons_zero, List.set_cons_succ, i64_w, i32_w]
    rfl
  refine one_ (i := 1) (N := some 23) #[true, true, true, false, false, false, false, false, false, false] rfl rfl (one_of HT_.out (by kernel_rfl)) (by decide) (fun K hK => ?_)
  refine goes_ Try.func15 (by kernel_rfl) rfl #[.slice A0 l0.length c0, .bool false] (by rfl) rfl rfl (by (try simp only [List.map_toArray, List.map_cons, List.map_nil]); first | done | rfl | (simp only [List.length_drop, List.length_take]; rfl)) ?_
  (with_reducible refine (laws_toTrySX.calls k _ _ l0 false ext0 _ ?side1 ?side2 HTO0.out).mono ?_)
  (case side1 => repeat (first | exact HR0.out | exact (Kd.C_below HR0.out HB.out) | (with_reducible refine Kd.C_alloc ?_ _) | (with_reducible refine Kd.C_drewN ?_ _) | (with_reducible refine Kd.C_drew ?_)))
  (case side2 => exact HC0.out)
  rintro e w_9 ⟨Ao11, no12, co13, rfl, hn, ho, hb⟩
  obtain rfl : no12 = xs0.length := hn.full HXL0.out HNE0.out
  clear hn
  have ho1 := Aside0.mk (Kd.R_lower (R_span ho) (Nat.le_trans HB.out.size (by repeat (first | (with_reducible first | exact Below.refl _ _ | apply below_alloc | apply pw_below_drewN | apply below_drew1) | exact Below.refl _ _) : Below w_7.heap.size w_7 _).size))
  clear ho
  have HBi := Aside0.mk (below_step (by repeat (first | (with_reducible first | exact Below.refl _ _ | apply below_alloc | apply pw_below_drewN | apply below_drew1) | exact Below.refl _ _)) hb : Below w_7.heap.size w_7 w_9)
  clear hb
  have HBn := Aside0.mk (below_step HB.out HBi.out)
  clear HB
  have HB := HBn
  clear HBn
  have HS14 := Aside0.mk HBi.out.size
  have n0_ := Aside0.mk (blk_below BK2.out HBi.out)
  clear BK2
  have BK2 := n0_
  clear n0_
  clear HBi
  have HO10 := Aside0.mk (Kd.R_mono (ok' := fun k_ => w_7.heap.size ≤ k_ ∧ k_ < w_9.heap.size) ho1.out (fun k_ hk_ => hk_))
  clear ho1
  refine ⟨_, rfl, ?_⟩
  refine hK.out _ _ ⟨(blk_cell BK2.out 0).trans rfl, (blk_cell BK2.out 1).trans rfl, (blk_cell BK2.out 2).trans rfl⟩ (fun hHeld => ?_)
  clear hK K
  refine norm_ (a' := ?_) ?_ ?_
  rotate_left
  · show Act.put _ (some 23) _ = _
    simp only [Act.put, List.setIfInBounds_toArray, List.set_cons_zero, List.set_cons_succ, i64_w, i32_w]
    rfl
  refine one_ (i := 3) (N := some 25) #[true, true, true, true, false, false, false, false, false, false] rfl rfl (one_of HT_.out (by kernel_rfl)) (by decide) (fun K hK => ?_)
  refine goes_ Try.func23 (by kernel_rfl) rfl #[.agg #[.int .i64 a1_0, .int .i64 a1_1, .bool a1_2]] (by rfl) rfl rfl (by (try simp only [List.map_toArray, List.map_cons, List.map_nil]); first | done | rfl | (simp only [List.length_drop, List.length_take]; rfl)) ?_
  (with_reducible refine (laws_toTry.calls a1_0 a1_1 a1_2 a1_0 a1_1 a1_2 _ HVaX.out).mono ?_)
  rintro e w_15 ⟨rfl, hb⟩
  have HBi := Aside0.mk (below_step (by repeat (first | (with_reducible first | exact Below.refl _ _ | apply below_alloc | apply pw_below_drewN | apply below_drew1) | exact Below.refl _ _)) hb : Below w_9.heap.size w_9 w_15)
  clear hb
  have HBn := Aside0.mk (below_step HB.out HBi.out)
  clear HB
  have HB := HBn
  clear HBn
  have HS16 := Aside0.mk HBi.out.size
  have n0_ := Aside0.mk (blk_below BK2.out HBi.out)
  clear BK2
  have BK2 := n0_
  clear n0_
  have n0_ := Aside0.mk (Kd.R_below HO10.out HBi.out)
  clear HO10
  have HO10 := n0_
  clear n0_
  clear HBi
  refine ⟨_, rfl, ?_⟩
  refine hK.out _ _ ⟨(blk_cell BK2.out 0).trans rfl, (blk_cell BK2.out 1).trans rfl, (blk_cell BK2.out 2).trans rfl⟩ (fun hHeld => ?_)
  clear hK K
  refine norm_ (a' := ?_) ?_ ?_
  rotate_left
  · show Act.put _ (some 25) _ = _
    simp only [Act.put, List.setIfInBounds_toArray, List.set_cons_zero, List.set_cons_succ, i64_w, i32_w]
    rfl
  refine one_ (i := 4) (N := some 26) #[true, true, true, true, true, false, false, false, false, false] rfl rfl (one_of HT_.out (by kernel_rfl)) (by decide) (fun K hK => ?_)
  refine goes_ Try.func22 (by kernel_rfl) rfl #[.slice Ao11 xs0.length co13, .agg #[.int .i64 a1_0, .int .i64 a1_1, .bool a1_2]] (by rfl) rfl rfl (by (try simp only [List.map_toArray, List.map_cons, List.map_nil]); first | done | rfl | (simp only [List.length_drop, List.length_take]; rfl)) ?_
  (with_reducible refine (spec_AddTry.calls k _ _ xs0 a1_0 a1_1 a1_2 ws_r1 res_r2 _ ?side1 ?side2 HFspec.out).mono ?_)
  (case side1 => repeat (first | exact C_ext (Kd.R_reads' HO10.out).2.2 HXE0.out HLE0.out | (with_reducible refine Kd.C_alloc ?_ _) | (with_reducible refine Kd.C_drewN ?_ _) | (with_reducible refine Kd.C_drew ?_)))
  (case side2 => exact Nat.le_trans HLE0.out (Kd.R_reads' HO10.out).2.1)
  rintro e w_17 ⟨v_18, rfl, ho, hb⟩
  have ho1 := Aside0.mk (Kd.R_lower (R_span ho) (Nat.le_trans HB.out.size (by repeat (first | (with_reducible first | exact Below.refl _ _ | apply below_alloc | apply pw_below_drewN | apply below_drew1) | exact Below.refl _ _) : Below w_15.heap.size w_15 _).size))
  clear ho
  have HBi := Aside0.mk (below_step (by repeat (first | (with_reducible first | exact Below.refl _ _ | apply below_alloc | apply pw_below_drewN | apply below_drew1) | exact Below.refl _ _)) hb : Below w_15.heap.size w_15 w_17)
  clear hb
  have HBn := Aside0.mk (below_step HB.out HBi.out)
  clear HB
  have HB := HBn
  clear HBn
  have HS23 := Aside0.mk HBi.out.size
  have n0_ := Aside0.mk (blk_below BK2.out HBi.out)
  clear BK2
  have BK2 := n0_
  clear n0_
  have n0_ := Aside0.mk (Kd.R_below HO10.out HBi.out)
  clear HO10
  have HO10 := n0_
  clear n0_
  clear HBi
  obtain ⟨Ao20, co21, eo22⟩ := Kd.R_slice ho1.out
  subst eo22
  have HO19 := Aside0.mk (Kd.R_mono (ok' := fun k_ => w_15.heap.size ≤ k_ ∧ k_ < w_17.heap.size) ho1.out (fun k_ hk_ => hk_))
  clear ho1
  refine ⟨_, rfl, ?_⟩
  refine hK.out _ _ ⟨(blk_cell BK2.out 0).trans rfl, (blk_cell BK2.out 1).trans rfl, (blk_cell BK2.out 2).trans rfl⟩ (fun hHeld => ?_)
  clear hK K
  refine norm_ (a' := ?_) ?_ ?_
  rotate_left
  · show Act.put _ (some 26) _ = _
    simp only [Act.put, List.setIfInBounds_toArray, List.set_cons_zero, List.set_cons_succ, i64_w, i32_w]
    rfl
  refine pure_ (i := 5) (N := some 21) (v := ?_) (a' := ?_) #[true, true, true, true, true, true, false, false, false, false] rfl rfl (any_of HT_.out (by kernel_rfl)) (fun _ _ _ h => h) (Or.inl ⟨by rfl, ?_⟩) ?_ ?_
  rotate_left
  · intro w'
    go_simp
    with_reducible rfl
  rotate_left
  · simp only [Act.put, List.setIfInBounds_toArray, List.set_cons_zero, List.set_cons_succ, i64_w, i32_w]
    rfl
  refine pure_ (i := 6) (N := some 27) (v := ?_) (a' := ?_) #[true, true, true, true, true, true, true, false, false, false] rfl rfl (any_of HT_.out (by kernel_rfl)) (fun _ _ _ h => h) (Or.inl ⟨by rfl, ?_⟩) ?_ ?_
  rotate_left
  · intro w'
    go_simp
    with_reducible rfl
  rotate_left
  · simp only [Act.put, List.setIfInBounds_toArray, List.set_cons_zero, List.set_cons_succ, i64_w, i32_w]
    rfl
  refine pure_ (i := 7) (N := some 28) (v := ?_) (a' := ?_) #[true, true, true, true, true, true, true, true, false, false] rfl rfl (any_of HT_.out (by kernel_rfl)) (fun _ _ _ h => h) (Or.inl ⟨by rfl, ?_⟩) ?_ ?_
  rotate_left
  · intro w'
    go_simp
    with_reducible rfl
  rotate_left
  · simp only [Act.put, List.setIfInBounds_toArray, List.set_cons_zero, List.set_cons_succ, i64_w, i32_w]
    rfl
  refine pure_ (i := 8) (N := some 6) (v := ?_) (a' := ?_) #[true, true, true, true, true, true, true, true, true, false] rfl rfl (any_of HT_.out (by kernel_rfl)) (fun _ _ _ h => h) (Or.inl ⟨by rfl, ?_⟩) ?_ ?_
  rotate_left
  · intro w'
    go_simp
    with_reducible rfl
  rotate_left
  · simp only [Act.put, List.setIfInBounds_toArray, List.set_cons_zero, List.set_cons_succ, i64_w, i32_w]
    rfl
  refine pure_ (i := 9) (N := some 7) (v := ?_) (a' := ?_) #[true, true, true, true, true, true, true, true, true, true] rfl rfl (any_of HT_.out (by kernel_rfl)) (fun _ _ _ h => h) (Or.inl ⟨by rfl, ?_⟩) ?_ ?_
  rotate_left
  · intro w'
    go_simp
    with_reducible rfl
  rotate_left
  · simp only [Act.put, List.setIfInBounds_toArray, List.set_cons_zero, List.set_cons_succ, i64_w, i32_w]
    rfl
  refine done_ (done_of HT_.out (by kernel_rfl)) ?_
  clear HO10
  go_wp2_with (fail)
  go_at_call 15
  (with_reducible refine (laws_toTrySX.calls k _ _ l0 false ext0 _ ?side1 ?side2 HTO0.out).mono ?_)
  (case side1 => repeat (first | exact HR0.out | exact (Kd.C_below HR0.out HB.out) | (with_reducible refine Kd.C_alloc ?_ _) | (with_reducible refine Kd.C_drewN ?_ _) | (with_reducible refine Kd.C_drew ?_)))
  (case side2 => exact HC0.out)
  rintro e w_24 ⟨Ao26, no27, co28, rfl, hn, ho, hb⟩
  obtain rfl : no27 = xs0.length := hn.full HXL0.out HNE0.out
  clear hn
  have ho1 := Aside0.mk (Kd.R_lower (R_span ho) (Nat.le_trans HB.out.size (by repeat (first | (with_reducible first | exact Below.refl _ _ | apply below_alloc | apply pw_below_drewN | apply below_drew1) | exact Below.refl _ _) : Below w_17.heap.size w_17 _).size))
  clear ho
  have HBi := Aside0.mk (below_step (by repeat (first | (with_reducible first | exact Below.refl _ _ | apply below_alloc | apply pw_below_drewN | apply below_drew1) | exact Below.refl _ _)) hb : Below w_17.heap.size w_17 w_24)
  clear hb
  have HBn := Aside0.mk (below_step HB.out HBi.out)
  clear HB
  have HB := HBn
  clear HBn
  have HS29 := Aside0.mk HBi.out.size
  have n0_ := Aside0.mk (blk_below BK2.out HBi.out)
  clear BK2
  have BK2 := n0_
  clear n0_
  have n0_ := Aside0.mk (Kd.R_below HO19.out HBi.out)
  clear HO19
  have HO19 := n0_
  clear n0_
  clear HBi
  have HO25 := Aside0.mk (Kd.R_mono (ok' := fun k_ => w_17.heap.size ≤ k_ ∧ k_ < w_24.heap.size) ho1.out (fun k_ hk_ => hk_))
  clear ho1
  have hcz_0 : w_24.cell? ⟨gb1, 0, none⟩ = some (.int .i64 a1_0) := (blk_cell BK2.out 0).trans rfl
  have hfz_0 := blk_frozen BK2.out 0
  have hcz_1 : w_24.cell? ⟨gb1, 1, none⟩ = some (.int .i64 a1_1) := (blk_cell BK2.out 1).trans rfl
  have hfz_1 := blk_frozen BK2.out 1
  have hcz_2 : w_24.cell? ⟨gb1, 2, none⟩ = some (.bool a1_2) := (blk_cell BK2.out 2).trans rfl
  have hfz_2 := blk_frozen BK2.out 2
  go_wp2_with (fail)
  clear hcz_0 hfz_0 hcz_1 hfz_1 hcz_2 hfz_2
  go_at_call 23
  (with_reducible refine (laws_toTry.calls a1_0 a1_1 a1_2 a1_0 a1_1 a1_2 _ HVaX.out).mono ?_)
  rintro e w_30 ⟨rfl, hb⟩
  have HBi := Aside0.mk (below_step (by repeat (first | (with_reducible first | exact Below.refl _ _ | apply below_alloc | apply pw_below_drewN | apply below_drew1) | exact Below.refl _ _)) hb : Below w_24.heap.size w_24 w_30)
  clear hb
  have HBn := Aside0.mk (below_step HB.out HBi.out)
  clear HB
  have HB := HBn
  clear HBn
  have HS31 := Aside0.mk HBi.out.size
  have n0_ := Aside0.mk (blk_below BK2.out HBi.out)
  clear BK2
  have BK2 := n0_
  clear n0_
  have n0_ := Aside0.mk (Kd.R_below HO19.out HBi.out)
  clear HO19
  have HO19 := n0_
  clear n0_
  have n0_ := Aside0.mk (Kd.R_below HO25.out HBi.out)
  clear HO25
  have HO25 := n0_
  clear n0_
  clear HBi
  go_wp2_with (fail)
  go_at_call 24
  (with_reducible refine (impl_AddTry.calls k _ _ xs0 a1_0 a1_1 a1_2 gs_r1 res_r2 _ ?side1 ?side2 HFimpl.out).mono ?_)
  (case side1 => repeat (first | exact C_ext (Kd.R_reads' HO25.out).2.2 HXE0.out HLE0.out | (with_reducible refine Kd.C_alloc ?_ _) | (with_reducible refine Kd.C_drewN ?_ _) | (with_reducible refine Kd.C_drew ?_)))
  (case side2 => exact Nat.le_trans HLE0.out (Kd.R_reads' HO25.out).2.1)
  rintro e w_32 ⟨v_33, rfl, ho, hb⟩
  have ho1 := Aside0.mk (Kd.R_lower (R_span ho) (Nat.le_trans HB.out.size (by repeat (first | (with_reducible first | exact Below.refl _ _ | apply below_alloc | apply pw_below_drewN | apply below_drew1) | exact Below.refl _ _) : Below w_30.heap.size w_30 _).size))
  clear ho
  have HBi := Aside0.mk (below_step (by repeat (first | (with_reducible first | exact Below.refl _ _ | apply below_alloc | apply pw_below_drewN | apply below_drew1) | exact Below.refl _ _)) hb : Below w_30.heap.size w_30 w_32)
  clear hb
  have HBn := Aside0.mk (below_step HB.out HBi.out)
  clear HB
  have HB := HBn
  clear HBn
  have HS38 := Aside0.mk HBi.out.size
  have n0_ := Aside0.mk (blk_below BK2.out HBi.out)
  clear BK2
  have BK2 := n0_
  clear n0_
  have n0_ := Aside0.mk (Kd.R_below HO19.out HBi.out)
  clear HO19
  have HO19 := n0_
  clear n0_
  have n0_ := Aside0.mk (Kd.R_below HO25.out HBi.out)
  clear HO25
  have HO25 := n0_
  clear n0_
  clear HBi
  obtain ⟨Ao35, co36, eo37⟩ := Kd.R_slice ho1.out
  subst eo37
  have HO34 := Aside0.mk (Kd.R_mono (ok' := fun k_ => w_30.heap.size ≤ k_ ∧ k_ < w_32.heap.size) ho1.out (fun k_ hk_ => hk_))
  clear ho1
  go_wp2_with (fail)
  go_at_call 25
  (with_reducible refine (laws_eqTryS.calls k _ _ gs_r1 _ _ ws_r1 true _ ?side1 ?side2 ?side3 ?side4 HE_gs_r1_ws_r1.out).mono ?_)
  (case side1 => repeat (first | exact (Kd.R_reads' HO34.out).2.2 | (with_reducible refine Kd.C_alloc ?_ _) | (with_reducible refine Kd.C_drewN ?_ _) | (with_reducible refine Kd.C_drew ?_)))
  (case side2 => exact (Kd.R_reads' HO34.out).2.1)
  (case side3 => repeat (first | exact (Kd.R_reads' HO19.out).2.2 | (with_reducible refine Kd.C_alloc ?_ _) | (with_reducible refine Kd.C_drewN ?_ _) | (with_reducible refine Kd.C_drew ?_)))
  (case side4 => exact (Kd.R_reads' HO19.out).2.1)
  rintro e w_39 ⟨rfl, hb⟩
  have HBi := Aside0.mk (below_step (by repeat (first | (with_reducible first | exact Below.refl _ _ | apply below_alloc | apply pw_below_drewN | apply below_drew1) | exact Below.refl _ _)) hb : Below w_32.heap.size w_32 w_39)
  clear hb
  have HBn := Aside0.mk (below_step HB.out HBi.out)
  clear HB
  have HB := HBn
  clear HBn
  have HS40 := Aside0.mk HBi.out.size
  have n0_ := Aside0.mk (blk_below BK2.out HBi.out)
  clear BK2
  have BK2 := n0_
  clear n0_
  have n0_ := Aside0.mk (Kd.R_below HO19.out HBi.out)
  clear HO19
  have HO19 := n0_
  clear n0_
  have n0_ := Aside0.mk (Kd.R_below HO25.out HBi.out)
  clear HO25
  have HO25 := n0_
  clear n0_
  have n0_ := Aside0.mk (Kd.R_below HO34.out HBi.out)
  clear HO34
  have HO34 := n0_
  clear n0_
  clear HBi
  go_wp2_with (fail)
  go_at_call 15
  (with_reducible refine (laws_toTrySX.calls k _ _ l0 false ext0 _ ?side1 ?side2 HTO0.out).mono ?_)
  (case side1 => repeat (first | exact HR0.out | exact (Kd.C_below HR0.out HB.out) | (with_reducible refine Kd.C_alloc ?_ _) | (with_reducible refine Kd.C_drewN ?_ _) | (with_reducible refine Kd.C_drew ?_)))
  (case side2 => exact HC0.out)
  rintro e w_41 ⟨Ao43, no44, co45, rfl, hn, ho, hb⟩
  obtain rfl : no44 = xs0.length := hn.full HXL0.out HNE0.out
  clear hn
  have ho1 := Aside0.mk (Kd.R_lower (R_span ho) (Nat.le_trans HB.out.size (by repeat (first | (with_reducible first | exact Below.refl _ _ | apply below_alloc | apply pw_below_drewN | apply below_drew1) | exact Below.refl _ _) : Below w_39.heap.size w_39 _).size))
  clear ho
  have HBi := Aside0.mk (below_step (by repeat (first | (with_reducible first | exact Below.refl _ _ | apply below_alloc | apply pw_below_drewN | apply below_drew1) | exact Below.refl _ _)) hb : Below w_39.heap.size w_39 w_41)
  clear hb
  have HBn := Aside0.mk (below_step HB.out HBi.out)
  clear HB
  have HB := HBn
  clear HBn
  have HS46 := Aside0.mk HBi.out.size
  have n0_ := Aside0.mk (blk_below BK2.out HBi.out)
  clear BK2
  have BK2 := n0_
  clear n0_
  have n0_ := Aside0.mk (Kd.R_below HO19.out HBi.out)
  clear HO19
  have HO19 := n0_
  clear n0_
  have n0_ := Aside0.mk (Kd.R_below HO25.out HBi.out)
  clear HO25
  have HO25 := n0_
  clear n0_
  have n0_ := Aside0.mk (Kd.R_below HO34.out HBi.out)
  clear HO34
  have HO34 := n0_
  clear n0_
  clear HBi
  have HO42 := Aside0.mk (Kd.R_mono (ok' := fun k_ => w_39.heap.size ≤ k_ ∧ k_ < w_41.heap.size) ho1.out (fun k_ hk_ => hk_))
  clear ho1
  go_wp2_with (fail)
  go_at_call 17
  (with_reducible refine (laws_intactTrySX.calls k _ _ ext0 _ _ ext0 xs0.length rm0 true _ ?side1 ?side2 ?side3 ?side4 HRM0.out HJ0.out rfl HEQX0.out).mono ?_)
  (case side1 => repeat (first | exact (Kd.R_reads' HO25.out).2.2 | (with_reducible refine Kd.C_alloc ?_ _) | (with_reducible refine Kd.C_drewN ?_ _) | (with_reducible refine Kd.C_drew ?_)))
  (case side2 => exact (Kd.R_reads' HO25.out).2.1)
  (case side3 => repeat (first | exact (Kd.R_reads' HO42.out).2.2 | (with_reducible refine Kd.C_alloc ?_ _) | (with_reducible refine Kd.C_drewN ?_ _) | (with_reducible refine Kd.C_drew ?_)))
  (case side4 => exact (Kd.R_reads' HO42.out).2.1)
  rintro e w_47 ⟨rfl, hb⟩
  have HBi := Aside0.mk (below_step (by repeat (first | (with_reducible first | exact Below.refl _ _ | apply below_alloc | apply pw_below_drewN | apply below_drew1) | exact Below.refl _ _)) hb : Below w_41.heap.size w_41 w_47)
  clear hb
  have HBn := Aside0.mk (below_step HB.out HBi.out)
  clear HB
  have HB := HBn
  clear HBn
  have HS48 := Aside0.mk HBi.out.size
  have n0_ := Aside0.mk (blk_below BK2.out HBi.out)
  clear BK2
  have BK2 := n0_
  clear n0_
  have n0_ := Aside0.mk (Kd.R_below HO19.out HBi.out)
  clear HO19
  have HO19 := n0_
  clear n0_
  have n0_ := Aside0.mk (Kd.R_below HO25.out HBi.out)
  clear HO25
  have HO25 := n0_
  clear n0_
  have n0_ := Aside0.mk (Kd.R_below HO34.out HBi.out)
  clear HO34
  have HO34 := n0_
  clear n0_
  have n0_ := Aside0.mk (Kd.R_below HO42.out HBi.out)
  clear HO42
  have HO42 := n0_
  clear n0_
  clear HBi
  clear HO42
  go_wp2_with (fail)
  go_at_call 26
  (with_reducible refine (laws_markTryS.calls k (fun k_ => w_17.heap.size ≤ k_ ∧ k_ < w_24.heap.size) (.slice Ao26 xs0.length co28) xs0 101 mk_0 ml_0 w _ ?side1 ?side2 HM0.out).mono ?_)
  (case side1 => repeat (first | (with_reducible first | exact HB.out | apply below_alloc | apply pw_below_drewN | apply below_drew1) | exact HB.out))
  (case side2 => (with_reducible repeat (first | apply Kd.R_alloc | apply Kd.R_drewN | apply Kd.R_drew)); exact (R_ext HO25.out HXE0.out HLE0.out))
  rintro e w_49 ⟨rfl, hy, hb, hk⟩
  have hk1 := Aside0.mk (Kept.then_ (Kept.of_below (by repeat (first | (with_reducible first | exact Below.refl _ _ | apply below_alloc | apply pw_below_drewN | apply below_drew1) | exact Below.refl _ _) : Below w_47.heap.size w_47 _) (fun k_ => w_17.heap.size ≤ k_ ∧ k_ < w_24.heap.size)) hk (fun _ h_ => .inl h_))
  clear hk
  have hy1 := Aside0.mk hy
  clear hy
  clear HB
  have HB := Aside0.mk hb
  clear hb
  have HS50 := Aside0.mk hk1.out.1
  have n0_ := Aside0.mk ((hk1.out.2 gb1 (blk_lt BK2.out) (fun h_ => by have sHGgb1 := HGgb1.out; have sHS4 := HS4.out; have sHS6 := HS6.out; have sHS8 := HS8.out; have sHS14 := HS14.out; have sHS16 := HS16.out; have sHS23 := HS23.out; have sHS29 := HS29.out; have sHS31 := HS31.out; have sHS38 := HS38.out; have sHS40 := HS40.out; have sHS46 := HS46.out; have sHS48 := HS48.out; have sHS50 := HS50.out; omega)).trans BK2.out)
  clear BK2
  have BK2 := n0_
  clear n0_
  have n0_ := Aside0.mk (Kd.R_kept HO19.out hk1.out (fun k_ (h1_ : w_15.heap.size ≤ k_ ∧ k_ < w_17.heap.size) (h2_ : w_17.heap.size ≤ k_ ∧ k_ < w_24.heap.size) => by have sHGgb1 := HGgb1.out; have sHS4 := HS4.out; have sHS6 := HS6.out; have sHS8 := HS8.out; have sHS14 := HS14.out; have sHS16 := HS16.out; have sHS23 := HS23.out; have sHS29 := HS29.out; have sHS31 := HS31.out; have sHS38 := HS38.out; have sHS40 := HS40.out; have sHS46 := HS46.out; have sHS48 := HS48.out; have sHS50 := HS50.out; omega))
  clear HO19
  have HO19 := n0_
  clear n0_
  have n0_ := Aside0.mk (Kd.R_kept HO34.out hk1.out (fun k_ (h1_ : w_30.heap.size ≤ k_ ∧ k_ < w_32.heap.size) (h2_ : w_17.heap.size ≤ k_ ∧ k_ < w_24.heap.size) => by have sHGgb1 := HGgb1.out; have sHS4 := HS4.out; have sHS6 := HS6.out; have sHS8 := HS8.out; have sHS14 := HS14.out; have sHS16 := HS16.out; have sHS23 := HS23.out; have sHS29 := HS29.out; have sHS31 := HS31.out; have sHS38 := HS38.out; have sHS40 := HS40.out; have sHS46 := HS46.out; have sHS48 := HS48.out; have sHS50 := HS50.out; omega))
  clear HO34
  have HO34 := n0_
  clear n0_
  clear hy1 hk1
  clear HO25
  have hn_ := HMN0.out
  go_wp2_with (fail)
  clear hn_
  go_wp2_with (fail)
  go_at_call 25
  (with_reducible refine (laws_eqTryS.calls k _ _ gs_r1 _ _ ws_r1 true _ ?side1 ?side2 ?side3 ?side4 HE_gs_r1_ws_r1.out).mono ?_)
  (case side1 => repeat (first | exact (Kd.R_reads' HO34.out).2.2 | (with_reducible refine Kd.C_alloc ?_ _) | (with_reducible refine Kd.C_drewN ?_ _) | (with_reducible refine Kd.C_drew ?_)))
  (case side2 => exact (Kd.R_reads' HO34.out).2.1)
  (case side3 => repeat (first | exact (Kd.R_reads' HO19.out).2.2 | (with_reducible refine Kd.C_alloc ?_ _) | (with_reducible refine Kd.C_drewN ?_ _) | (with_reducible refine Kd.C_drew ?_)))
  (case side4 => exact (Kd.R_reads' HO19.out).2.1)
  rintro e w_51 ⟨rfl, hb⟩
  have HBi := Aside0.mk (below_step (by repeat (first | (with_reducible first | exact Below.refl _ _ | apply below_alloc | apply pw_below_drewN | apply below_drew1) | exact Below.refl _ _)) hb : Below w_49.heap.size w_49 w_51)
  clear hb
  have HBn := Aside0.mk (below_step HB.out HBi.out)
  clear HB
  have HB := HBn
  clear HBn
  have HS52 := Aside0.mk HBi.out.size
  have n0_ := Aside0.mk (blk_below BK2.out HBi.out)
  clear BK2
  have BK2 := n0_
  clear n0_
  have n0_ := Aside0.mk (Kd.R_below HO19.out HBi.out)
  clear HO19
  have HO19 := n0_
  clear n0_
  have n0_ := Aside0.mk (Kd.R_below HO34.out HBi.out)
  clear HO34
  have HO34 := n0_
  clear n0_
  clear HBi
  go_wp2_with (fail)
  go_at_call 26
  (with_reducible refine (laws_markTryS.calls k (fun k_ => w_30.heap.size ≤ k_ ∧ k_ < w_32.heap.size) (.slice Ao35 gs_r1.length co36) gs_r1 101 mk_1 ml_1 w _ ?side1 ?side2 HM1.out).mono ?_)
  (case side1 => repeat (first | (with_reducible first | exact HB.out | apply below_alloc | apply pw_below_drewN | apply below_drew1) | exact HB.out))
  (case side2 => (with_reducible repeat (first | apply Kd.R_alloc | apply Kd.R_drewN | apply Kd.R_drew)); exact HO34.out)
  rintro e w_53 ⟨rfl, hy, hb, hk⟩
  have hk1 := Aside0.mk (Kept.then_ (Kept.of_below (by repeat (first | (with_reducible first | exact Below.refl _ _ | apply below_alloc | apply pw_below_drewN | apply below_drew1) | exact Below.refl _ _) : Below w_51.heap.size w_51 _) (fun k_ => w_30.heap.size ≤ k_ ∧ k_ < w_32.heap.size)) hk (fun _ h_ => .inl h_))
  clear hk
  have hy1 := Aside0.mk hy
  clear hy
  clear HB
  have HB := Aside0.mk hb
  clear hb
  have HS54 := Aside0.mk hk1.out.1
  have n0_ := Aside0.mk ((hk1.out.2 gb1 (blk_lt BK2.out) (fun h_ => by have sHGgb1 := HGgb1.out; have sHS4 := HS4.out; have sHS6 := HS6.out; have sHS8 := HS8.out; have sHS14 := HS14.out; have sHS16 := HS16.out; have sHS23 := HS23.out; have sHS29 := HS29.out; have sHS31 := HS31.out; have sHS38 := HS38.out; have sHS40 := HS40.out; have sHS46 := HS46.out; have sHS48 := HS48.out; have sHS50 := HS50.out; have sHS52 := HS52.out; have sHS54 := HS54.out; omega)).trans BK2.out)
  clear BK2
  have BK2 := n0_
  clear n0_
  have n0_ := Aside0.mk (Kd.R_kept HO19.out hk1.out (fun k_ (h1_ : w_15.heap.size ≤ k_ ∧ k_ < w_17.heap.size) (h2_ : w_30.heap.size ≤ k_ ∧ k_ < w_32.heap.size) => by have sHGgb1 := HGgb1.out; have sHS4 := HS4.out; have sHS6 := HS6.out; have sHS8 := HS8.out; have sHS14 := HS14.out; have sHS16 := HS16.out; have sHS23 := HS23.out; have sHS29 := HS29.out; have sHS31 := HS31.out; have sHS38 := HS38.out; have sHS40 := HS40.out; have sHS46 := HS46.out; have sHS48 := HS48.out; have sHS50 := HS50.out; have sHS52 := HS52.out; have sHS54 := HS54.out; omega))
  clear HO19
  have HO19 := n0_
  clear n0_
  have n0_ := Aside0.mk (Kd.R_reok rfl hy1.out (fun k_ e_ => HO34.out.1 k_ e_))
  clear HO34
  have hl_ := HML1.out
  rw [hl_] at n0_
  try simp only [hl_]
  clear hl_
  have HO34 := n0_
  clear n0_ hy1 hk1
  go_wp2_with (fail)
  go_at_call 27
  (with_reducible refine (laws_heldTryS.calls k _ _ ml_1 101 mk_1 _ ?side1 ?side2 HH_ml_1.out).mono ?_)
  (case side1 => repeat (first | exact (Kd.R_reads' HO34.out).2.2 | (with_reducible refine Kd.C_alloc ?_ _) | (with_reducible refine Kd.C_drewN ?_ _) | (with_reducible refine Kd.C_drew ?_)))
  (case side2 => exact (Kd.R_reads' HO34.out).2.1)
  rintro e w_55 ⟨rfl, hd⟩
  have hb := hd.below
  clear hd
  have HBi := Aside0.mk (below_step (by repeat (first | (with_reducible first | exact Below.refl _ _ | apply below_alloc | apply pw_below_drewN | apply below_drew1) | exact Below.refl _ _)) hb : Below w_53.heap.size w_53 w_55)
  clear hb
  have HBn := Aside0.mk (below_step HB.out HBi.out)
  clear HB
  have HB := HBn
  clear HBn
  have HS56 := Aside0.mk HBi.out.size
  have n0_ := Aside0.mk (blk_below BK2.out HBi.out)
  clear BK2
  have BK2 := n0_
  clear n0_
  have n0_ := Aside0.mk (Kd.R_below HO19.out HBi.out)
  clear HO19
  have HO19 := n0_
  clear n0_
  have n0_ := Aside0.mk (Kd.R_below HO34.out HBi.out)
  clear HO34
  have HO34 := n0_
  clear n0_
  clear HBi
  have hn_ := HMN1.out
  go_wp2_with (fail)
  clear hn_
  go_wp2_with (fail)
  refine start_ (n := 10) (S := fun w' => w'.cell? ⟨gb1, 0, none⟩ = some (.int .i64 a1_0) ∧ w'.cell? ⟨gb1, 1, none⟩ = some (.int .i64 a1_1) ∧ w'.cell? ⟨gb1, 2, none⟩ = some (.bool a1_2)) (ds := []) #[false, false, false, false, false, false, false, false, false, false] (by kernel_rfl) rfl rfl ⟨(blk_cell BK2.out 0).trans rfl, (blk_cell BK2.out 1).trans rfl, (blk_cell BK2.out 2).trans rfl⟩ (fun hHeld => ?_)
  refine with_tabW laws_FnExactAddTry.tab24 laws_FnExactAddTry.bits24 (fun HT_ HW_ => ?_)
  generalize hq_ : World.drew _ = w_57 at hHeld ⊢
  have n0_ : Aside0 (Below w.heap.size w w_57) := ⟨by rw [← hq_]; (repeat (first | (with_reducible first | exact HB.out | apply below_alloc | apply pw_below_drewN | apply below_drew1) | exact HB.out))⟩
  clear HB
  have HB := n0_
  clear n0_
  have HS58 : Aside0 (w_55.heap.size ≤ w_57.heap.size) := ⟨by rw [← hq_]; exact Nat.le_refl _⟩
  have n0_ : Aside0 (w_57.heap[gb1]? = some (.cells #[.int .i64 a1_0, .int .i64 a1_1, .bool a1_2] 33 (0, 0))) := ⟨by rw [← hq_]; (with_reducible repeat (first | refine blk_drewN ?_ _ | refine blk_drew ?_ | refine blk_alloc ?_ _)); exact BK2.out⟩
  clear BK2
  have BK2 := n0_
  clear n0_
  have n0_ : Aside0 (Kd.R k36 36 w_57 w.heap.size (fun k_ => w_15.heap.size ≤ k_ ∧ k_ < w_17.heap.size) (.slice Ao20 ws_r1.length co21) ws_r1) := ⟨by rw [← hq_]; (with_reducible repeat (first | apply Kd.R_alloc | apply Kd.R_drewN | apply Kd.R_drew)); exact HO19.out⟩
  clear HO19
  have HO19 := n0_
  clear n0_
  have n0_ : Aside0 (Kd.R k36 36 w_57 w.heap.size (fun k_ => w_30.heap.size ≤ k_ ∧ k_ < w_32.heap.size) (.slice Ao35 ml_1.length co36) ml_1) := ⟨by rw [← hq_]; (with_reducible repeat (first | apply Kd.R_alloc | apply Kd.R_drewN | apply Kd.R_drew)); exact HO34.out⟩
  clear HO34
  have HO34 := n0_
  clear n0_
  clear hq_
  refine pure_ (i := 0) (N := some 80) (v := ?_) (a' := ?_) #[true, false, false, false, false, false, false, false, false, false] rfl rfl (any_of HT_.out (by kernel_rfl)) (fun _ _ _ h => h) (Or.inl ⟨by rfl, ?_⟩) ?_ ?_
  rotate_left
  · intro w'
    go_simp
    with_reducible rfl
  rotate_left
  · simp only [Act.put, List.setIfInBounds_toArray, List.set_cons_zero, List.set_cons_succ, i64_w, i32_w]
    rfl
  refine take_ (i := 2) (N := some 82) (v := ?_) (a' := ?_) #[true, false, true, false, false, false, false, false, false, false] rfl rfl (take_ofW HT_.out HW_.out (by kernel_rfl)) (fun _ _ _ h => h) (Or.inl ⟨by rfl, ?_⟩) hHeld ?_ ?_
  rotate_left
  · rintro w' ⟨s0, s1, s2⟩
    go_simp
    with_reducible rfl
  rotate_left
  · simp only [Act.put, List.setIfInBounds_toArray, List.set_cons_zero, List.set_cons_succ, i64_w, i32_w]
    rfl
  refine one_ (i := 1) (N := some 81) #[true, true, true, false, false, false, false, false, false, false] rfl rfl (one_of HT_.out (by kernel_rfl)) (by decide) (fun K hK => ?_)
  refine goes_ Try.func15 (by kernel_rfl) rfl #[.slice A0 l0.length c0, .bool true] (by rfl) rfl rfl (by (try simp only [List.map_toArray, List.map_cons, List.map_nil]); first | done | rfl | (simp only [List.length_drop, List.length_take]; rfl)) ?_
  (with_reducible refine (laws_toTrySX.calls k _ _ l0 true extb0 _ ?side1 ?side2 HTOB0.out).mono ?_)
  (case side1 => repeat (first | exact HR0.out | exact (Kd.C_below HR0.out HB.out) | (with_reducible refine Kd.C_alloc ?_ _) | (with_reducible refine Kd.C_drewN ?_ _) | (with_reducible refine Kd.C_drew ?_)))
  (case side2 => exact HC0.out)
  rintro e w_59 ⟨Ao61, no62, co63, rfl, hn, ho, hb⟩
  obtain rfl : no62 = xs0.length := hn.bare HXL0.out HNB0.out
  clear hn
  have ho1 := Aside0.mk (Kd.R_lower (R_span ho) (Nat.le_trans HB.out.size (by repeat (first | (with_reducible first | exact Below.refl _ _ | apply below_alloc | apply pw_below_drewN | apply below_drew1) | exact Below.refl _ _) : Below w_57.heap.size w_57 _).size))
  clear ho
  have HBi := Aside0.mk (below_step (by repeat (first | (with_reducible first | exact Below.refl _ _ | apply below_alloc | apply pw_below_drewN | apply below_drew1) | exact Below.refl _ _)) hb : Below w_57.heap.size w_57 w_59)
  clear hb
  have HBn := Aside0.mk (below_step HB.out HBi.out)
  clear HB
  have HB := HBn
  clear HBn
  have HS64 := Aside0.mk HBi.out.size
  have n0_ := Aside0.mk (blk_below BK2.out HBi.out)
  clear BK2
  have BK2 := n0_
  clear n0_
  have n0_ := Aside0.mk (Kd.R_below HO19.out HBi.out)
  clear HO19
  have HO19 := n0_
  clear n0_
  have n0_ := Aside0.mk (Kd.R_below HO34.out HBi.out)
  clear HO34
  have HO34 := n0_
  clear n0_
  clear HBi
  have HO60 := Aside0.mk (Kd.R_mono (ok' := fun k_ => w_57.heap.size ≤ k_ ∧ k_ < w_59.heap.size) ho1.out (fun k_ hk_ => hk_))
  clear ho1
  refine ⟨_, rfl, ?_⟩
  refine hK.out _ _ ⟨(blk_cell BK2.out 0).trans rfl, (blk_cell BK2.out 1).trans rfl, (blk_cell BK2.out 2).trans rfl⟩ (fun hHeld => ?_)
  clear hK K
  refine norm_ (a' := ?_) ?_ ?_
  rotate_left
  · show Act.put _ (some 81) _ = _
    simp only [Act.put, List.setIfInBounds_toArray, List.set_cons_zero, List.set_cons_succ, i64_w, i32_w]
    rfl
  refine one_ (i := 3) (N := some 83) #[true, true, true, true, false, false, false, false, false, false] rfl rfl (one_of HT_.out (by kernel_rfl)) (by decide) (fun K hK => ?_)
  refine goes_ Try.func23 (by kernel_rfl) rfl #[.agg #[.int .i64 a1_0, .int .i64 a1_1, .bool a1_2]] (by rfl) rfl rfl (by (try simp only [List.map_toArray, List.map_cons, List.map_nil]); first | done | rfl | (simp only [List.length_drop, List.length_take]; rfl)) ?_
  (with_reducible refine (laws_toTry.calls a1_0 a1_1 a1_2 a1_0 a1_1 a1_2 _ HVaX.out).mono ?_)
  rintro e w_65 ⟨rfl, hb⟩
  have HBi := Aside0.mk (below_step (by repeat (first | (with_reducible first | exact Below.refl _ _ | apply below_alloc | apply pw_below_drewN | apply below_drew1) | exact Below.refl _ _)) hb : Below w_59.heap.size w_59 w_65)
  clear hb
  have HBn := Aside0.mk (below_step HB.out HBi.out)
  clear HB
  have HB := HBn
  clear HBn
  have HS66 := Aside0.mk HBi.out.size
  have n0_ := Aside0.mk (blk_below BK2.out HBi.out)
  clear BK2
  have BK2 := n0_
  clear n0_
  have n0_ := Aside0.mk (Kd.R_below HO19.out HBi.out)
  clear HO19
  have HO19 := n0_
  clear n0_
  have n0_ := Aside0.mk (Kd.R_below HO34.out HBi.out)
  clear HO34
  have HO34 := n0_
  clear n0_
  have n0_ := Aside0.mk (Kd.R_below HO60.out HBi.out)
  clear HO60
  have HO60 := n0_
  clear n0_
  clear HBi
  refine ⟨_, rfl, ?_⟩
  refine hK.out _ _ ⟨(blk_cell BK2.out 0).trans rfl, (blk_cell BK2.out 1).trans rfl, (blk_cell BK2.out 2).trans rfl⟩ (fun hHeld => ?_)
  clear hK K
  refine norm_ (a' := ?_) ?_ ?_
  rotate_left
  · show Act.put _ (some 83) _ = _
    simp only [Act.put, List.setIfInBounds_toArray, List.set_cons_zero, List.set_cons_succ, i64_w, i32_w]
    rfl
  refine one_ (i := 4) (N := some 84) #[true, true, true, true, true, false, false, false, false, false] rfl rfl (one_of HT_.out (by kernel_rfl)) (by decide) (fun K hK => ?_)
  refine goes_ Try.func24 (by kernel_rfl) rfl #[.slice Ao61 xs0.length co63, .agg #[.int .i64 a1_0, .int .i64 a1_1, .bool a1_2]] (by rfl) rfl rfl (by (try simp only [List.map_toArray, List.map_cons, List.map_nil]); first | done | rfl | (simp only [List.length_drop, List.length_take]; rfl)) ?_
  (with_reducible refine (impl_AddTry.calls k _ _ xs0 a1_0 a1_1 a1_2 gs_r1 res_r2 _ ?side1 ?side2 HFimpl.out).mono ?_)
  (case side1 => repeat (first | exact C_ext (Kd.R_reads' HO60.out).2.2 HXB0.out HLB0.out | (with_reducible refine Kd.C_alloc ?_ _) | (with_reducible refine Kd.C_drewN ?_ _) | (with_reducible refine Kd.C_drew ?_)))
  (case side2 => exact Nat.le_trans HLB0.out (Kd.R_reads' HO60.out).2.1)
  rintro e w_67 ⟨v_68, rfl, ho, hb⟩
  have ho1 := Aside0.mk (Kd.R_lower (R_span ho) (Nat.le_trans HB.out.size (by repeat (first | (with_reducible first | exact Below.refl _ _ | apply below_alloc | apply pw_below_drewN | apply below_drew1) | exact Below.refl _ _) : Below w_65.heap.size w_65 _).size))
  clear ho
  have HBi := Aside0.mk (below_step (by repeat (first | (with_reducible first | exact Below.refl _ _ | apply below_alloc | apply pw_below_drewN | apply below_drew1) | exact Below.refl _ _)) hb : Below w_65.heap.size w_65 w_67)
  clear hb
  have HBn := Aside0.mk (below_step HB.out HBi.out)
  clear HB
  have HB := HBn
  clear HBn
  have HS73 := Aside0.mk HBi.out.size
  have n0_ := Aside0.mk (blk_below BK2.out HBi.out)
  clear BK2
  have BK2 := n0_
  clear n0_
  have n0_ := Aside0.mk (Kd.R_below HO19.out HBi.out)
  clear HO19
  have HO19 := n0_
  clear n0_
  have n0_ := Aside0.mk (Kd.R_below HO34.out HBi.out)
  clear HO34
  have HO34 := n0_
  clear n0_
  have n0_ := Aside0.mk (Kd.R_below HO60.out HBi.out)
  clear HO60
  have HO60 := n0_
  clear n0_
  clear HBi
  obtain ⟨Ao70, co71, eo72⟩ := Kd.R_slice ho1.out
  subst eo72
  have HO69 := Aside0.mk (Kd.R_mono (ok' := fun k_ => w_65.heap.size ≤ k_ ∧ k_ < w_67.heap.size) ho1.out (fun k_ hk_ => hk_))
  clear ho1
  refine ⟨_, rfl, ?_⟩
  refine hK.out _ _ ⟨(blk_cell BK2.out 0).trans rfl, (blk_cell BK2.out 1).trans rfl, (blk_cell BK2.out 2).trans rfl⟩ (fun hHeld => ?_)
  clear hK K
  refine norm_ (a' := ?_) ?_ ?_
  rotate_left
  · show Act.put _ (some 84) _ = _
    simp only [Act.put, List.setIfInBounds_toArray, List.set_cons_zero, List.set_cons_succ, i64_w, i32_w]
    rfl
  refine pure_ (i := 5) (N := some 79) (v := ?_) (a' := ?_) #[true, true, true, true, true, true, false, false, false, false] rfl rfl (any_of HT_.out (by kernel_rfl)) (fun _ _ _ h => h) (Or.inl ⟨by rfl, ?_⟩) ?_ ?_
  rotate_left
  · intro w'
    go_simp
    with_reducible rfl
  rotate_left
  · simp only [Act.put, List.setIfInBounds_toArray, List.set_cons_zero, List.set_cons_succ, i64_w, i32_w]
    rfl
  refine pure_ (i := 6) (N := some 85) (v := ?_) (a' := ?_) #[true, true, true, true, true, true, true, false, false, false] rfl rfl (any_of HT_.out (by kernel_rfl)) (fun _ _ _ h => h) (Or.inl ⟨by rfl, ?_⟩) ?_ ?_
  rotate_left
  · intro w'
    go_simp
    with_reducible rfl
  rotate_left
  · simp only [Act.put, List.setIfInBounds_toArray, List.set_cons_zero, List.set_cons_succ, i64_w, i32_w]
    rfl
  refine pure_ (i := 7) (N := some 86) (v := ?_) (a' := ?_) #[true, true, true, true, true, true, true, true, false, false] rfl rfl (any_of HT_.out (by kernel_rfl)) (fun _ _ _ h => h) (Or.inl ⟨by rfl, ?_⟩) ?_ ?_
  rotate_left
  · intro w'
    go_simp
    with_reducible rfl
  rotate_left
  · simp only [Act.put, List.setIfInBounds_toArray, List.set_cons_zero, List.set_cons_succ, i64_w, i32_w]
    rfl
  refine pure_ (i := 8) (N := some 14) (v := ?_) (a' := ?_) #[true, true, true, true, true, true, true, true, true, false] rfl rfl (any_of HT_.out (by kernel_rfl)) (fun _ _ _ h => h) (Or.inl ⟨by rfl, ?_⟩) ?_ ?_
  rotate_left
  · intro w'
    go_simp
    with_reducible rfl
  rotate_left
  · simp only [Act.put, List.setIfInBounds_toArray, List.set_cons_zero, List.set_cons_succ, i64_w, i32_w]
    rfl
  refine pure_ (i := 9) (N := some 15) (v := ?_) (a' := ?_) #[true, true, true, true, true, true, true, true, true, true] rfl rfl (any_of HT_.out (by kernel_rfl)) (fun _ _ _ h => h) (Or.inl ⟨by rfl, ?_⟩) ?_ ?_
  rotate_left
  · intro w'
    go_simp
    with_reducible rfl
  rotate_left
  · simp only [Act.put, List.setIfInBounds_toArray, List.set_cons_zero, List.set_cons_succ, i64_w, i32_w]
    rfl
  refine done_ (done_of HT_.out (by kernel_rfl)) ?_
  clear HO60
  go_wp2_with (fail)
  go_at_call 25
  (with_reducible refine (laws_eqTryS.calls k _ _ gs_r1 _ _ ws_r1 true _ ?side1 ?side2 ?side3 ?side4 HE_gs_r1_ws_r1.out).mono ?_)
  (case side1 => repeat (first | exact (Kd.R_reads' HO69.out).2.2 | (with_reducible refine Kd.C_alloc ?_ _) | (with_reducible refine Kd.C_drewN ?_ _) | (with_reducible refine Kd.C_drew ?_)))
  (case side2 => exact (Kd.R_reads' HO69.out).2.1)
  (case side3 => repeat (first | exact (Kd.R_reads' HO19.out).2.2 | (with_reducible refine Kd.C_alloc ?_ _) | (with_reducible refine Kd.C_drewN ?_ _) | (with_reducible refine Kd.C_drew ?_)))
  (case side4 => exact (Kd.R_reads' HO19.out).2.1)
  rintro e w_74 ⟨rfl, hb⟩
  have HBi := Aside0.mk (below_step (by repeat (first | (with_reducible first | exact Below.refl _ _ | apply below_alloc | apply pw_below_drewN | apply below_drew1) | exact Below.refl _ _)) hb : Below w_67.heap.size w_67 w_74)
  clear hb
  have HBn := Aside0.mk (below_step HB.out HBi.out)
  clear HB
  have HB := HBn
  clear HBn
  have HS75 := Aside0.mk HBi.out.size
  have n0_ := Aside0.mk (blk_below BK2.out HBi.out)
  clear BK2
  have BK2 := n0_
  clear n0_
  have n0_ := Aside0.mk (Kd.R_below HO19.out HBi.out)
  clear HO19
  have HO19 := n0_
  clear n0_
  have n0_ := Aside0.mk (Kd.R_below HO34.out HBi.out)
  clear HO34
  have HO34 := n0_
  clear n0_
  have n0_ := Aside0.mk (Kd.R_below HO69.out HBi.out)
  clear HO69
  have HO69 := n0_
  clear n0_
  clear HBi
  go_wp2_with (fail)
  go_at_call 27
  (with_reducible refine (laws_heldTryS.calls k _ _ ml_1 101 mk_1 _ ?side1 ?side2 HH_ml_1.out).mono ?_)
  (case side1 => repeat (first | exact (Kd.R_reads' HO34.out).2.2 | (with_reducible refine Kd.C_alloc ?_ _) | (with_reducible refine Kd.C_drewN ?_ _) | (with_reducible refine Kd.C_drew ?_)))
  (case side2 => exact (Kd.R_reads' HO34.out).2.1)
  rintro e w_76 ⟨rfl, hd⟩
  have hb := hd.below
  clear hd
  have HBi := Aside0.mk (below_step (by repeat (first | (with_reducible first | exact Below.refl _ _ | apply below_alloc | apply pw_below_drewN | apply below_drew1) | exact Below.refl _ _)) hb : Below w_74.heap.size w_74 w_76)
  clear hb
  have HBn := Aside0.mk (below_step HB.out HBi.out)
  clear HB
  have HB := HBn
  clear HBn
  have HS77 := Aside0.mk HBi.out.size
  have n0_ := Aside0.mk (blk_below BK2.out HBi.out)
  clear BK2
  have BK2 := n0_
  clear n0_
  have n0_ := Aside0.mk (Kd.R_below HO19.out HBi.out)
  clear HO19
  have HO19 := n0_
  clear n0_
  have n0_ := Aside0.mk (Kd.R_below HO34.out HBi.out)
  clear HO34
  have HO34 := n0_
  clear n0_
  have n0_ := Aside0.mk (Kd.R_below HO69.out HBi.out)
  clear HO69
  have HO69 := n0_
  clear n0_
  clear HBi
  have hn_ := HMN1.out
  go_wp2_with (fail)
  clear hn_
  go_wp2
  go_ret
  exact ⟨by first | rfl | (simp; done) | (simp [*]; done), by repeat (first | (with_reducible first | exact HB.out | apply below_alloc | apply pw_below_drewN | apply below_drew1) | exact HB.out)⟩

/-- What is to be told of the answers, for the law to tell true. -/
structure laws_FnExactAddTry.Facts (k : Nat) (l0 : List (S33)) (a1_0 : Int) (a1_1 : Int) (a1_2 : Bool) (xs0 : List (S36)) (ext0 : List (S36)) (extb0 : List (S36)) (rm0 : Int) (t_1 : Int) (ws_r1 : List (S36)) (res_r2 : Int) (gs_r1 : List (S36)) (mk_0 : Int) (ml_0 : List (S36)) (mk_1 : Int) (ml_1 : List (S36)) : Prop where
  hto0 : laws_toTrySX.f k l0 false = some ext0
  htob0 : laws_toTrySX.f k l0 true = some extb0
  hxl0 : xs0.length = l0.length
  hnb0 : extb0 = [] → l0.length = 0
  hne0 : ¬ (ext0 = [])
  hxe0 : xs0 = ext0.take xs0.length
  hxb0 : xs0 = extb0.take xs0.length
  hle0 : xs0.length ≤ ext0.length
  hlb0 : xs0.length ≤ extb0.length
  hrm0 : laws_roomBehind.f (xs0.length : Int) = some rm0
  hj0 : wrap64 ((xs0.length : Int) + rm0) = (ext0.length : Int)
  heqx0 : laws_eqTryS.f k ext0 ext0 = some true
  hz1 : laws_szTryS.f l0 1000000 = some t_1
  hn1 : decide (t_1 < 0) = false
  hfspec : spec_AddTry.f k xs0 a1_0 a1_1 a1_2 = some (ws_r1, res_r2)
  hvax : laws_toTry.f a1_0 a1_1 a1_2 = some (a1_0, a1_1, a1_2)
  hfimpl : impl_AddTry.f k xs0 a1_0 a1_1 a1_2 = some (gs_r1, res_r2)
  he_gs_r1_ws_r1 : laws_eqTryS.f k gs_r1 ws_r1 = some true
  hm0 : laws_markTryS.f k xs0 101 = some (mk_0, ml_0)
  hmn0 : decide (mk_0 < 0) = false
  hm1 : laws_markTryS.f k gs_r1 101 = some (mk_1, ml_1)
  hmn1 : decide (mk_1 < 0) = false
  hml1 : gs_r1.length = ml_1.length
  hh_ml_1 : laws_heldTryS.f k ml_1 101 = some mk_1
/-- The statement over numbers and lists. -/
def laws_FnExactAddTry.Pure : Prop := ∀ (l0 : List (S33)) (a1_0 : Int) (a1_1 : Int) (a1_2 : Bool), l0.length ≤ 9223372036854775807 → (Lit.int .i64 a1_0).wf = true → (Lit.int .i64 a1_1).wf = true → 
    (∃ t_1, laws_szTryS.f l0 1000000 = some t_1 ∧ decide (t_1 < 0) = true) ∨
    (∃ k xs0 ext0 extb0 rm0 t_1 ws_r1 res_r2 gs_r1 mk_0 ml_0 mk_1 ml_1, laws_FnExactAddTry.Facts k l0 a1_0 a1_1 a1_2 xs0 ext0 extb0 rm0 t_1 ws_r1 res_r2 gs_r1 mk_0 ml_0 mk_1 ml_1)

theorem laws_FnExactAddTry.walk (P_ : laws_FnExactAddTry.Pure) (A0 : Option Addr) (c0 : Nat) (l0 : List (S33)) (a1_0 : Int) (a1_1 : Int) (a1_2 : Bool) (w : World) (hr0 : Kd.C k33 w A0 l0.length l0) (hc0 : l0.length ≤ c0) (wa1_0 : (Lit.int .i64 a1_0).wf = true) (wa1_1 : (Lit.int .i64 a1_1).wf = true) :
    Calls Try.prog 6 #[.slice A0 l0.length c0, .agg #[.int .i64 a1_0, .int .i64 a1_1, .bool a1_2]] w fun e w' => e = .returned (.bool true) ∧ Below w.heap.size w w' := by
  rcases P_ l0 a1_0 a1_1 a1_2 (Kd.C_max hr0) wa1_0 wa1_1 with ⟨t_1, h0_, h1_⟩ | ⟨k, xs0, ext0, extb0, rm0, t_1, ws_r1, res_r2, gs_r1, mk_0, ml_0, mk_1, ml_1, F⟩
  · exact laws_FnExactAddTry.skip1_ _ _ l0 a1_0 a1_1 a1_2 w hr0 hc0 t_1 h0_ h1_
  · exact laws_FnExactAddTry.true_ k _ _ l0 a1_0 a1_1 a1_2 w hr0 hc0 xs0 ext0 extb0 rm0 t_1 ws_r1 res_r2 gs_r1 mk_0 ml_0 mk_1 ml_1 F.hto0 F.htob0 F.hxl0 F.hnb0 F.hne0 F.hxe0 F.hxb0 F.hle0 F.hlb0 F.hrm0 F.hj0 F.heqx0 F.hz1 F.hn1 F.hfspec F.hvax F.hfimpl F.he_gs_r1_ws_r1 F.hm0 F.hmn0 F.hm1 F.hmn1 F.hml1 F.hh_ml_1

end Go.Proofs.Ythnpffomoaeeoaa.PFnExactAddTry
