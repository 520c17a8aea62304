/- FnExactStorePieces: the parts of the law that look behind a row's length, and the law's walk: with the answers that the functions give, it tells true. -/
import Derived.Test.YtdgglhfnlljmeaaQFnExactStorePiecesx16
namespace Go.Proofs.Ytdgglhfnlljmeaa.PFnExactStorePieces
open Go.RowKit Go.Proofs.YtdgglhfnlljmeaaW.PrintWords Go.Proofs.YtdgglhfnlljmeaaW.PrintLast Go.Proofs.YtdgglhfnlljmeaaW.PrintMore
attribute [local go_sem] max2_int min2_int max_two min_two max_three min_three max_four min_four   -- for this text's walks alone
set_option linter.unusedVariables false
set_option linter.unusedSimpArgs false
open Go.Proofs.YtdgglhfnlljmeaaX
theorem zt8 {P : Program} {ops : Array Oper} {Q : Exit → Act → World → Prop} {md : Region.Mode} {S : World → Prop} {ds : List Nat} {T : Bool × List (List Nat × List Nat)} {oi : Oper} {v : Value} {fuel : Nat} {l : Array Bool} {a a' : Act} {w : World} {B : List Nat} (HT : Aside0 (rtab md ops = T)) (HW : Aside0 (waitsOk T.2 B = true)) (hS : S w) (i : Nat) (N : Tmp) (l' : Array Bool) (h : wpAnyLast P md ops Q S ds fuel l' a' w) (hi : ops[i]? = some oi := by rfl) (hN : oi.dst = some N := by rfl) (hc : takeW T B ds l.toList l'.toList i = true := by kernel_rfl) (hQ : ∀ c a w, Q (.panic c) (a.put oi.dst v) w → Q (.panic c) a w := by exact fun _ _ _ h => h) (hy : YieldsIf P ops S oi v a := by exact Or.inl ⟨by rfl, by rintro w' ⟨s0, s1, s2, s3, s4, s5, s6, s7⟩; go_simp; with_reducible rfl⟩) (ha : a.put (some N) v = a' := by simp only [Act.put, List.setIfInBounds_toArray, List.set_cons_zero, List.set_cons_succ, i64_w, i32_w]; rfl) : wpAnyLast P md ops Q S ds (fuel + 1) l a w := take_ l' hi hN (take_ofW HT.out HW.out hc) hQ hy hS ha h
theorem zy {p : Prop} (h : p := by repeat (first | (with_reducible first | exact Below.refl _ _ | apply below_alloc | apply pw_below_drewN | apply below_drew1) | exact Below.refl _ _)) : p := h

/-! ### laws_intactArticleS, over rows with what lies behind their lengths: function 20 -/
def laws_intactArticleS.T2 : Bool × List (List Nat × List Nat) := (true, [([], []), ([0], [0]), ([], []), ([2], [2]), ([1, 3], [1, 3]), ([4], [4]), ([5], [5]), ([5], [5]), ([6, 7, 5], [5, 6, 7]), ([5], [5]), ([5], [5]), ([9, 10, 5], [5, 9, 10]), ([8, 11, 5, 5], [5, 8, 11]), ([5, 12], [5, 12]), ([13, 12, 0, 1, 2, 3, 4, 5, 6, 7, 8, 9, 10, 11, 12, 13], [13])])
def laws_intactArticleS.B2 : List Nat := [0, 1, 0, 4, 15, 31, 63, 63, 255, 63, 63, 1599, 4095, 8191, 16383]
theorem laws_intactArticleS.tab2 : rtab .any (opsOf Try.f20 2) = laws_intactArticleS.T2 := by kernel_rfl
theorem laws_intactArticleS.bits2 : waitsOk laws_intactArticleS.T2.2 laws_intactArticleS.B2 = true := by kernel_rfl
set_option maxHeartbeats 8000000 in
set_option maxRecDepth 100000 in
theorem laws_intactArticleSX.calls (k : Nat) (A0 : Option Addr) (c0 : Nat) (l0 : List (S65)) (A1 : Option Addr) (c1 : Nat) (l1 : List (S65)) (n0 : Nat) (rm : Int) (r : Bool) (w : World) (hr0 : Kd.C k65 w A0 l0.length l0) (hc0 : l0.length ≤ c0) (hr1 : Kd.C k65 w A1 l1.length l1) (hc1 : l1.length ≤ c1) (hrm : laws_roomBehind.f (n0 : Int) = some rm) (hj : wrap64 ((n0 : Int) + rm) = (l0.length : Int)) (hl : l1.length = l0.length) (h : laws_eqArticleS.f k l0 l1 = some r) :
    Calls Try.prog 20 #[.slice A0 n0 c0, .slice A1 n0 c1] w fun e w' => e = .returned (.bool r) ∧ Below w.heap.size w w' := by
  have HR0 := jA hr0
  have HR1 := jA hr1
  have HC0 := jA hc0
  have HC1 := jA hc1
  have HL := jA hl
  clear hr0 hr1 hc0 hc1 hl
  have HB := jA (Below.refl w.heap.size w)
  obtain ⟨ji5, hji5⟩ : ∃ j_ : Int, j_ = (l0.length : Int) := ⟨_, rfl⟩
  rw [← hji5] at hj
  have HJ := jA hji5
  have hji5w : (IntKind.i64.wrap ((n0 : Int) + rm)) = ji5 := (i64_w _).trans hj
  clear hji5
  have A3 := jA hrm
  have A10 := jA h
  clear hrm h
  go_enter Try.func20, Try.ntmps20
  try go_wp2_with (first | (go_at_call 48; (with_reducible refine (laws_roomBehind.calls (n0 : Int) rm _ A3.out).mono ?_); rintro e w' ⟨rfl, ⟨nd, rfl⟩⟩))
  have n0_ := jA (below_drew1 (pw_below_drewN HB.out nd))
  clear HB
  have HB := n0_
  clear n0_
  obtain ⟨i0, hi0, _, hsz0, _⟩ := info_parts info65
  have hcut0 := cut_cap (P := Try.prog) 31 65 .i64 Try.underlying31 hi0 A0 n0 c0 l0.length ji5 HJ.out HC0.out
  have hcut1 := cut_cap (P := Try.prog) 31 65 .i64 Try.underlying31 hi0 A1 n0 c1 l1.length ji5 (HJ.out.trans (by rw [HL.out])) HC1.out
  clear hi0 hsz0
  refine start_ (n := 15) (S := fun w' => True) (ds := []) #[false, false, false, false, false, false, false, false, false, false, false, false, false, false, false] zr rfl rfl trivial (fun hHeld => ?_); refine with_tabW laws_intactArticleS.tab2 laws_intactArticleS.bits2 (fun HT_ HW_ => ?_)
  try generalize (w.drewN nd).drew = w11 at HB hHeld ⊢
  refine zp HT_ 0 12 #[true, false, false, false, false, false, false, false, false, false, false, false, false, false, false] ?_
  refine zp HT_ 1 13 #[true, true, false, false, false, false, false, false, false, false, false, false, false, false, false] ?_
  refine zp HT_ 2 14 #[true, true, true, false, false, false, false, false, false, false, false, false, false, false, false] ?_
  refine zp HT_ 3 15 #[true, true, true, true, false, false, false, false, false, false, false, false, false, false, false] ?_
  refine zp HT_ 4 16 #[true, true, true, true, true, false, false, false, false, false, false, false, false, false, false] ?_
  refine zp HT_ 5 17 #[true, true, true, true, true, true, false, false, false, false, false, false, false, false, false] ?_
  refine zp HT_ 6 18 #[true, true, true, true, true, true, true, false, false, false, false, false, false, false, false] ?_
  refine zp HT_ 7 19 #[true, true, true, true, true, true, true, true, false, false, false, false, false, false, false] ?_
  refine zp HT_ 8 20 #[true, true, true, true, true, true, true, true, true, false, false, false, false, false, false] ?_
  refine zp HT_ 9 21 #[true, true, true, true, true, true, true, true, true, true, false, false, false, false, false] ?_
  refine zp HT_ 10 22 #[true, true, true, true, true, true, true, true, true, true, true, false, false, false, false] ?_
  refine zp HT_ 11 23 #[true, true, true, true, true, true, true, true, true, true, true, true, false, false, false] ?_
  refine one_ (i := 12) (N := some 24) #[true, true, true, true, true, true, true, true, true, true, true, true, true, false, false] rfl rfl (one_of HT_.out zr) (by decide) (fun K hK => ?_)
  refine goes_ Try.func53 zr rfl #[.slice A0 l0.length c0, .slice A1 l1.length c1] (by rfl) rfl rfl zm ?_
  with_reducible refine (laws_eqArticleS.calls k _ _ l0 _ _ l1 r _ ?side1 ?side2 ?side3 ?side4 A10.out).mono ?_
  (case side1 => exact zs HR0 HB)
  (case side2 => exact HC0.out)
  (case side3 => exact zs HR1 HB)
  (case side4 => exact HC1.out)
  rintro e w14 ⟨rfl, hd⟩
  have hb : Below _ _ w14 := hd
  refine ⟨_, rfl, ?_⟩
  have n0_ := jA (jJ (by repeat (first | (with_reducible first | exact HB.out | exact Below.refl _ _ | apply below_alloc | apply pw_below_drewN | apply below_drew1) | exact HB.out)) hb)
  clear HB hb hd
  have HB := n0_
  clear n0_
  refine hK.out _ _ trivial (fun hHeld => ?_)
  clear hK K
  refine norm_ (a' := ?_) ?_ ?_
  rotate_left
  · show Act.put _ (some 24) _ = _
    simp only [Act.put, jL, jS, jT, i64_w, i32_w]
    rfl
  refine zp HT_ 13 25 #[true, true, true, true, true, true, true, true, true, true, true, true, true, true, false] ?_
  refine zp HT_ 14 4 #[true, true, true, true, true, true, true, true, true, true, true, true, true, true, true] ?_
  refine done_ (done_of HT_.out zr) ?_
  try go_wp2
  go_ret
  exact ⟨by first | rfl | (simp [errW_none, errW_some] <;> rfl) | (simp [*, errW_none, errW_some] <;> rfl), zb0 HB⟩
/-! ### laws_intactInt64S, over rows with what lies behind their lengths: function 54 -/
set_option maxHeartbeats 8000000 in
set_option maxRecDepth 100000 in
theorem laws_intactInt64SX.calls (k : Nat) (A0 : Option Addr) (c0 : Nat) (l0 : List Int) (A1 : Option Addr) (c1 : Nat) (l1 : List Int) (n0 : Nat) (rm : Int) (r : Bool) (w : World) (hr0 : Kd.C (Kd.int .i64) w A0 l0.length l0) (hc0 : l0.length ≤ c0) (hr1 : Kd.C (Kd.int .i64) w A1 l1.length l1) (hc1 : l1.length ≤ c1) (hrm : laws_roomBehind.f (n0 : Int) = some rm) (hj : wrap64 ((n0 : Int) + rm) = (l0.length : Int)) (hl : l1.length = l0.length) (h : laws_eqInt64S.f k l0 l1 = some r) :
    Calls Try.prog 54 #[.slice A0 n0 c0, .slice A1 n0 c1] w fun e w' => e = .returned (.bool r) ∧ Below w.heap.size w w' := by
  have HR0 := jA hr0
  have HR1 := jA hr1
  have HC0 := jA hc0
  have HC1 := jA hc1
  have HL := jA hl
  clear hr0 hr1 hc0 hc1 hl
  obtain ⟨ji5, hji5⟩ : ∃ j_ : Int, j_ = (l0.length : Int) := ⟨_, rfl⟩
  rw [← hji5] at hj
  have HJ := jA hji5
  have hji5w : (IntKind.i64.wrap ((n0 : Int) + rm)) = ji5 := (i64_w _).trans hj
  clear hji5
  have A3 := jA hrm
  have A10 := jA h
  clear hrm h
  obtain ⟨i0, hi0, _, hsz0, _⟩ := info_parts info2
  have hcut0 := cut_cap (P := Try.prog) 23 2 .i64 Try.underlying23 hi0 A0 n0 c0 l0.length ji5 HJ.out HC0.out
  have hcut1 := cut_cap (P := Try.prog) 23 2 .i64 Try.underlying23 hi0 A1 n0 c1 l1.length ji5 (HJ.out.trans (by rw [HL.out])) HC1.out
  clear hi0 hsz0
  go_enter Try.func54, Try.ntmps54
  go_wp2_with (first | (go_at_call 48; (with_reducible refine (laws_roomBehind.calls (n0 : Int) rm _ A3.out).mono ?_); rintro e w' ⟨rfl, ⟨nd, rfl⟩⟩; (try first | exact ⟨rfl, _, World.drewN_drewN _ _ _⟩ | exact ⟨rfl, _, Eq.trans (World.drewN_drewN _ _ _) (congrArg (World.drewN _) (Nat.add_assoc _ _ _))⟩)) | (go_at_call 52; (with_reducible refine (laws_eqInt64S.calls k _ _ l0 _ _ l1 r _ ?side1 ?side2 ?side3 ?side4 A10.out).mono ?_); (case side1 => repeat (first | exact HR0.out | (with_reducible refine Kd.C_alloc ?_ _) | (with_reducible refine Kd.C_drewN ?_ _) | (with_reducible refine Kd.C_drew ?_))); (case side2 => exact HC0.out); (case side3 => repeat (first | exact HR1.out | (with_reducible refine Kd.C_alloc ?_ _) | (with_reducible refine Kd.C_drewN ?_ _) | (with_reducible refine Kd.C_drew ?_))); (case side4 => exact HC1.out); rintro e w' ⟨rfl, ⟨nd, rfl⟩⟩; (try first | exact ⟨rfl, _, World.drewN_drewN _ _ _⟩ | exact ⟨rfl, _, Eq.trans (World.drewN_drewN _ _ _) (congrArg (World.drewN _) (Nat.add_assoc _ _ _))⟩)))
  repeat (go_quiet (first | (go_at_call 48; (with_reducible refine (laws_roomBehind.calls (n0 : Int) rm _ A3.out).mono ?_); rintro e w' ⟨rfl, ⟨nd, rfl⟩⟩; (try first | exact ⟨rfl, _, World.drewN_drewN _ _ _⟩ | exact ⟨rfl, _, Eq.trans (World.drewN_drewN _ _ _) (congrArg (World.drewN _) (Nat.add_assoc _ _ _))⟩)) | (go_at_call 52; (with_reducible refine (laws_eqInt64S.calls k _ _ l0 _ _ l1 r _ ?side1 ?side2 ?side3 ?side4 A10.out).mono ?_); (case side1 => repeat (first | exact HR0.out | (with_reducible refine Kd.C_alloc ?_ _) | (with_reducible refine Kd.C_drewN ?_ _) | (with_reducible refine Kd.C_drew ?_))); (case side2 => exact HC0.out); (case side3 => repeat (first | exact HR1.out | (with_reducible refine Kd.C_alloc ?_ _) | (with_reducible refine Kd.C_drewN ?_ _) | (with_reducible refine Kd.C_drew ?_))); (case side4 => exact HC1.out); rintro e w' ⟨rfl, ⟨nd, rfl⟩⟩; (try first | exact ⟨rfl, _, World.drewN_drewN _ _ _⟩ | exact ⟨rfl, _, Eq.trans (World.drewN_drewN _ _ _) (congrArg (World.drewN _) (Nat.add_assoc _ _ _))⟩))); try go_wp2_with (first | (go_at_call 48; (with_reducible refine (laws_roomBehind.calls (n0 : Int) rm _ A3.out).mono ?_); rintro e w' ⟨rfl, ⟨nd, rfl⟩⟩; (try first | exact ⟨rfl, _, World.drewN_drewN _ _ _⟩ | exact ⟨rfl, _, Eq.trans (World.drewN_drewN _ _ _) (congrArg (World.drewN _) (Nat.add_assoc _ _ _))⟩)) | (go_at_call 52; (with_reducible refine (laws_eqInt64S.calls k _ _ l0 _ _ l1 r _ ?side1 ?side2 ?side3 ?side4 A10.out).mono ?_); (case side1 => repeat (first | exact HR0.out | (with_reducible refine Kd.C_alloc ?_ _) | (with_reducible refine Kd.C_drewN ?_ _) | (with_reducible refine Kd.C_drew ?_))); (case side2 => exact HC0.out); (case side3 => repeat (first | exact HR1.out | (with_reducible refine Kd.C_alloc ?_ _) | (with_reducible refine Kd.C_drewN ?_ _) | (with_reducible refine Kd.C_drew ?_))); (case side4 => exact HC1.out); rintro e w' ⟨rfl, ⟨nd, rfl⟩⟩; (try first | exact ⟨rfl, _, World.drewN_drewN _ _ _⟩ | exact ⟨rfl, _, Eq.trans (World.drewN_drewN _ _ _) (congrArg (World.drewN _) (Nat.add_assoc _ _ _))⟩))))
  go_ret
  exact ⟨by first | rfl | (simp; done) | (simp [*]; done), zy⟩
/-! ### laws_intactMagazine, over the row with what lies behind its length: function 21 -/
set_option maxHeartbeats 8000000 in
set_option maxRecDepth 100000 in
theorem laws_intactMagazineX.calls (k : Nat) (a0_0 : Int) (A0_1 : Option Addr) (c0_1 : Nat) (l0_1 : List Int) (A1_1 : Option Addr) (c1_1 : Nat) (l1_1 : List Int) (n0 : Nat) (rm : Int) (w : World) (hr0_1 : Kd.C (Kd.int .i64) w A0_1 l0_1.length l0_1) (hc0_1 : l0_1.length ≤ c0_1) (hr1_1 : Kd.C (Kd.int .i64) w A1_1 l1_1.length l1_1) (hc1_1 : l1_1.length ≤ c1_1) (hrm : laws_roomBehind.f (n0 : Int) = some rm) (hj : wrap64 ((n0 : Int) + rm) = (l0_1.length : Int)) (hl : l1_1.length = l0_1.length) (h : laws_eqInt64S.f k l0_1 l1_1 = some true) :
    Calls Try.prog 21 #[.agg #[.int .i64 a0_0, .slice A0_1 n0 c0_1], .agg #[.int .i64 a0_0, .slice A1_1 n0 c1_1]] w fun e w' => e = .returned (.bool true) ∧ Below w.heap.size w w' := by
  have hu28 := Try.underlying28
  have HR0_1 := jA hr0_1
  have HC0_1 := jA hc0_1
  have HR1_1 := jA hr1_1
  have HC1_1 := jA hc1_1
  clear hr0_1 hc0_1 hr1_1 hc1_1
  have HRM := jA hrm
  have HJ := jA hj
  have HL := jA hl
  have A4 := jA h
  clear hrm hj hl h
  have HB := jA (Below.refl w.heap.size w)
  have c3b1 : (a0_0 != a0_0) = false := bne_self_eq_false _
  have c3b0 : (a0_0 == a0_0) = true := beq_self_eq_true _
  go_enter Try.func21, Try.ntmps21
  go_wp2_with (first | ((with_reducible refine jV (N := 2) rfl ?_); refine jU ?hg (N := 2) ?hd (cs := #[.int .i64 a0_0, .slice A0_1 n0 c0_1]) (t := 28) ?hr ?_; (case hd => rfl); (case hg => rfl); (case hr => first | (go_simp; done) | (go_simp; rfl)); intro gb178 hg w6 hbox hb; have n0_ := jA (jJ (zb0 HB) hb); have n1_ := jA (hbox); have n2_ := jA ((by rw [hg]; exact (jF (zb0 HB)) : w.heap.size ≤ gb178)); have n3_ := jA ((by rw [hg]; exact (jF (zb0 HB)) : w.heap.size ≤ gb178)); clear HB; have HB := n0_; have BK178 := n1_; have GW178 := n2_; have GE178 := n3_; clear n0_ n1_ n2_ n3_; clear hb hbox hg) | ((with_reducible refine jV (N := 3) rfl ?_); refine jU ?hg (N := 3) ?hd (cs := #[.int .i64 a0_0, .slice A1_1 n0 c1_1]) (t := 28) ?hr ?_; (case hd => rfl); (case hg => rfl); (case hr => first | (go_simp; done) | (go_simp; rfl)); intro gb179 hg w7 hbox hb; have n0_ := jA (jO (g := gb178) (o := .cells #[.int .i64 a0_0, .slice A0_1 n0 c0_1] 28 (0, 0)) (zk BK178) hb); have n1_ := jA (jJ (zb1 HB GE178) hb); have n2_ := jA (hbox); have n3_ := jA ((by rw [hg]; exact (jF (zb1 HB GE178)) : w.heap.size ≤ gb179)); have n4_ := jA ((by rw [hg]; exact (jF (zb1 HB GE178)) : w.heap.size ≤ gb179)); have n5_ := jA ((by rw [hg]; exact jN (blk_lt (g := gb178) (o := .cells #[.int .i64 a0_0, .slice A0_1 n0 c0_1] 28 (0, 0)) (zk BK178)) : gb178 ≠ gb179)); have n6_ := jA n5_.out.symm; clear BK178; clear HB; have BK178 := n0_; have HB := n1_; have BK179 := n2_; have GW179 := n3_; have GE179 := n4_; have NB178_179 := n5_; have NB179_178 := n6_; clear n0_ n1_ n2_ n3_ n4_ n5_ n6_; clear hb hbox hg; have hnb8 := NB178_179.out; have hnc8 := NB179_178.out; have hcz9_0 : w7.cell? ⟨gb178, 0, none⟩ = some (.int .i64 a0_0) := (jD BK178.out 0).trans rfl; have hcz9_1 : w7.cell? ⟨gb178, 1, none⟩ = some (.slice A0_1 n0 c0_1) := (jD BK178.out 1).trans rfl; have hfz9_0 := jC BK178.out 0; have hfz9_1 := jC BK178.out 1; have hcz10_0 : w7.cell? ⟨gb179, 0, none⟩ = some (.int .i64 a0_0) := (jD BK179.out 0).trans rfl; have hcz10_1 : w7.cell? ⟨gb179, 1, none⟩ = some (.slice A1_1 n0 c1_1) := (jD BK179.out 1).trans rfl; have hfz10_0 := jC BK179.out 0; have hfz10_1 := jC BK179.out 1) | ((with_reducible refine jW (f := 54) rfl ?_); refine goesL_ (some 14) rfl rfl Try.func54 zr rfl #[.slice A0_1 n0 c0_1, .slice A1_1 n0 c1_1] rfl zm ?_; (with_reducible refine (laws_intactInt64SX.calls k _ _ l0_1 _ _ l1_1 n0 rm true _ ?side1 ?side2 ?side3 ?side4 HRM.out HJ.out HL.out A4.out).mono ?_); (case side1 => repeat (first | exact (Kd.C_below HR0_1.out HB.out) | (with_reducible refine Kd.C_alloc ?_ _) | (with_reducible refine Kd.C_drewN ?_ _) | (with_reducible refine Kd.C_drew ?_))); (case side2 => exact HC0_1.out); (case side3 => repeat (first | exact (Kd.C_below HR1_1.out HB.out) | (with_reducible refine Kd.C_alloc ?_ _) | (with_reducible refine Kd.C_drewN ?_ _) | (with_reducible refine Kd.C_drew ?_))); (case side4 => exact HC1_1.out); rintro e w9_ ⟨rfl, hb⟩; refine ⟨_, rfl, ?_⟩; have n0_ := jA (jJ (zb1 HB GE178) hb); clear HB hb; have HB := n0_; clear n0_))
  go_ret
  exact ⟨by first | rfl | (simp [errW_none, errW_some] <;> rfl) | (simp [*, errW_none, errW_some] <;> rfl), zb2 HB GE178 GE179⟩

/-! ### the law: function 12 -/
def laws_FnExactStorePieces.T8 : Bool × List (List Nat × List Nat) := (true, [([], []), ([0], [0]), ([], []), ([2, 1], [2]), ([], []), ([], []), ([1, 3, 4, 5, 3], [1, 3, 4, 5]), ([6], [6]), ([7], [7]), ([7], [7]), ([], []), ([10, 8, 6, 0, 1, 2, 3, 4, 5, 6, 7, 8, 10], [8, 10]), ([9, 11, 0, 1, 2, 3, 4, 5, 6, 7, 8, 9, 10, 11], [9])])
def laws_FnExactStorePieces.B8 : List Nat := [0, 1, 0, 7, 0, 0, 63, 127, 255, 255, 0, 1535, 4095]
theorem laws_FnExactStorePieces.tab8 : rtab .any (opsOf Try.f12 8) = laws_FnExactStorePieces.T8 := by kernel_rfl
theorem laws_FnExactStorePieces.bits8 : waitsOk laws_FnExactStorePieces.T8.2 laws_FnExactStorePieces.B8 = true := by kernel_rfl
def laws_FnExactStorePieces.T31 : Bool × List (List Nat × List Nat) := (true, [([], []), ([0], [0]), ([], []), ([2, 1], [2]), ([], []), ([], []), ([1, 3, 4, 5, 3], [1, 3, 4, 5]), ([6], [6]), ([7], [7]), ([7], [7]), ([], []), ([10, 8, 6, 0, 1, 2, 3, 4, 5, 6, 7, 8, 10], [8, 10]), ([9, 11, 0, 1, 2, 3, 4, 5, 6, 7, 8, 9, 10, 11], [9])])
def laws_FnExactStorePieces.B31 : List Nat := [0, 1, 0, 7, 0, 0, 63, 127, 255, 255, 0, 1535, 4095]
theorem laws_FnExactStorePieces.tab31 : rtab .any (opsOf Try.f12 31) = laws_FnExactStorePieces.T31 := by kernel_rfl
theorem laws_FnExactStorePieces.bits31 : waitsOk laws_FnExactStorePieces.T31.2 laws_FnExactStorePieces.B31 = true := by kernel_rfl
set_option maxHeartbeats 8000000 in
set_option maxRecDepth 100000 in
theorem laws_FnExactStorePieces.skip1_ (A0 : Option Addr) (c0 : Nat) (l0 : List (S62)) (a1_0 : Int) (A1_1 : Option Addr) (c1_1 : Nat) (l1_1 : List Int) (a2 : ByteArray) (a3 : Int) (w : World) (hr0 : Kd.C k62 w A0 l0.length l0) (hc0 : l0.length ≤ c0) (hr1_1 : Kd.C (Kd.int .i64) w A1_1 l1_1.length l1_1) (hc1_1 : l1_1.length ≤ c1_1) (k : Nat) (t_1 : Int) (hz1_ : laws_szArticleS.f k l0 (wrap64 (1000000 - ((a2.size : Int)))) = some t_1) (hn_ : decide (t_1 < 0) = true) :
    Calls Try.prog 12 #[.slice A0 l0.length c0, .agg #[.int .i64 a1_0, .slice A1_1 l1_1.length c1_1], .string a2, .int .i64 a3] w fun e w' => e = .returned (.bool true) ∧ Below w.heap.size w w' := by
  have HR0 := jA hr0
  have HC0 := jA hc0
  have HR1_1 := jA hr1_1
  have HC1_1 := jA hc1_1
  clear hr0 hc0 hr1_1 hc1_1
  have HZ1 := jA hz1_
  have HN := jA hn_
  clear hz1_ hn_
  have HB := jA (Below.refl w.heap.size w)
  go_enter Try.func12, Try.ntmps12
  go_wp2_with (first | ((with_reducible refine jV (N := 5) rfl ?_); refine jU ?hg (N := 5) ?hd (cs := #[.int .i64 a1_0, .slice A1_1 l1_1.length c1_1]) (t := 25) ?hr ?_; (case hd => rfl); (case hg => rfl); (case hr => first | (go_simp; done) | (go_simp; rfl)); intro gb1 hg_ w_3 hbox hb; have BK2 := jA hbox; have HGgb1 : Aside0 (gb1 < w_3.heap.size) := ⟨blk_lt hbox⟩; have hbA_ := jA hb; clear hbox hg_ hb; have hcz_0 : w_3.cell? ⟨gb1, 0, none⟩ = some (.int .i64 a1_0) := (jD BK2.out 0).trans rfl; have hfz_0 := jC BK2.out 0; have hcz_1 : w_3.cell? ⟨gb1, 1, none⟩ = some (.slice A1_1 l1_1.length c1_1) := (jD BK2.out 1).trans rfl; have hfz_1 := jC BK2.out 1))
  clear hcz_0 hfz_0 hcz_1 hfz_1
  have hb := hbA_.out
  clear hbA_
  have HBi := jA (jJ (zy) hb : Below w.heap.size w w_3)
  clear hb
  have HBn := jA (jJ HB.out HBi.out)
  clear HB
  have HB := HBn
  clear HBn
  have HS4 := jA HBi.out.size
  clear HBi
  have HWw_3 := jA HB.out.size
  have hczgb1_0 : w_3.cell? ⟨gb1, 0, none⟩ = some (.int .i64 a1_0) := (jD BK2.out 0).trans rfl
  have hfzgb1_0 := jC BK2.out 0
  have hczgb1_1 : w_3.cell? ⟨gb1, 1, none⟩ = some (.slice A1_1 l1_1.length c1_1) := (jD BK2.out 1).trans rfl
  have hfzgb1_1 := jC BK2.out 1
  go_wp2_with (fail)
  clear hczgb1_0 hfzgb1_0 hczgb1_1 hfzgb1_1
  go_at_call 13
  (with_reducible refine (laws_szArticleS.calls k _ _ l0 (wrap64 (1000000 - ((a2.size : Int)))) t_1 _ ?side1 ?side2 HZ1.out).mono ?_)
  (case side1 => exact zs HR0 HB)
  (case side2 => exact HC0.out)
  rintro e w_5 ⟨rfl, hb⟩
  have HBi := jA (jJ (zy) hb : Below w_3.heap.size w_3 w_5)
  clear hb
  have HBn := jA (jJ HB.out HBi.out)
  clear HB
  have HB := HBn
  clear HBn
  have HS6 := jA HBi.out.size
  have n0_ := jA (jO BK2.out HBi.out)
  clear BK2
  have BK2 := n0_
  clear n0_
  clear HBi
  have HWw_5 := jA HB.out.size
  have hn_ := HN.out
  go_wp2
  go_ret
  exact ⟨by first | rfl | (simp; done) | (simp [*]; done), zb0 HB⟩

set_option maxHeartbeats 8000000 in
set_option maxRecDepth 100000 in
theorem laws_FnExactStorePieces.skip2_ (A0 : Option Addr) (c0 : Nat) (l0 : List (S62)) (a1_0 : Int) (A1_1 : Option Addr) (c1_1 : Nat) (l1_1 : List Int) (a2 : ByteArray) (a3 : Int) (w : World) (hr0 : Kd.C k62 w A0 l0.length l0) (hc0 : l0.length ≤ c0) (hr1_1 : Kd.C (Kd.int .i64) w A1_1 l1_1.length l1_1) (hc1_1 : l1_1.length ≤ c1_1) (k : Nat) (t_1 : Int) (t_2 : Int) (hz1_ : laws_szArticleS.f k l0 (wrap64 (1000000 - ((a2.size : Int)))) = some t_1) (hn1_ : decide (t_1 < 0) = false) (hz2_ : laws_szMagazine.f a1_0 l1_1 t_1 = some t_2) (hn_ : decide (t_2 < 0) = true) :
    Calls Try.prog 12 #[.slice A0 l0.length c0, .agg #[.int .i64 a1_0, .slice A1_1 l1_1.length c1_1], .string a2, .int .i64 a3] w fun e w' => e = .returned (.bool true) ∧ Below w.heap.size w w' := by
  have HR0 := jA hr0
  have HC0 := jA hc0
  have HR1_1 := jA hr1_1
  have HC1_1 := jA hc1_1
  clear hr0 hc0 hr1_1 hc1_1
  have HZ1 := jA hz1_
  have HN1 := jA hn1_
  have HZ2 := jA hz2_
  have HN := jA hn_
  clear hz1_ hn1_ hz2_ hn_
  have HB := jA (Below.refl w.heap.size w)
  go_enter Try.func12, Try.ntmps12
  go_wp2_with (first | ((with_reducible refine jV (N := 5) rfl ?_); refine jU ?hg (N := 5) ?hd (cs := #[.int .i64 a1_0, .slice A1_1 l1_1.length c1_1]) (t := 25) ?hr ?_; (case hd => rfl); (case hg => rfl); (case hr => first | (go_simp; done) | (go_simp; rfl)); intro gb1 hg_ w_3 hbox hb; have BK2 := jA hbox; have HGgb1 : Aside0 (gb1 < w_3.heap.size) := ⟨blk_lt hbox⟩; have hbA_ := jA hb; clear hbox hg_ hb; have hcz_0 : w_3.cell? ⟨gb1, 0, none⟩ = some (.int .i64 a1_0) := (jD BK2.out 0).trans rfl; have hfz_0 := jC BK2.out 0; have hcz_1 : w_3.cell? ⟨gb1, 1, none⟩ = some (.slice A1_1 l1_1.length c1_1) := (jD BK2.out 1).trans rfl; have hfz_1 := jC BK2.out 1))
  clear hcz_0 hfz_0 hcz_1 hfz_1
  have hb := hbA_.out
  clear hbA_
  have HBi := jA (jJ (zy) hb : Below w.heap.size w w_3)
  clear hb
  have HBn := jA (jJ HB.out HBi.out)
  clear HB
  have HB := HBn
  clear HBn
  have HS4 := jA HBi.out.size
  clear HBi
  have HWw_3 := jA HB.out.size
  have hczgb1_0 : w_3.cell? ⟨gb1, 0, none⟩ = some (.int .i64 a1_0) := (jD BK2.out 0).trans rfl
  have hfzgb1_0 := jC BK2.out 0
  have hczgb1_1 : w_3.cell? ⟨gb1, 1, none⟩ = some (.slice A1_1 l1_1.length c1_1) := (jD BK2.out 1).trans rfl
  have hfzgb1_1 := jC BK2.out 1
  go_wp2_with (fail)
  clear hczgb1_0 hfzgb1_0 hczgb1_1 hfzgb1_1
  go_at_call 13
  (with_reducible refine (laws_szArticleS.calls k _ _ l0 (wrap64 (1000000 - ((a2.size : Int)))) t_1 _ ?side1 ?side2 HZ1.out).mono ?_)
  (case side1 => exact zs HR0 HB)
  (case side2 => exact HC0.out)
  rintro e w_5 ⟨rfl, hb⟩
  have HBi := jA (jJ (zy) hb : Below w_3.heap.size w_3 w_5)
  clear hb
  have HBn := jA (jJ HB.out HBi.out)
  clear HB
  have HB := HBn
  clear HBn
  have HS6 := jA HBi.out.size
  have n0_ := jA (jO BK2.out HBi.out)
  clear BK2
  have BK2 := n0_
  clear n0_
  clear HBi
  have HWw_5 := jA HB.out.size
  have hn_ := HN1.out
  have hczgb1_0 : w_5.cell? ⟨gb1, 0, none⟩ = some (.int .i64 a1_0) := (jD BK2.out 0).trans rfl
  have hfzgb1_0 := jC BK2.out 0
  have hczgb1_1 : w_5.cell? ⟨gb1, 1, none⟩ = some (.slice A1_1 l1_1.length c1_1) := (jD BK2.out 1).trans rfl
  have hfzgb1_1 := jC BK2.out 1
  go_wp2_with (fail)
  clear hczgb1_0 hfzgb1_0 hczgb1_1 hfzgb1_1
  clear hn_
  have hczgb1_0 : w_5.cell? ⟨gb1, 0, none⟩ = some (.int .i64 a1_0) := (jD BK2.out 0).trans rfl
  have hfzgb1_0 := jC BK2.out 0
  have hczgb1_1 : w_5.cell? ⟨gb1, 1, none⟩ = some (.slice A1_1 l1_1.length c1_1) := (jD BK2.out 1).trans rfl
  have hfzgb1_1 := jC BK2.out 1
  go_wp2_with (fail)
  clear hczgb1_0 hfzgb1_0 hczgb1_1 hfzgb1_1
  go_at_call 14
  (with_reducible refine (laws_szMagazine.calls a1_0 _ _ l1_1 t_1 t_2 _ ?side1 ?side2 HZ2.out).mono ?_)
  (case side1 => exact zs HR1_1 HB)
  (case side2 => exact HC1_1.out)
  rintro e w_7 ⟨rfl, hb⟩
  have HBi := jA (jJ (zy) hb : Below w_5.heap.size w_5 w_7)
  clear hb
  have HBn := jA (jJ HB.out HBi.out)
  clear HB
  have HB := HBn
  clear HBn
  have HS8 := jA HBi.out.size
  have n0_ := jA (jO BK2.out HBi.out)
  clear BK2
  have BK2 := n0_
  clear n0_
  clear HBi
  have HWw_7 := jA HB.out.size
  have hn_ := HN.out
  go_wp2
  go_ret
  exact ⟨by first | rfl | (simp; done) | (simp [*]; done), zb0 HB⟩
set_option maxHeartbeats 8000000 in
set_option maxRecDepth 100000 in
theorem laws_FnExactStorePieces.true_ (k : Nat) (A0 : Option Addr) (c0 : Nat) (l0 : List (S62)) (a1_0 : Int) (A1_1 : Option Addr) (c1_1 : Nat) (l1_1 : List Int) (a2 : ByteArray) (a3 : Int) (w : World) (hr0 : Kd.C k62 w A0 l0.length l0) (hc0 : l0.length ≤ c0) (hr1_1 : Kd.C (Kd.int .i64) w A1_1 l1_1.length l1_1) (hc1_1 : l1_1.length ≤ c1_1) (xs0 ext0 extb0 : List (S65)) (rm0 : Int) (xs1_1 ext1_1 extb1_1 : List Int) (rm1_1 : Int) (t_1 : Int) (t_2 : Int) (res_r1 : Int) (ws_r2 : List Int) (res_r3 : Int) (gs_r2 : List Int) (mk_0 : Int) (ml_0 : List (S65)) (mk_1 : Int) (ml_1 : List Int) (mk_2 : Int) (ml_2 : List Int) (hto0_ : laws_toArticleSX.f k l0 false = some ext0) (htob0_ : laws_toArticleSX.f k l0 true = some extb0) (hxl0_ : xs0.length = l0.length) (hnb0_ : extb0 = [] → l0.length = 0) (hne0_ : ¬ (ext0 = [])) (hxe0_ : xs0 = ext0.take xs0.length) (hxb0_ : xs0 = extb0.take xs0.length) (hle0_ : xs0.length ≤ ext0.length) (hlb0_ : xs0.length ≤ extb0.length) (hrm0_ : laws_roomBehind.f (xs0.length : Int) = some rm0) (hj0_ : wrap64 ((xs0.length : Int) + rm0) = (ext0.length : Int)) (heqx0_ : laws_eqArticleS.f k ext0 ext0 = some true) (hto1_1_ : laws_toInt64SX.f k l1_1 false = some ext1_1) (htob1_1_ : laws_toInt64SX.f k l1_1 true = some extb1_1) (hxl1_1_ : xs1_1.length = l1_1.length) (hnb1_1_ : extb1_1 = [] → l1_1.length = 0) (hne1_1_ : ¬ (ext1_1 = [])) (hxe1_1_ : xs1_1 = ext1_1.take xs1_1.length) (hxb1_1_ : xs1_1 = extb1_1.take xs1_1.length) (hle1_1_ : xs1_1.length ≤ ext1_1.length) (hlb1_1_ : xs1_1.length ≤ extb1_1.length) (hrm1_1_ : laws_roomBehind.f (xs1_1.length : Int) = some rm1_1) (hj1_1_ : wrap64 ((xs1_1.length : Int) + rm1_1) = (ext1_1.length : Int)) (heqx1_1_ : laws_eqInt64S.f k ext1_1 ext1_1 = some true) (hz1_ : laws_szArticleS.f k l0 (wrap64 (1000000 - ((a2.size : Int)))) = some t_1) (hn1_ : decide (t_1 < 0) = false) (hz2_ : laws_szMagazine.f a1_0 l1_1 t_1 = some t_2) (hn2_ : decide (t_2 < 0) = false) (hfspec_ : spec_StorePieces.f k xs0 a1_0 xs1_1 a2 a3 = some (res_r1, ws_r2, res_r3)) (hfimpl_ : impl_StorePieces.f k xs0 a1_0 xs1_1 a2 a3 = some (res_r1, gs_r2, res_r3)) (he_gs_r2_ws_r2_ : laws_eqMagazine.f k res_r1 gs_r2 res_r1 ws_r2 = some true) (hm0_ : laws_markArticleS.f k xs0 101 = some (mk_0, ml_0)) (hmn0_ : decide (mk_0 < 0) = false) (hm1_ : laws_markMagazine.f k a1_0 xs1_1 mk_0 = some (mk_1, ml_1)) (hmn1_ : decide (mk_1 < 0) = false) (hm2_ : laws_markMagazine.f k res_r1 gs_r2 101 = some (mk_2, ml_2)) (hmn2_ : decide (mk_2 < 0) = false) (hml2_ : gs_r2.length = ml_2.length) (hh_ml_2_ : laws_heldMagazine.f k res_r1 ml_2 101 = some mk_2) :
    Calls Try.prog 12 #[.slice A0 l0.length c0, .agg #[.int .i64 a1_0, .slice A1_1 l1_1.length c1_1], .string a2, .int .i64 a3] w fun e w' => e = .returned (.bool true) ∧ Below w.heap.size w w' := by
  have HR0 := jA hr0
  have HC0 := jA hc0
  have HR1_1 := jA hr1_1
  have HC1_1 := jA hc1_1
  clear hr0 hc0 hr1_1 hc1_1
  have HTO0 := jA hto0_
  have HTOB0 := jA htob0_
  have HXL0 := jA hxl0_
  have HNB0 := jA hnb0_
  have HNE0 := jA hne0_
  have HXE0 := jA hxe0_
  have HXB0 := jA hxb0_
  have HLE0 := jA hle0_
  have HLB0 := jA hlb0_
  have HRM0 := jA hrm0_
  have HJ0 := jA hj0_
  have HEQX0 := jA heqx0_
  have HTO1_1 := jA hto1_1_
  have HTOB1_1 := jA htob1_1_
  have HXL1_1 := jA hxl1_1_
  have HNB1_1 := jA hnb1_1_
  have HNE1_1 := jA hne1_1_
  have HXE1_1 := jA hxe1_1_
  have HXB1_1 := jA hxb1_1_
  have HLE1_1 := jA hle1_1_
  have HLB1_1 := jA hlb1_1_
  have HRM1_1 := jA hrm1_1_
  have HJ1_1 := jA hj1_1_
  have HEQX1_1 := jA heqx1_1_
  have HZ1 := jA hz1_
  have HN1 := jA hn1_
  have HZ2 := jA hz2_
  have HN2 := jA hn2_
  have HFspec := jA hfspec_
  have HFimpl := jA hfimpl_
  have HE_gs_r2_ws_r2 := jA he_gs_r2_ws_r2_
  have HM0 := jA hm0_
  have HMN0 := jA hmn0_
  have HM1 := jA hm1_
  have HMN1 := jA hmn1_
  have HM2 := jA hm2_
  have HMN2 := jA hmn2_
  have HML2 := jA hml2_
  have HH_ml_2 := jA hh_ml_2_
  clear hto0_ htob0_ hxl0_ hnb0_ hne0_ hxe0_ hxb0_ hle0_ hlb0_ hrm0_ hj0_ heqx0_ hto1_1_ htob1_1_ hxl1_1_ hnb1_1_ hne1_1_ hxe1_1_ hxb1_1_ hle1_1_ hlb1_1_ hrm1_1_ hj1_1_ heqx1_1_ hz1_ hn1_ hz2_ hn2_ hfspec_ hfimpl_ he_gs_r2_ws_r2_ hm0_ hmn0_ hm1_ hmn1_ hm2_ hmn2_ hml2_ hh_ml_2_
  have HB := jA (Below.refl w.heap.size w)
  go_enter Try.func12, Try.ntmps12
  go_wp2_with (first | ((with_reducible refine jV (N := 5) rfl ?_); refine jU ?hg (N := 5) ?hd (cs := #[.int .i64 a1_0, .slice A1_1 l1_1.length c1_1]) (t := 25) ?hr ?_; (case hd => rfl); (case hg => rfl); (case hr => first | (go_simp; done) | (go_simp; rfl)); intro gb1 hg_ w_3 hbox hb; have BK2 := jA hbox; have HGgb1 : Aside0 (gb1 < w_3.heap.size) := ⟨blk_lt hbox⟩; have hbA_ := jA hb; clear hbox hg_ hb; have hcz_0 : w_3.cell? ⟨gb1, 0, none⟩ = some (.int .i64 a1_0) := (jD BK2.out 0).trans rfl; have hfz_0 := jC BK2.out 0; have hcz_1 : w_3.cell? ⟨gb1, 1, none⟩ = some (.slice A1_1 l1_1.length c1_1) := (jD BK2.out 1).trans rfl; have hfz_1 := jC BK2.out 1))
  clear hcz_0 hfz_0 hcz_1 hfz_1
  have hb := hbA_.out
  clear hbA_
  have HBi := jA (jJ (zy) hb : Below w.heap.size w w_3)
  clear hb
  have HBn := jA (jJ HB.out HBi.out)
  clear HB
  have HB := HBn
  clear HBn
  have HS4 := jA HBi.out.size
  clear HBi
  have HWw_3 := jA HB.out.size
  have hczgb1_0 : w_3.cell? ⟨gb1, 0, none⟩ = some (.int .i64 a1_0) := (jD BK2.out 0).trans rfl
  have hfzgb1_0 := jC BK2.out 0
  have hczgb1_1 : w_3.cell? ⟨gb1, 1, none⟩ = some (.slice A1_1 l1_1.length c1_1) := (jD BK2.out 1).trans rfl
  have hfzgb1_1 := jC BK2.out 1
  go_wp2_with (fail)
  clear hczgb1_0 hfzgb1_0 hczgb1_1 hfzgb1_1
  go_at_call 13
  (with_reducible refine (laws_szArticleS.calls k _ _ l0 (wrap64 (1000000 - ((a2.size : Int)))) t_1 _ ?side1 ?side2 HZ1.out).mono ?_)
  (case side1 => exact zs HR0 HB)
  (case side2 => exact HC0.out)
  rintro e w_5 ⟨rfl, hb⟩
  have HBi := jA (jJ (zy) hb : Below w_3.heap.size w_3 w_5)
  clear hb
  have HBn := jA (jJ HB.out HBi.out)
  clear HB
  have HB := HBn
  clear HBn
  have HS6 := jA HBi.out.size
  have n0_ := jA (jO BK2.out HBi.out)
  clear BK2
  have BK2 := n0_
  clear n0_
  clear HBi
  have HWw_5 := jA HB.out.size
  have hn_ := HN1.out
  have hczgb1_0 : w_5.cell? ⟨gb1, 0, none⟩ = some (.int .i64 a1_0) := (jD BK2.out 0).trans rfl
  have hfzgb1_0 := jC BK2.out 0
  have hczgb1_1 : w_5.cell? ⟨gb1, 1, none⟩ = some (.slice A1_1 l1_1.length c1_1) := (jD BK2.out 1).trans rfl
  have hfzgb1_1 := jC BK2.out 1
  go_wp2_with (fail)
  clear hczgb1_0 hfzgb1_0 hczgb1_1 hfzgb1_1
  clear hn_
  have hczgb1_0 : w_5.cell? ⟨gb1, 0, none⟩ = some (.int .i64 a1_0) := (jD BK2.out 0).trans rfl
  have hfzgb1_0 := jC BK2.out 0
  have hczgb1_1 : w_5.cell? ⟨gb1, 1, none⟩ = some (.slice A1_1 l1_1.length c1_1) := (jD BK2.out 1).trans rfl
  have hfzgb1_1 := jC BK2.out 1
  go_wp2_with (fail)
  clear hczgb1_0 hfzgb1_0 hczgb1_1 hfzgb1_1
  go_at_call 14
  (with_reducible refine (laws_szMagazine.calls a1_0 _ _ l1_1 t_1 t_2 _ ?side1 ?side2 HZ2.out).mono ?_)
  (case side1 => exact zs HR1_1 HB)
  (case side2 => exact HC1_1.out)
  rintro e w_7 ⟨rfl, hb⟩
  have HBi := jA (jJ (zy) hb : Below w_5.heap.size w_5 w_7)
  clear hb
  have HBn := jA (jJ HB.out HBi.out)
  clear HB
  have HB := HBn
  clear HBn
  have HS8 := jA HBi.out.size
  have n0_ := jA (jO BK2.out HBi.out)
  clear BK2
  have BK2 := n0_
  clear n0_
  clear HBi
  have HWw_7 := jA HB.out.size
  have hn_ := HN2.out
  have hczgb1_0 : w_7.cell? ⟨gb1, 0, none⟩ = some (.int .i64 a1_0) := (jD BK2.out 0).trans rfl
  have hfzgb1_0 := jC BK2.out 0
  have hczgb1_1 : w_7.cell? ⟨gb1, 1, none⟩ = some (.slice A1_1 l1_1.length c1_1) := (jD BK2.out 1).trans rfl
  have hfzgb1_1 := jC BK2.out 1
  go_wp2_with (fail)
  clear hczgb1_0 hfzgb1_0 hczgb1_1 hfzgb1_1
  clear hn_
  have hczgb1_0 : w_7.cell? ⟨gb1, 0, none⟩ = some (.int .i64 a1_0) := (jD BK2.out 0).trans rfl
  have hfzgb1_0 := jC BK2.out 0
  have hczgb1_1 : w_7.cell? ⟨gb1, 1, none⟩ = some (.slice A1_1 l1_1.length c1_1) := (jD BK2.out 1).trans rfl
  have hfzgb1_1 := jC BK2.out 1
  go_wp2_with (fail)
  clear hczgb1_0 hfzgb1_0 hczgb1_1 hfzgb1_1
  refine start_ (n := 13) (S := fun w' => w'.cell? ⟨gb1, 0, none⟩ = some (.int .i64 a1_0) ∧ w'.cell? ⟨gb1, 1, none⟩ = some (.slice A1_1 l1_1.length c1_1)) (ds := []) m13_0 zr rfl rfl ⟨(jD BK2.out 0).trans rfl, (jD BK2.out 1).trans rfl⟩ (fun hHeld => ?_)
  refine with_tabW laws_FnExactStorePieces.tab8 laws_FnExactStorePieces.bits8 (fun HT_ HW_ => ?_)
  generalize hq_ : World.drew _ = w_9 at hHeld ⊢
  have n0_ : Aside0 (Below w.heap.size w w_9) := ⟨by rw [← hq_]; (repeat (first | (with_reducible first | exact HB.out | apply below_alloc | apply pw_below_drewN | apply below_drew1) | exact HB.out))⟩
  clear HB
  have HB := n0_
  clear n0_
  have HS10 : Aside0 (w_7.heap.size ≤ w_9.heap.size) := ⟨by rw [← hq_]; exact Nat.le_refl _⟩
  have n0_ : Aside0 (w_9.heap[gb1]? = some (.cells #[.int .i64 a1_0, .slice A1_1 l1_1.length c1_1] 25 (0, 0))) := ⟨by rw [← hq_]; (with_reducible repeat (first | refine jG ?_ _ | refine jI ?_ | refine jH ?_ _)); exact BK2.out⟩
  clear BK2
  have BK2 := n0_
  clear n0_
  clear hq_
  have HWw_9 := jA HB.out.size
  refine zp HT_ 0 35 m13_1000 ?_
  refine zp HT_ 4 39 #[true, false, false, false, true, false, false, false, false, false, false, false, false] ?_
  refine zp HT_ 5 40 #[true, false, false, false, true, true, false, false, false, false, false, false, false] ?_
  refine zt2 HT_ HW_ hHeld 2 37 #[true, false, true, false, true, true, false, false, false, false, false, false, false] ?_
  have HNgb11_gb1 : Aside0 (gb1 < w_9.heap.size) := ⟨blk_lt BK2.out⟩
  refine join_ (σ := (Option Addr × Nat) × (Option Addr × Nat) × (Option Addr × Nat) × Nat) 2 m13_1ffc (fun s_ => [(36, .slice s_.1.1 xs0.length s_.1.2), (38, .agg #[.int .i64 a1_0, .slice s_.2.1.1 xs1_1.length s_.2.1.2]), (41, .tuple #[.agg #[.int .i64 res_r1, .slice s_.2.2.1.1 ws_r2.length s_.2.2.1.2], .int .i64 res_r3]), (34, .tuple #[.agg #[.int .i64 res_r1, .slice s_.2.2.1.1 ws_r2.length s_.2.2.1.2], .int .i64 res_r3]), (42, .agg #[.int .i64 res_r1, .slice s_.2.2.1.1 ws_r2.length s_.2.2.1.2]), (43, .int .i64 res_r3), (10, .pointer (some ⟨s_.2.2.2, 0, none⟩))]) (fun s_ w' => (w'.cell? ⟨gb1, 0, none⟩ = some (.int .i64 a1_0) ∧ w'.cell? ⟨gb1, 1, none⟩ = some (.slice A1_1 l1_1.length c1_1)) ∧ (Kd.R (Kd.int .i64) 2 w' w.heap.size (fun k_ => (w_9.heap.size ≤ k_ ∧ k_ < w'.heap.size) ∧ k_ ≠ s_.2.2.2) (.slice s_.2.2.1.1 ws_r2.length s_.2.2.1.2) ws_r2) ∧ (w'.heap[s_.2.2.2]? = some (.cells #[.int .i64 0, .slice none 0 0] 28 (0, 0))) ∧ (w_9.heap.size ≤ s_.2.2.2) ∧ (w_9.heap.size ≤ w'.heap.size) ∧ (w'.heap[gb1]? = some (.cells #[.int .i64 a1_0, .slice A1_1 l1_1.length c1_1] 25 (0, 0))) ∧ (Below w.heap.size w w')) ?_ ?_
  rotate_left
  · intro hCont
    refine two_ (i := 1) (j := 10) (Ni := some 36) (Nj := some 10) #[true, true, true, false, true, true, false, false, false, false, false, false, false] #[true, false, true, false, true, true, false, false, false, false, true, false, false] rfl rfl rfl rfl (two_of HT_.out zr) (by decide) (by decide) (fun K hK => ?_) (fun K hK => ?_)
    · skip
      refine goes_ Try.func16 zr rfl #[.slice A0 l0.length c0, .bool false] (by rfl) rfl rfl zm ?_
      (with_reducible refine (laws_toArticleSX.calls k _ _ l0 false ext0 _ ?side1 ?side2 HTO0.out).mono ?_)
      (case side1 => exact zs HR0 HB)
      (case side2 => exact HC0.out)
      rintro e w_12 ⟨Ao14, no15, co16, rfl, hn, ho, hb⟩
      obtain rfl : no15 = xs0.length := hn.full HXL0.out HNE0.out
      clear hn
      have ho1 := jA (Kd.R_lower (R_span ho) (Nat.le_trans HB.out.size (zy : Below w_9.heap.size w_9 _).size))
      clear ho
      have HBi := jA (jJ (zy) hb : Below w_9.heap.size w_9 w_12)
      clear hb
      have HBn := jA (jJ HB.out HBi.out)
      clear HB
      have HB := HBn
      clear HBn
      have HS17 := jA HBi.out.size
      have n0_ := jA (jO BK2.out HBi.out)
      clear BK2
      have BK2 := n0_
      clear n0_
      clear HBi
      have HWw_12 := jA HB.out.size
      have HO13 := jA (Kd.R_mono (ok' := fun k_ => w_9.heap.size ≤ k_ ∧ k_ < w_12.heap.size) ho1.out (fun k_ hk_ => hk_))
      clear ho1
      refine ⟨_, rfl, ?_⟩
      refine hK.out _ _ ⟨(jD BK2.out 0).trans rfl, (jD BK2.out 1).trans rfl⟩ (fun hHeld => ?_)
      clear hK K
      refine norm_ (a' := ?_) ?_ ?_
      rotate_left
      · show Act.put _ (some 36) _ = _
        simp only [Act.put, jL, jS, jT, i64_w, i32_w]
        rfl
      refine two_ (i := 3) (j := 10) (Ni := some 38) (Nj := some 10) m13_1f80 #[true, true, true, false, true, true, false, false, false, false, true, false, false] rfl rfl rfl rfl (two_of HT_.out zr) (by decide) (by decide) (fun K hK => ?_) (fun K hK => ?_)
      · skip
        refine goes_ Try.func17 zr rfl #[.agg #[.int .i64 a1_0, .slice A1_1 l1_1.length c1_1], .bool false] (by rfl) rfl rfl zm ?_
        (with_reducible refine (laws_toMagazineX.calls k a1_0 _ _ l1_1 false a1_0 ext1_1 _ ?side1 ?side2 (by unfold laws_toMagazineX.f; rw [HTO1_1.out, Option.bind_some])).mono ?_)
        (case side1 => exact zs HR1_1 HB)
        (case side2 => exact HC1_1.out)
        rintro e w_18 ⟨Ao20, no21, co22, rfl, hn, ho, hb⟩
        obtain rfl : no21 = xs1_1.length := hn.full HXL1_1.out HNE1_1.out
        clear hn
        have ho1 := jA (Kd.R_lower (R_span ho) (Nat.le_trans HB.out.size (zy : Below w_12.heap.size w_12 _).size))
        clear ho
        have HBi := jA (jJ (zy) hb : Below w_12.heap.size w_12 w_18)
        clear hb
        have HBn := jA (jJ HB.out HBi.out)
        clear HB
        have HB := HBn
        clear HBn
        have HS23 := jA HBi.out.size
        have n0_ := jA (jO BK2.out HBi.out)
        clear BK2
        have BK2 := n0_
        clear n0_
        have n0_ := jA (Kd.R_below HO13.out HBi.out)
        clear HO13
        have HO13 := n0_
        clear n0_
        clear HBi
        have HWw_18 := jA HB.out.size
        have HO19 := jA (Kd.R_mono (ok' := fun k_ => w_12.heap.size ≤ k_ ∧ k_ < w_18.heap.size) ho1.out (fun k_ hk_ => hk_))
        clear ho1
        refine ⟨_, rfl, ?_⟩
        refine hK.out _ _ ⟨(jD BK2.out 0).trans rfl, (jD BK2.out 1).trans rfl⟩ (fun hHeld => ?_)
        clear hK K
        refine norm_ (a' := ?_) ?_ ?_
        rotate_left
        · show Act.put _ (some 38) _ = _
          simp only [Act.put, jL, jS, jT, i64_w, i32_w]
          rfl
        refine two_ (i := 6) (j := 10) (Ni := some 41) (Nj := some 10) m13_1fc0 #[true, true, true, true, true, true, false, false, false, false, true, false, false] rfl rfl rfl rfl (two_of HT_.out zr) (by decide) (by decide) (fun K hK => ?_) (fun K hK => ?_)
        · skip
          refine goes_ Try.func40 zr rfl #[.slice Ao14 xs0.length co16, .agg #[.int .i64 a1_0, .slice Ao20 xs1_1.length co22], .string a2, .int .i64 a3] (by rfl) rfl rfl zm ?_
          (with_reducible refine (spec_StorePieces.calls k _ _ xs0 a1_0 _ _ xs1_1 a2 a3 res_r1 ws_r2 res_r3 _ ?side1 ?side2 ?side3 ?side4 HFspec.out).mono ?_)
          (case side1 => repeat (first | exact C_ext (jb HO13.out).2.2 HXE0.out HLE0.out | (with_reducible refine Kd.C_alloc ?_ _) | (with_reducible refine Kd.C_drewN ?_ _) | (with_reducible refine Kd.C_drew ?_)))
          (case side2 => exact Nat.le_trans HLE0.out (jb HO13.out).2.1)
          (case side3 => repeat (first | exact C_ext (jb HO19.out).2.2 HXE1_1.out HLE1_1.out | (with_reducible refine Kd.C_alloc ?_ _) | (with_reducible refine Kd.C_drewN ?_ _) | (with_reducible refine Kd.C_drew ?_)))
          (case side4 => exact Nat.le_trans HLE1_1.out (jb HO19.out).2.1)
          rintro e w_24 ⟨v_25, rfl, ho26, hb⟩
          have ho26A := jA (Kd.R_lower (R_span ho26) (Nat.le_trans HB.out.size (zy : Below w_18.heap.size w_18 _).size))
          clear ho26
          have HBi := jA (jJ (zy) hb : Below w_18.heap.size w_18 w_24)
          clear hb
          have HBn := jA (jJ HB.out HBi.out)
          clear HB
          have HB := HBn
          clear HBn
          have HS27 := jA HBi.out.size
          have n0_ := jA (jO BK2.out HBi.out)
          clear BK2
          have BK2 := n0_
          clear n0_
          have n0_ := jA (Kd.R_below HO13.out HBi.out)
          clear HO13
          have HO13 := n0_
          clear n0_
          have n0_ := jA (Kd.R_below HO19.out HBi.out)
          clear HO19
          have HO19 := n0_
          clear n0_
          clear HBi
          have HWw_24 := jA HB.out.size
          obtain ⟨Ao29, co30, eo31⟩ := Kd.R_slice ho26A.out
          subst eo31
          have HO28 := jA (Kd.R_mono (ok' := fun k_ => w_18.heap.size ≤ k_ ∧ k_ < w_24.heap.size) ho26A.out (fun k_ hk_ => hk_))
          clear ho26A
          refine ⟨_, rfl, ?_⟩
          refine hK.out _ _ ⟨(jD BK2.out 0).trans rfl, (jD BK2.out 1).trans rfl⟩ (fun hHeld => ?_)
          clear hK K
          refine norm_ (a' := ?_) ?_ ?_
          rotate_left
          · show Act.put _ (some 41) _ = _
            simp only [Act.put, jL, jS, jT, i64_w, i32_w]
            rfl
          refine zp HT_ 7 34 m13_1fe0 ?_
          refine zp HT_ 8 42 m13_1ff0 ?_
          refine zp HT_ 9 43 m13_1ff8 ?_
          refine one_ (i := 10) (N := some 10) m13_1ffc rfl rfl (one_of HT_.out zr) (by decide) (fun K hK => ?_)
          refine box_step ?hg (N := 10) ?hd (cs := #[.int .i64 0, .slice none 0 0]) (t := 28) ?hr ?_; (case hd => rfl); (case hg => rfl); (case hr => first | (go_simp; done) | (go_simp; rfl))
          intro gb11 hg_ w_33 hbox hb
          have BK32 := jA hbox
          have HGgb11 : Aside0 (gb11 < w_33.heap.size) := ⟨blk_lt hbox⟩
          have HLgb11 : Aside0 (w_24.heap.size ≤ gb11) := ⟨by rw [hg_]; exact Nat.le_refl _⟩
          clear hbox hg_
          have HBi := jA (jJ (zy) hb : Below w_24.heap.size w_24 w_33)
          clear hb
          have HBn := jA (jJ HB.out HBi.out)
          clear HB
          have HB := HBn
          clear HBn
          have HS34 := jA HBi.out.size
          have n0_ := jA (jO BK2.out HBi.out)
          clear BK2
          have BK2 := n0_
          clear n0_
          have n0_ := jA (Kd.R_below HO13.out HBi.out)
          clear HO13
          have HO13 := n0_
          clear n0_
          have n0_ := jA (Kd.R_below HO19.out HBi.out)
          clear HO19
          have HO19 := n0_
          clear n0_
          have n0_ := jA (Kd.R_below HO28.out HBi.out)
          clear HO28
          have HO28 := n0_
          clear n0_
          clear HBi
          have HWw_33 := jA HB.out.size
          refine hK.out _ _ ⟨(jD BK2.out 0).trans rfl, (jD BK2.out 1).trans rfl⟩ (fun hHeld => ?_)
          clear hK K
          refine norm_ (a' := ?_) ?_ ?_
          rotate_left
          · show Act.put _ (some 10) _ = _
            simp only [Act.put, jL, jS, jT, i64_w, i32_w]
            rfl
          exact norm_ (by simp only [putAll, Act.put, jL, jS, jT]) (hCont ((Ao14, co16), (Ao20, co22), (Ao29, co30), gb11) _ ⟨hHeld, (show Kd.R (Kd.int .i64) 2 w_33 w.heap.size (fun k_ => (w_9.heap.size ≤ k_ ∧ k_ < w_33.heap.size) ∧ k_ ≠ gb11) (.slice Ao29 ws_r2.length co30) ws_r2 from Kd.R_mono HO28.out (fun k_ (h_ : w_18.heap.size ≤ k_ ∧ k_ < w_24.heap.size) => (show (w_9.heap.size ≤ k_ ∧ k_ < w_33.heap.size) ∧ k_ ≠ gb11 from by have sHGgb1 := HGgb1.out; have sHS4 := HS4.out; have sHS6 := HS6.out; have sHS8 := HS8.out; have sHS10 := HS10.out; have sHS17 := HS17.out; have sHS23 := HS23.out; have sHS27 := HS27.out; have sHGgb11 := HGgb11.out; have sHLgb11 := HLgb11.out; have sHS34 := HS34.out; omega))), (show w_33.heap[gb11]? = some (.cells #[.int .i64 0, .slice none 0 0] 28 (0, 0)) from (zk BK32)), (show w_9.heap.size ≤ gb11 by have sHGgb1 := HGgb1.out; have sHS4 := HS4.out; have sHS6 := HS6.out; have sHS8 := HS8.out; have sHS10 := HS10.out; have sHS17 := HS17.out; have sHS23 := HS23.out; have sHS27 := HS27.out; have sHGgb11 := HGgb11.out; have sHLgb11 := HLgb11.out; have sHS34 := HS34.out; omega), (show w_9.heap.size ≤ w_33.heap.size by have sHGgb1 := HGgb1.out; have sHS4 := HS4.out; have sHS6 := HS6.out; have sHS8 := HS8.out; have sHS10 := HS10.out; have sHS17 := HS17.out; have sHS23 := HS23.out; have sHS27 := HS27.out; have sHGgb11 := HGgb11.out; have sHLgb11 := HLgb11.out; have sHS34 := HS34.out; omega), (zk BK2), (zb0 HB)⟩)
        · skip
          refine box_step ?hg (N := 10) ?hd (cs := #[.int .i64 0, .slice none 0 0]) (t := 28) ?hr ?_; (case hd => rfl); (case hg => rfl); (case hr => first | (go_simp; done) | (go_simp; rfl))
          intro gb11 hg_ w_36 hbox hb
          have BK35 := jA hbox
          have HGgb11 : Aside0 (gb11 < w_36.heap.size) := ⟨blk_lt hbox⟩
          have HLgb11 : Aside0 (w_18.heap.size ≤ gb11) := ⟨by rw [hg_]; exact Nat.le_refl _⟩
          clear hbox hg_
          have HBi := jA (jJ (zy) hb : Below w_18.heap.size w_18 w_36)
          clear hb
          have HBn := jA (jJ HB.out HBi.out)
          clear HB
          have HB := HBn
          clear HBn
          have HS37 := jA HBi.out.size
          have n0_ := jA (jO BK2.out HBi.out)
          clear BK2
          have BK2 := n0_
          clear n0_
          have n0_ := jA (Kd.R_below HO13.out HBi.out)
          clear HO13
          have HO13 := n0_
          clear n0_
          have n0_ := jA (Kd.R_below HO19.out HBi.out)
          clear HO19
          have HO19 := n0_
          clear n0_
          clear HBi
          have HWw_36 := jA HB.out.size
          refine hK.out _ _ ⟨(jD BK2.out 0).trans rfl, (jD BK2.out 1).trans rfl⟩ (fun hHeld => ?_)
          clear hK K
          refine norm_ (a' := ?_) ?_ ?_
          rotate_left
          · show Act.put _ (some 10) _ = _
            simp only [Act.put, jL, jS, jT, i64_w, i32_w]
            rfl
          refine one_ (i := 6) (N := some 41) #[true, true, true, true, true, true, true, false, false, false, true, false, false] rfl rfl (one_of HT_.out zr) (by decide) (fun K hK => ?_)
          refine goes_ Try.func40 zr rfl #[.slice Ao14 xs0.length co16, .agg #[.int .i64 a1_0, .slice Ao20 xs1_1.length co22], .string a2, .int .i64 a3] (by rfl) rfl rfl zm ?_
          (with_reducible refine (spec_StorePieces.calls k _ _ xs0 a1_0 _ _ xs1_1 a2 a3 res_r1 ws_r2 res_r3 _ ?side1 ?side2 ?side3 ?side4 HFspec.out).mono ?_)
          (case side1 => repeat (first | exact C_ext (jb HO13.out).2.2 HXE0.out HLE0.out | (with_reducible refine Kd.C_alloc ?_ _) | (with_reducible refine Kd.C_drewN ?_ _) | (with_reducible refine Kd.C_drew ?_)))
          (case side2 => exact Nat.le_trans HLE0.out (jb HO13.out).2.1)
          (case side3 => repeat (first | exact C_ext (jb HO19.out).2.2 HXE1_1.out HLE1_1.out | (with_reducible refine Kd.C_alloc ?_ _) | (with_reducible refine Kd.C_drewN ?_ _) | (with_reducible refine Kd.C_drew ?_)))
          (case side4 => exact Nat.le_trans HLE1_1.out (jb HO19.out).2.1)
          rintro e w_38 ⟨v_39, rfl, ho40, hb⟩
          have ho40A := jA (Kd.R_lower (R_span ho40) (Nat.le_trans HB.out.size (zy : Below w_36.heap.size w_36 _).size))
          clear ho40
          have HBi := jA (jJ (zy) hb : Below w_36.heap.size w_36 w_38)
          clear hb
          have HBn := jA (jJ HB.out HBi.out)
          clear HB
          have HB := HBn
          clear HBn
          have HS41 := jA HBi.out.size
          have n0_ := jA (jO BK2.out HBi.out)
          clear BK2
          have BK2 := n0_
          clear n0_
          have n0_ := jA (Kd.R_below HO13.out HBi.out)
          clear HO13
          have HO13 := n0_
          clear n0_
          have n0_ := jA (Kd.R_below HO19.out HBi.out)
          clear HO19
          have HO19 := n0_
          clear n0_
          have n0_ := jA (jO BK35.out HBi.out)
          clear BK35
          have BK35 := n0_
          clear n0_
          clear HBi
          have HWw_38 := jA HB.out.size
          obtain ⟨Ao43, co44, eo45⟩ := Kd.R_slice ho40A.out
          subst eo45
          have HO42 := jA (Kd.R_mono (ok' := fun k_ => w_36.heap.size ≤ k_ ∧ k_ < w_38.heap.size) ho40A.out (fun k_ hk_ => hk_))
          clear ho40A
          refine ⟨_, rfl, ?_⟩
          refine hK.out _ _ ⟨(jD BK2.out 0).trans rfl, (jD BK2.out 1).trans rfl⟩ (fun hHeld => ?_)
          clear hK K
          refine norm_ (a' := ?_) ?_ ?_
          rotate_left
          · show Act.put _ (some 41) _ = _
            simp only [Act.put, jL, jS, jT, i64_w, i32_w]
            rfl
          refine zp HT_ 7 34 #[true, true, true, true, true, true, true, true, false, false, true, false, false] ?_
          refine zp HT_ 8 42 #[true, true, true, true, true, true, true, true, true, false, true, false, false] ?_
          refine zp HT_ 9 43 m13_1ffc ?_
          exact norm_ (by simp only [putAll, Act.put, jL, jS, jT]) (hCont ((Ao14, co16), (Ao20, co22), (Ao43, co44), gb11) _ ⟨hHeld, (show Kd.R (Kd.int .i64) 2 w_38 w.heap.size (fun k_ => (w_9.heap.size ≤ k_ ∧ k_ < w_38.heap.size) ∧ k_ ≠ gb11) (.slice Ao43 ws_r2.length co44) ws_r2 from Kd.R_mono HO42.out (fun k_ (h_ : w_36.heap.size ≤ k_ ∧ k_ < w_38.heap.size) => (show (w_9.heap.size ≤ k_ ∧ k_ < w_38.heap.size) ∧ k_ ≠ gb11 from by have sHGgb1 := HGgb1.out; have sHS4 := HS4.out; have sHS6 := HS6.out; have sHS8 := HS8.out; have sHS10 := HS10.out; have sHS17 := HS17.out; have sHS23 := HS23.out; have sHGgb11 := HGgb11.out; have sHLgb11 := HLgb11.out; have sHS37 := HS37.out; have sHS41 := HS41.out; omega))), (show w_38.heap[gb11]? = some (.cells #[.int .i64 0, .slice none 0 0] 28 (0, 0)) from (zk BK35)), (show w_9.heap.size ≤ gb11 by have sHGgb1 := HGgb1.out; have sHS4 := HS4.out; have sHS6 := HS6.out; have sHS8 := HS8.out; have sHS10 := HS10.out; have sHS17 := HS17.out; have sHS23 := HS23.out; have sHGgb11 := HGgb11.out; have sHLgb11 := HLgb11.out; have sHS37 := HS37.out; have sHS41 := HS41.out; omega), (show w_9.heap.size ≤ w_38.heap.size by have sHGgb1 := HGgb1.out; have sHS4 := HS4.out; have sHS6 := HS6.out; have sHS8 := HS8.out; have sHS10 := HS10.out; have sHS17 := HS17.out; have sHS23 := HS23.out; have sHGgb11 := HGgb11.out; have sHLgb11 := HLgb11.out; have sHS37 := HS37.out; have sHS41 := HS41.out; omega), (zk BK2), (zb0 HB)⟩)
      · skip
        refine box_step ?hg (N := 10) ?hd (cs := #[.int .i64 0, .slice none 0 0]) (t := 28) ?hr ?_; (case hd => rfl); (case hg => rfl); (case hr => first | (go_simp; done) | (go_simp; rfl))
        intro gb11 hg_ w_47 hbox hb
        have BK46 := jA hbox
        have HGgb11 : Aside0 (gb11 < w_47.heap.size) := ⟨blk_lt hbox⟩
        have HLgb11 : Aside0 (w_12.heap.size ≤ gb11) := ⟨by rw [hg_]; exact Nat.le_refl _⟩
        clear hbox hg_
        have HBi := jA (jJ (zy) hb : Below w_12.heap.size w_12 w_47)
        clear hb
        have HBn := jA (jJ HB.out HBi.out)
        clear HB
        have HB := HBn
        clear HBn
        have HS48 := jA HBi.out.size
        have n0_ := jA (jO BK2.out HBi.out)
        clear BK2
        have BK2 := n0_
        clear n0_
        have n0_ := jA (Kd.R_below HO13.out HBi.out)
        clear HO13
        have HO13 := n0_
        clear n0_
        clear HBi
        have HWw_47 := jA HB.out.size
        refine hK.out _ _ ⟨(jD BK2.out 0).trans rfl, (jD BK2.out 1).trans rfl⟩ (fun hHeld => ?_)
        clear hK K
        refine norm_ (a' := ?_) ?_ ?_
        rotate_left
        · show Act.put _ (some 10) _ = _
          simp only [Act.put, jL, jS, jT, i64_w, i32_w]
          rfl
        refine one_ (i := 3) (N := some 38) #[true, true, true, true, true, true, false, false, false, false, true, false, false] rfl rfl (one_of HT_.out zr) (by decide) (fun K hK => ?_)
        refine goes_ Try.func17 zr rfl #[.agg #[.int .i64 a1_0, .slice A1_1 l1_1.length c1_1], .bool false] (by rfl) rfl rfl zm ?_
        (with_reducible refine (laws_toMagazineX.calls k a1_0 _ _ l1_1 false a1_0 ext1_1 _ ?side1 ?side2 (by unfold laws_toMagazineX.f; rw [HTO1_1.out, Option.bind_some])).mono ?_)
        (case side1 => exact zs HR1_1 HB)
        (case side2 => exact HC1_1.out)
        rintro e w_49 ⟨Ao51, no52, co53, rfl, hn, ho, hb⟩
        obtain rfl : no52 = xs1_1.length := hn.full HXL1_1.out HNE1_1.out
        clear hn
        have ho1 := jA (Kd.R_lower (R_span ho) (Nat.le_trans HB.out.size (zy : Below w_47.heap.size w_47 _).size))
        clear ho
        have HBi := jA (jJ (zy) hb : Below w_47.heap.size w_47 w_49)
        clear hb
        have HBn := jA (jJ HB.out HBi.out)
        clear HB
        have HB := HBn
        clear HBn
        have HS54 := jA HBi.out.size
        have n0_ := jA (jO BK2.out HBi.out)
        clear BK2
        have BK2 := n0_
        clear n0_
        have n0_ := jA (Kd.R_below HO13.out HBi.out)
        clear HO13
        have HO13 := n0_
        clear n0_
        have n0_ := jA (jO BK46.out HBi.out)
        clear BK46
        have BK46 := n0_
        clear n0_
        clear HBi
        have HWw_49 := jA HB.out.size
        have HO50 := jA (Kd.R_mono (ok' := fun k_ => w_47.heap.size ≤ k_ ∧ k_ < w_49.heap.size) ho1.out (fun k_ hk_ => hk_))
        clear ho1
        refine ⟨_, rfl, ?_⟩
        refine hK.out _ _ ⟨(jD BK2.out 0).trans rfl, (jD BK2.out 1).trans rfl⟩ (fun hHeld => ?_)
        clear hK K
        refine norm_ (a' := ?_) ?_ ?_
        rotate_left
        · show Act.put _ (some 38) _ = _
          simp only [Act.put, jL, jS, jT, i64_w, i32_w]
          rfl
        refine one_ (i := 6) (N := some 41) #[true, true, true, true, true, true, true, false, false, false, true, false, false] rfl rfl (one_of HT_.out zr) (by decide) (fun K hK => ?_)
        refine goes_ Try.func40 zr rfl #[.slice Ao14 xs0.length co16, .agg #[.int .i64 a1_0, .slice Ao51 xs1_1.length co53], .string a2, .int .i64 a3] (by rfl) rfl rfl zm ?_
        (with_reducible refine (spec_StorePieces.calls k _ _ xs0 a1_0 _ _ xs1_1 a2 a3 res_r1 ws_r2 res_r3 _ ?side1 ?side2 ?side3 ?side4 HFspec.out).mono ?_)
        (case side1 => repeat (first | exact C_ext (jb HO13.out).2.2 HXE0.out HLE0.out | (with_reducible refine Kd.C_alloc ?_ _) | (with_reducible refine Kd.C_drewN ?_ _) | (with_reducible refine Kd.C_drew ?_)))
        (case side2 => exact Nat.le_trans HLE0.out (jb HO13.out).2.1)
        (case side3 => repeat (first | exact C_ext (jb HO50.out).2.2 HXE1_1.out HLE1_1.out | (with_reducible refine Kd.C_alloc ?_ _) | (with_reducible refine Kd.C_drewN ?_ _) | (with_reducible refine Kd.C_drew ?_)))
        (case side4 => exact Nat.le_trans HLE1_1.out (jb HO50.out).2.1)
        rintro e w_55 ⟨v_56, rfl, ho57, hb⟩
        have ho57A := jA (Kd.R_lower (R_span ho57) (Nat.le_trans HB.out.size (zy : Below w_49.heap.size w_49 _).size))
        clear ho57
        have HBi := jA (jJ (zy) hb : Below w_49.heap.size w_49 w_55)
        clear hb
        have HBn := jA (jJ HB.out HBi.out)
        clear HB
        have HB := HBn
        clear HBn
        have HS58 := jA HBi.out.size
        have n0_ := jA (jO BK2.out HBi.out)
        clear BK2
        have BK2 := n0_
        clear n0_
        have n0_ := jA (Kd.R_below HO13.out HBi.out)
        clear HO13
        have HO13 := n0_
        clear n0_
        have n0_ := jA (jO BK46.out HBi.out)
        clear BK46
        have BK46 := n0_
        clear n0_
        have n0_ := jA (Kd.R_below HO50.out HBi.out)
        clear HO50
        have HO50 := n0_
        clear n0_
        clear HBi
        have HWw_55 := jA HB.out.size
        obtain ⟨Ao60, co61, eo62⟩ := Kd.R_slice ho57A.out
        subst eo62
        have HO59 := jA (Kd.R_mono (ok' := fun k_ => w_49.heap.size ≤ k_ ∧ k_ < w_55.heap.size) ho57A.out (fun k_ hk_ => hk_))
        clear ho57A
        refine ⟨_, rfl, ?_⟩
        refine hK.out _ _ ⟨(jD BK2.out 0).trans rfl, (jD BK2.out 1).trans rfl⟩ (fun hHeld => ?_)
        clear hK K
        refine norm_ (a' := ?_) ?_ ?_
        rotate_left
        · show Act.put _ (some 41) _ = _
          simp only [Act.put, jL, jS, jT, i64_w, i32_w]
          rfl
        refine zp HT_ 7 34 #[true, true, true, true, true, true, true, true, false, false, true, false, false] ?_
        refine zp HT_ 8 42 #[true, true, true, true, true, true, true, true, true, false, true, false, false] ?_
        refine zp HT_ 9 43 m13_1ffc ?_
        exact norm_ (by simp only [putAll, Act.put, jL, jS, jT]) (hCont ((Ao14, co16), (Ao51, co53), (Ao60, co61), gb11) _ ⟨hHeld, (show Kd.R (Kd.int .i64) 2 w_55 w.heap.size (fun k_ => (w_9.heap.size ≤ k_ ∧ k_ < w_55.heap.size) ∧ k_ ≠ gb11) (.slice Ao60 ws_r2.length co61) ws_r2 from Kd.R_mono HO59.out (fun k_ (h_ : w_49.heap.size ≤ k_ ∧ k_ < w_55.heap.size) => (show (w_9.heap.size ≤ k_ ∧ k_ < w_55.heap.size) ∧ k_ ≠ gb11 from by have sHGgb1 := HGgb1.out; have sHS4 := HS4.out; have sHS6 := HS6.out; have sHS8 := HS8.out; have sHS10 := HS10.out; have sHS17 := HS17.out; have sHGgb11 := HGgb11.out; have sHLgb11 := HLgb11.out; have sHS48 := HS48.out; have sHS54 := HS54.out; have sHS58 := HS58.out; omega))), (show w_55.heap[gb11]? = some (.cells #[.int .i64 0, .slice none 0 0] 28 (0, 0)) from (zk BK46)), (show w_9.heap.size ≤ gb11 by have sHGgb1 := HGgb1.out; have sHS4 := HS4.out; have sHS6 := HS6.out; have sHS8 := HS8.out; have sHS10 := HS10.out; have sHS17 := HS17.out; have sHGgb11 := HGgb11.out; have sHLgb11 := HLgb11.out; have sHS48 := HS48.out; have sHS54 := HS54.out; have sHS58 := HS58.out; omega), (show w_9.heap.size ≤ w_55.heap.size by have sHGgb1 := HGgb1.out; have sHS4 := HS4.out; have sHS6 := HS6.out; have sHS8 := HS8.out; have sHS10 := HS10.out; have sHS17 := HS17.out; have sHGgb11 := HGgb11.out; have sHLgb11 := HLgb11.out; have sHS48 := HS48.out; have sHS54 := HS54.out; have sHS58 := HS58.out; omega), (zk BK2), (zb0 HB)⟩)
    · skip
      refine box_step ?hg (N := 10) ?hd (cs := #[.int .i64 0, .slice none 0 0]) (t := 28) ?hr ?_; (case hd => rfl); (case hg => rfl); (case hr => first | (go_simp; done) | (go_simp; rfl))
      intro gb11 hg_ w_64 hbox hb
      have BK63 := jA hbox
      have HGgb11 : Aside0 (gb11 < w_64.heap.size) := ⟨blk_lt hbox⟩
      have HLgb11 : Aside0 (w_9.heap.size ≤ gb11) := ⟨by rw [hg_]; exact Nat.le_refl _⟩
      clear hbox hg_
      have HBi := jA (jJ (zy) hb : Below w_9.heap.size w_9 w_64)
      clear hb
      have HBn := jA (jJ HB.out HBi.out)
      clear HB
      have HB := HBn
      clear HBn
      have HS65 := jA HBi.out.size
      have n0_ := jA (jO BK2.out HBi.out)
      clear BK2
      have BK2 := n0_
      clear n0_
      clear HBi
      have HWw_64 := jA HB.out.size
      refine hK.out _ _ ⟨(jD BK2.out 0).trans rfl, (jD BK2.out 1).trans rfl⟩ (fun hHeld => ?_)
      clear hK K
      refine norm_ (a' := ?_) ?_ ?_
      rotate_left
      · show Act.put _ (some 10) _ = _
        simp only [Act.put, jL, jS, jT, i64_w, i32_w]
        rfl
      refine one_ (i := 1) (N := some 36) #[true, true, true, false, true, true, false, false, false, false, true, false, false] rfl rfl (one_of HT_.out zr) (by decide) (fun K hK => ?_)
      refine goes_ Try.func16 zr rfl #[.slice A0 l0.length c0, .bool false] (by rfl) rfl rfl zm ?_
      (with_reducible refine (laws_toArticleSX.calls k _ _ l0 false ext0 _ ?side1 ?side2 HTO0.out).mono ?_)
      (case side1 => exact zs HR0 HB)
      (case side2 => exact HC0.out)
      rintro e w_66 ⟨Ao68, no69, co70, rfl, hn, ho, hb⟩
      obtain rfl : no69 = xs0.length := hn.full HXL0.out HNE0.out
      clear hn
      have ho1 := jA (Kd.R_lower (R_span ho) (Nat.le_trans HB.out.size (zy : Below w_64.heap.size w_64 _).size))
      clear ho
      have HBi := jA (jJ (zy) hb : Below w_64.heap.size w_64 w_66)
      clear hb
      have HBn := jA (jJ HB.out HBi.out)
      clear HB
      have HB := HBn
      clear HBn
      have HS71 := jA HBi.out.size
      have n0_ := jA (jO BK2.out HBi.out)
      clear BK2
      have BK2 := n0_
      clear n0_
      have n0_ := jA (jO BK63.out HBi.out)
      clear BK63
      have BK63 := n0_
      clear n0_
      clear HBi
      have HWw_66 := jA HB.out.size
      have HO67 := jA (Kd.R_mono (ok' := fun k_ => w_64.heap.size ≤ k_ ∧ k_ < w_66.heap.size) ho1.out (fun k_ hk_ => hk_))
      clear ho1
      refine ⟨_, rfl, ?_⟩
      refine hK.out _ _ ⟨(jD BK2.out 0).trans rfl, (jD BK2.out 1).trans rfl⟩ (fun hHeld => ?_)
      clear hK K
      refine norm_ (a' := ?_) ?_ ?_
      rotate_left
      · show Act.put _ (some 36) _ = _
        simp only [Act.put, jL, jS, jT, i64_w, i32_w]
        rfl
      refine one_ (i := 3) (N := some 38) #[true, true, true, true, true, true, false, false, false, false, true, false, false] rfl rfl (one_of HT_.out zr) (by decide) (fun K hK => ?_)
      refine goes_ Try.func17 zr rfl #[.agg #[.int .i64 a1_0, .slice A1_1 l1_1.length c1_1], .bool false] (by rfl) rfl rfl zm ?_
      (with_reducible refine (laws_toMagazineX.calls k a1_0 _ _ l1_1 false a1_0 ext1_1 _ ?side1 ?side2 (by unfold laws_toMagazineX.f; rw [HTO1_1.out, Option.bind_some])).mono ?_)
      (case side1 => exact zs HR1_1 HB)
      (case side2 => exact HC1_1.out)
      rintro e w_72 ⟨Ao74, no75, co76, rfl, hn, ho, hb⟩
      obtain rfl : no75 = xs1_1.length := hn.full HXL1_1.out HNE1_1.out
      clear hn
      have ho1 := jA (Kd.R_lower (R_span ho) (Nat.le_trans HB.out.size (zy : Below w_66.heap.size w_66 _).size))
      clear ho
      have HBi := jA (jJ (zy) hb : Below w_66.heap.size w_66 w_72)
      clear hb
      have HBn := jA (jJ HB.out HBi.out)
      clear HB
      have HB := HBn
      clear HBn
      have HS77 := jA HBi.out.size
      have n0_ := jA (jO BK2.out HBi.out)
      clear BK2
      have BK2 := n0_
      clear n0_
      have n0_ := jA (jO BK63.out HBi.out)
      clear BK63
      have BK63 := n0_
      clear n0_
      have n0_ := jA (Kd.R_below HO67.out HBi.out)
      clear HO67
      have HO67 := n0_
      clear n0_
      clear HBi
      have HWw_72 := jA HB.out.size
      have HO73 := jA (Kd.R_mono (ok' := fun k_ => w_66.heap.size ≤ k_ ∧ k_ < w_72.heap.size) ho1.out (fun k_ hk_ => hk_))
      clear ho1
      refine ⟨_, rfl, ?_⟩
      refine hK.out _ _ ⟨(jD BK2.out 0).trans rfl, (jD BK2.out 1).trans rfl⟩ (fun hHeld => ?_)
      clear hK K
      refine norm_ (a' := ?_) ?_ ?_
      rotate_left
      · show Act.put _ (some 38) _ = _
        simp only [Act.put, jL, jS, jT, i64_w, i32_w]
        rfl
      refine one_ (i := 6) (N := some 41) #[true, true, true, true, true, true, true, false, false, false, true, false, false] rfl rfl (one_of HT_.out zr) (by decide) (fun K hK => ?_)
      refine goes_ Try.func40 zr rfl #[.slice Ao68 xs0.length co70, .agg #[.int .i64 a1_0, .slice Ao74 xs1_1.length co76], .string a2, .int .i64 a3] (by rfl) rfl rfl zm ?_
      (with_reducible refine (spec_StorePieces.calls k _ _ xs0 a1_0 _ _ xs1_1 a2 a3 res_r1 ws_r2 res_r3 _ ?side1 ?side2 ?side3 ?side4 HFspec.out).mono ?_)
      (case side1 => repeat (first | exact C_ext (jb HO67.out).2.2 HXE0.out HLE0.out | (with_reducible refine Kd.C_alloc ?_ _) | (with_reducible refine Kd.C_drewN ?_ _) | (with_reducible refine Kd.C_drew ?_)))
      (case side2 => exact Nat.le_trans HLE0.out (jb HO67.out).2.1)
      (case side3 => repeat (first | exact C_ext (jb HO73.out).2.2 HXE1_1.out HLE1_1.out | (with_reducible refine Kd.C_alloc ?_ _) | (with_reducible refine Kd.C_drewN ?_ _) | (with_reducible refine Kd.C_drew ?_)))
      (case side4 => exact Nat.le_trans HLE1_1.out (jb HO73.out).2.1)
      rintro e w_78 ⟨v_79, rfl, ho80, hb⟩
      have ho80A := jA (Kd.R_lower (R_span ho80) (Nat.le_trans HB.out.size (zy : Below w_72.heap.size w_72 _).size))
      clear ho80
      have HBi := jA (jJ (zy) hb : Below w_72.heap.size w_72 w_78)
      clear hb
      have HBn := jA (jJ HB.out HBi.out)
      clear HB
      have HB := HBn
      clear HBn
      have HS81 := jA HBi.out.size
      have n0_ := jA (jO BK2.out HBi.out)
      clear BK2
      have BK2 := n0_
      clear n0_
      have n0_ := jA (jO BK63.out HBi.out)
      clear BK63
      have BK63 := n0_
      clear n0_
      have n0_ := jA (Kd.R_below HO67.out HBi.out)
      clear HO67
      have HO67 := n0_
      clear n0_
      have n0_ := jA (Kd.R_below HO73.out HBi.out)
      clear HO73
      have HO73 := n0_
      clear n0_
      clear HBi
      have HWw_78 := jA HB.out.size
      obtain ⟨Ao83, co84, eo85⟩ := Kd.R_slice ho80A.out
      subst eo85
      have HO82 := jA (Kd.R_mono (ok' := fun k_ => w_72.heap.size ≤ k_ ∧ k_ < w_78.heap.size) ho80A.out (fun k_ hk_ => hk_))
      clear ho80A
      refine ⟨_, rfl, ?_⟩
      refine hK.out _ _ ⟨(jD BK2.out 0).trans rfl, (jD BK2.out 1).trans rfl⟩ (fun hHeld => ?_)
      clear hK K
      refine norm_ (a' := ?_) ?_ ?_
      rotate_left
      · show Act.put _ (some 41) _ = _
        simp only [Act.put, jL, jS, jT, i64_w, i32_w]
        rfl
      refine zp HT_ 7 34 #[true, true, true, true, true, true, true, true, false, false, true, false, false] ?_
      refine zp HT_ 8 42 #[true, true, true, true, true, true, true, true, true, false, true, false, false] ?_
      refine zp HT_ 9 43 m13_1ffc ?_
      exact norm_ (by simp only [putAll, Act.put, jL, jS, jT]) (hCont ((Ao68, co70), (Ao74, co76), (Ao83, co84), gb11) _ ⟨hHeld, (show Kd.R (Kd.int .i64) 2 w_78 w.heap.size (fun k_ => (w_9.heap.size ≤ k_ ∧ k_ < w_78.heap.size) ∧ k_ ≠ gb11) (.slice Ao83 ws_r2.length co84) ws_r2 from Kd.R_mono HO82.out (fun k_ (h_ : w_72.heap.size ≤ k_ ∧ k_ < w_78.heap.size) => (show (w_9.heap.size ≤ k_ ∧ k_ < w_78.heap.size) ∧ k_ ≠ gb11 from by have sHGgb1 := HGgb1.out; have sHS4 := HS4.out; have sHS6 := HS6.out; have sHS8 := HS8.out; have sHS10 := HS10.out; have sHGgb11 := HGgb11.out; have sHLgb11 := HLgb11.out; have sHS65 := HS65.out; have sHS71 := HS71.out; have sHS77 := HS77.out; have sHS81 := HS81.out; omega))), (show w_78.heap[gb11]? = some (.cells #[.int .i64 0, .slice none 0 0] 28 (0, 0)) from (zk BK63)), (show w_9.heap.size ≤ gb11 by have sHGgb1 := HGgb1.out; have sHS4 := HS4.out; have sHS6 := HS6.out; have sHS8 := HS8.out; have sHS10 := HS10.out; have sHGgb11 := HGgb11.out; have sHLgb11 := HLgb11.out; have sHS65 := HS65.out; have sHS71 := HS71.out; have sHS77 := HS77.out; have sHS81 := HS81.out; omega), (show w_9.heap.size ≤ w_78.heap.size by have sHGgb1 := HGgb1.out; have sHS4 := HS4.out; have sHS6 := HS6.out; have sHS8 := HS8.out; have sHS10 := HS10.out; have sHGgb11 := HGgb11.out; have sHLgb11 := HLgb11.out; have sHS65 := HS65.out; have sHS71 := HS71.out; have sHS77 := HS77.out; have sHS81 := HS81.out; omega), (zk BK2), (zb0 HB)⟩)
  rintro ⟨⟨_, _⟩, ⟨_, _⟩, ⟨Ao88, co89⟩, gb11⟩ w_86 ⟨hS_, hR_, hK_, hL_, hZ_, ho0_, hB_⟩
  have HO90 : Aside0 (Kd.R (Kd.int .i64) 2 w_86 w.heap.size (fun k_ => (w_9.heap.size ≤ k_ ∧ k_ < w_86.heap.size) ∧ k_ ≠ gb11) (.slice Ao88 ws_r2.length co89) ws_r2) := ⟨hR_⟩
  have BK91 : Aside0 (w_86.heap[gb11]? = some (.cells #[.int .i64 0, .slice none 0 0] 28 (0, 0))) := ⟨hK_⟩
  have HLgb11 : Aside0 (w_9.heap.size ≤ gb11) := ⟨hL_⟩
  have HGgb11 : Aside0 (gb11 < w_86.heap.size) := ⟨blk_lt BK91.out⟩
  have HS92 : Aside0 (w_9.heap.size ≤ w_86.heap.size) := ⟨hZ_⟩
  have n0_ : Aside0 (Below w.heap.size w w_86) := ⟨hB_⟩
  clear HB
  have HB := n0_
  clear n0_
  have n0_ : Aside0 (w_86.heap[gb1]? = some (.cells #[.int .i64 a1_0, .slice A1_1 l1_1.length c1_1] 25 (0, 0))) := ⟨ho0_⟩
  clear BK2
  have BK2 := n0_
  clear n0_
  have hHeld : w_86.cell? ⟨gb1, 0, none⟩ = some (.int .i64 a1_0) ∧ w_86.cell? ⟨gb1, 1, none⟩ = some (.slice A1_1 l1_1.length c1_1) := hS_
  clear hR_ hK_ hL_ hZ_ hB_ hS_ ho0_
  have HWw_86 := jA HB.out.size
  refine norm_ (a' := ?_) ?_ ?_
  rotate_left
  · simp only [putAll, Act.put, jL, jS, jT]
    rfl
  refine one_ (i := 11) (N := none) m13_1ffe rfl rfl (one_of HT_.out zr) (by decide) (fun K hK => ?_)
  have hczgb11_0 : w_86.cell? ⟨gb11, 0, none⟩ = some (.int .i64 0) := (jD BK91.out 0).trans rfl
  have hfzgb11_0 := jC BK91.out 0
  have hczgb11_1 : w_86.cell? ⟨gb11, 1, none⟩ = some (.slice none 0 0) := (jD BK91.out 1).trans rfl
  have hfzgb11_1 := jC BK91.out 1
  have hnegb1 := jN (jR HNgb11_gb1.out HLgb11.out)
  have hnfgb1 := hnegb1.symm
  refine skip_ (w1 := ?_) (by rfl) rfl ?_ ?_
  rotate_left
  · go_simp
    rfl
  refine hK.out _ _ ⟨((jX (p := ⟨gb11, _, none⟩) hnegb1 _).trans ((jX (p := ⟨gb11, _, none⟩) hnegb1 _).trans ((jD BK2.out 0).trans rfl))), ((jX (p := ⟨gb11, _, none⟩) hnegb1 _).trans ((jX (p := ⟨gb11, _, none⟩) hnegb1 _).trans ((jD BK2.out 1).trans rfl)))⟩ (fun hHeld => ?_)
  clear hK K hczgb11_0 hfzgb11_0 hczgb11_1 hfzgb11_1 hnegb1 hnfgb1
  refine zp HT_ 12 11 m13_1fff ?_
  refine done_ (done_of HT_.out zr) ?_
  clear hHeld
  generalize hq_ : World.setCell (World.setCell w_86 ⟨gb11, 0, none⟩ (.int .i64 res_r1)) ⟨gb11, 1, none⟩ (.slice Ao88 ws_r2.length co89) = w_93
  have hk1 : Aside0 (Kept w_86 w_93 (fun k_ => k_ = gb11)) := ⟨by rw [← hq_]; exact Kept.then_ (kept_set w_86 gb11 0 _) (kept_set (World.setCell w_86 ⟨gb11, 0, none⟩ (.int .i64 res_r1)) gb11 1 _) (fun _ h_ => .inl h_)⟩
  have hz_ : w.heap.size ≤ w_9.heap.size := HWw_9.out
  have n0_ : Aside0 (Below w.heap.size w w_93) := ⟨by rw [← hq_]; exact (below_set (below_set HB.out (Nat.le_trans hz_ HLgb11.out)) (Nat.le_trans hz_ HLgb11.out))⟩
  clear HB hz_
  have HB := n0_
  clear n0_
  have n0_ : Aside0 (w_93.heap[gb11]? = some (.cells #[.int .i64 res_r1, .slice Ao88 ws_r2.length co89] 28 (0, 0))) := ⟨by rw [← hq_]; exact (jZ (cs := #[.int .i64 res_r1, .slice none 0 0]) (jZ (cs := #[.int .i64 0, .slice none 0 0]) BK91.out 0 _ rfl) 1 _ rfl)⟩
  clear BK91 hq_
  have BK91 := n0_
  clear n0_
  have HS94 := jA hk1.out.1
  have n0_ := jA ((hk1.out.2 gb1 (blk_lt BK2.out) (fun h_ => by have sHGgb1 := HGgb1.out; have sHS4 := HS4.out; have sHS6 := HS6.out; have sHS8 := HS8.out; have sHS10 := HS10.out; have sHS92 := HS92.out; have sHGgb11 := HGgb11.out; have sHLgb11 := HLgb11.out; have sHS94 := HS94.out; omega)).trans BK2.out)
  clear BK2
  have BK2 := n0_
  clear n0_
  have n0_ := jA (Kd.R_kept HO90.out hk1.out (fun k_ h1_ (h2_ : k_ = gb11) => h1_.2 h2_))
  clear HO90
  have HO90 := n0_
  clear n0_
  clear hk1
  have HWw_93 := jA HB.out.size
  have n0_ := jA (Kd.R_mono (ok' := fun k_ => w_9.heap.size ≤ k_ ∧ k_ < w_86.heap.size) HO90.out (fun k_ h_ => h_.1))
  clear HO90
  have HO90 := n0_
  clear n0_
  have hczgb1_0 : w_93.cell? ⟨gb1, 0, none⟩ = some (.int .i64 a1_0) := (jD BK2.out 0).trans rfl
  have hfzgb1_0 := jC BK2.out 0
  have hczgb1_1 : w_93.cell? ⟨gb1, 1, none⟩ = some (.slice A1_1 l1_1.length c1_1) := (jD BK2.out 1).trans rfl
  have hfzgb1_1 := jC BK2.out 1
  have hczgb11_0 : w_93.cell? ⟨gb11, 0, none⟩ = some (.int .i64 res_r1) := (jD BK91.out 0).trans rfl
  have hfzgb11_0 := jC BK91.out 0
  have hczgb11_1 : w_93.cell? ⟨gb11, 1, none⟩ = some (.slice Ao88 ws_r2.length co89) := (jD BK91.out 1).trans rfl
  have hfzgb11_1 := jC BK91.out 1
  go_wp2_with (fail)
  clear hczgb1_0 hfzgb1_0 hczgb1_1 hfzgb1_1 hczgb11_0 hfzgb11_0 hczgb11_1 hfzgb11_1
  go_at_call 16
  (with_reducible refine (laws_toArticleSX.calls k _ _ l0 false ext0 _ ?side1 ?side2 HTO0.out).mono ?_)
  (case side1 => exact zs HR0 HB)
  (case side2 => exact HC0.out)
  rintro e w_95 ⟨Ao97, no98, co99, rfl, hn, ho, hb⟩
  obtain rfl : no98 = xs0.length := hn.full HXL0.out HNE0.out
  clear hn
  have ho1 := jA (Kd.R_lower (R_span ho) (Nat.le_trans HB.out.size (zy : Below w_93.heap.size w_93 _).size))
  clear ho
  have HBi := jA (jJ (zy) hb : Below w_93.heap.size w_93 w_95)
  clear hb
  have HBn := jA (jJ HB.out HBi.out)
  clear HB
  have HB := HBn
  clear HBn
  have HS100 := jA HBi.out.size
  have n0_ := jA (jO BK2.out HBi.out)
  clear BK2
  have BK2 := n0_
  clear n0_
  have n0_ := jA (Kd.R_below HO90.out HBi.out)
  clear HO90
  have HO90 := n0_
  clear n0_
  have n0_ := jA (jO BK91.out HBi.out)
  clear BK91
  have BK91 := n0_
  clear n0_
  clear HBi
  have HWw_95 := jA HB.out.size
  have HO96 := jA (Kd.R_mono (ok' := fun k_ => w_93.heap.size ≤ k_ ∧ k_ < w_95.heap.size) ho1.out (fun k_ hk_ => hk_))
  clear ho1
  have hczgb1_0 : w_95.cell? ⟨gb1, 0, none⟩ = some (.int .i64 a1_0) := (jD BK2.out 0).trans rfl
  have hfzgb1_0 := jC BK2.out 0
  have hczgb1_1 : w_95.cell? ⟨gb1, 1, none⟩ = some (.slice A1_1 l1_1.length c1_1) := (jD BK2.out 1).trans rfl
  have hfzgb1_1 := jC BK2.out 1
  have hczgb11_0 : w_95.cell? ⟨gb11, 0, none⟩ = some (.int .i64 res_r1) := (jD BK91.out 0).trans rfl
  have hfzgb11_0 := jC BK91.out 0
  have hczgb11_1 : w_95.cell? ⟨gb11, 1, none⟩ = some (.slice Ao88 ws_r2.length co89) := (jD BK91.out 1).trans rfl
  have hfzgb11_1 := jC BK91.out 1
  go_wp2_with (fail)
  clear hczgb1_0 hfzgb1_0 hczgb1_1 hfzgb1_1 hczgb11_0 hfzgb11_0 hczgb11_1 hfzgb11_1
  go_at_call 17
  (with_reducible refine (laws_toMagazineX.calls k a1_0 _ _ l1_1 false a1_0 ext1_1 _ ?side1 ?side2 (by unfold laws_toMagazineX.f; rw [HTO1_1.out, Option.bind_some])).mono ?_)
  (case side1 => exact zs HR1_1 HB)
  (case side2 => exact HC1_1.out)
  rintro e w_101 ⟨Ao103, no104, co105, rfl, hn, ho, hb⟩
  obtain rfl : no104 = xs1_1.length := hn.full HXL1_1.out HNE1_1.out
  clear hn
  have ho1 := jA (Kd.R_lower (R_span ho) (Nat.le_trans HB.out.size (zy : Below w_95.heap.size w_95 _).size))
  clear ho
  have HBi := jA (jJ (zy) hb : Below w_95.heap.size w_95 w_101)
  clear hb
  have HBn := jA (jJ HB.out HBi.out)
  clear HB
  have HB := HBn
  clear HBn
  have HS106 := jA HBi.out.size
  have n0_ := jA (jO BK2.out HBi.out)
  clear BK2
  have BK2 := n0_
  clear n0_
  have n0_ := jA (Kd.R_below HO90.out HBi.out)
  clear HO90
  have HO90 := n0_
  clear n0_
  have n0_ := jA (jO BK91.out HBi.out)
  clear BK91
  have BK91 := n0_
  clear n0_
  have n0_ := jA (Kd.R_below HO96.out HBi.out)
  clear HO96
  have HO96 := n0_
  clear n0_
  clear HBi
  have HWw_101 := jA HB.out.size
  have HO102 := jA (Kd.R_mono (ok' := fun k_ => w_95.heap.size ≤ k_ ∧ k_ < w_101.heap.size) ho1.out (fun k_ hk_ => hk_))
  clear ho1
  go_wp2_with (first | ((with_reducible refine jV (N := 13) rfl ?_); refine jU ?hg (N := 13) ?hd (cs := #[.int .i64 0, .slice none 0 0]) (t := 28) ?hr ?_; (case hd => rfl); (case hg => rfl); (case hr => first | (go_simp; done) | (go_simp; rfl)); intro gb107 hg_ w_109 hbox hb; have BK108 := jA hbox; have HGgb107 : Aside0 (gb107 < w_109.heap.size) := ⟨blk_lt hbox⟩; have HLgb107 : Aside0 (w_101.heap.size ≤ gb107) := ⟨by rw [hg_]; exact Nat.le_refl _⟩; have hbA_ := jA hb; have hbB_ := jA (jJ (zy) hb : Below w_101.heap.size w_101 w_109); clear hbox hg_ hb; have hczgb107_0 : w_109.cell? ⟨gb107, 0, none⟩ = some (.int .i64 0) := (jD BK108.out 0).trans rfl; have hfzgb107_0 := jC BK108.out 0; have hczgb107_1 : w_109.cell? ⟨gb107, 1, none⟩ = some (.slice none 0 0) := (jD BK108.out 1).trans rfl; have hfzgb107_1 := jC BK108.out 1; have hczgb1_0 : w_109.cell? ⟨gb1, 0, none⟩ = some (.int .i64 a1_0) := (jD (jO BK2.out hbB_.out) 0).trans rfl; have hfzgb1_0 := jC (jO BK2.out hbB_.out) 0; have hczgb1_1 : w_109.cell? ⟨gb1, 1, none⟩ = some (.slice A1_1 l1_1.length c1_1) := (jD (jO BK2.out hbB_.out) 1).trans rfl; have hfzgb1_1 := jC (jO BK2.out hbB_.out) 1; have hczgb11_0 : w_109.cell? ⟨gb11, 0, none⟩ = some (.int .i64 res_r1) := (jD (jO BK91.out hbB_.out) 0).trans rfl; have hfzgb11_0 := jC (jO BK91.out hbB_.out) 0; have hczgb11_1 : w_109.cell? ⟨gb11, 1, none⟩ = some (.slice Ao88 ws_r2.length co89) := (jD (jO BK91.out hbB_.out) 1).trans rfl; have hfzgb11_1 := jC (jO BK91.out hbB_.out) 1; have hnegb1 : gb1 ≠ gb107 := jN (jR (blk_lt BK2.out) HLgb107.out); have hnfgb1 := hnegb1.symm; have hnegb11 : gb11 ≠ gb107 := jN (jR (blk_lt BK91.out) HLgb107.out); have hnfgb11 := hnegb11.symm))
  clear hczgb107_0 hfzgb107_0 hczgb107_1 hfzgb107_1 hczgb1_0 hfzgb1_0 hczgb1_1 hfzgb1_1 hczgb11_0 hfzgb11_0 hczgb11_1 hfzgb11_1 hnegb1 hnfgb1 hnegb11 hnfgb11
  have hb := hbA_.out
  clear hbA_ hbB_
  have HBi := jA (jJ (zy) hb : Below w_101.heap.size w_101 w_109)
  clear hb
  have HBn := jA (jJ HB.out HBi.out)
  clear HB
  have HB := HBn
  clear HBn
  have HS111 := jA HBi.out.size
  have n0_ := jA (jO BK2.out HBi.out)
  clear BK2
  have BK2 := n0_
  clear n0_
  have n0_ := jA (Kd.R_below HO90.out HBi.out)
  clear HO90
  have HO90 := n0_
  clear n0_
  have n0_ := jA (jO BK91.out HBi.out)
  clear BK91
  have BK91 := n0_
  clear n0_
  have n0_ := jA (Kd.R_below HO96.out HBi.out)
  clear HO96
  have HO96 := n0_
  clear n0_
  have n0_ := jA (Kd.R_below HO102.out HBi.out)
  clear HO102
  have HO102 := n0_
  clear n0_
  clear HBi
  have HWw_109 := jA HB.out.size
  generalize hq_ : World.setCell (World.setCell w_109 ⟨gb107, 0, none⟩ (.int .i64 a1_0)) ⟨gb107, 1, none⟩ (.slice Ao103 xs1_1.length co105) = w_112
  have hk1 : Aside0 (Kept w_109 w_112 (fun k_ => k_ = gb107)) := ⟨by rw [← hq_]; exact Kept.then_ (kept_set w_109 gb107 0 _) (kept_set (World.setCell w_109 ⟨gb107, 0, none⟩ (.int .i64 a1_0)) gb107 1 _) (fun _ h_ => .inl h_)⟩
  have hz_ : w.heap.size ≤ w_101.heap.size := HWw_101.out
  have n0_ : Aside0 (Below w.heap.size w w_112) := ⟨by rw [← hq_]; exact (below_set (below_set HB.out (Nat.le_trans hz_ HLgb107.out)) (Nat.le_trans hz_ HLgb107.out))⟩
  clear HB hz_
  have HB := n0_
  clear n0_
  have n0_ : Aside0 (w_112.heap[gb107]? = some (.cells #[.int .i64 a1_0, .slice Ao103 xs1_1.length co105] 28 (0, 0))) := ⟨by rw [← hq_]; exact (jZ (cs := #[.int .i64 a1_0, .slice none 0 0]) (jZ (cs := #[.int .i64 0, .slice none 0 0]) BK108.out 0 _ rfl) 1 _ rfl)⟩
  clear BK108 hq_
  have BK108 := n0_
  clear n0_
  have HS113 := jA hk1.out.1
  have n0_ := jA ((hk1.out.2 gb1 (blk_lt BK2.out) (fun h_ => by have sHGgb1 := HGgb1.out; have sHS4 := HS4.out; have sHS6 := HS6.out; have sHS8 := HS8.out; have sHS10 := HS10.out; have sHS92 := HS92.out; have sHGgb11 := HGgb11.out; have sHLgb11 := HLgb11.out; have sHS94 := HS94.out; have sHS100 := HS100.out; have sHS106 := HS106.out; have sHGgb107 := HGgb107.out; have sHLgb107 := HLgb107.out; have sHS111 := HS111.out; have sHS113 := HS113.out; omega)).trans BK2.out)
  clear BK2
  have BK2 := n0_
  clear n0_
  have n0_ := jA (Kd.R_kept HO90.out hk1.out (fun k_ (h1_ : w_9.heap.size ≤ k_ ∧ k_ < w_86.heap.size) (h2_ : k_ = gb107) => by have sHGgb1 := HGgb1.out; have sHS4 := HS4.out; have sHS6 := HS6.out; have sHS8 := HS8.out; have sHS10 := HS10.out; have sHS92 := HS92.out; have sHGgb11 := HGgb11.out; have sHLgb11 := HLgb11.out; have sHS94 := HS94.out; have sHS100 := HS100.out; have sHS106 := HS106.out; have sHGgb107 := HGgb107.out; have sHLgb107 := HLgb107.out; have sHS111 := HS111.out; have sHS113 := HS113.out; omega))
  clear HO90
  have HO90 := n0_
  clear n0_
  have n0_ := jA ((hk1.out.2 gb11 (blk_lt BK91.out) (fun h_ => by have sHGgb1 := HGgb1.out; have sHS4 := HS4.out; have sHS6 := HS6.out; have sHS8 := HS8.out; have sHS10 := HS10.out; have sHS92 := HS92.out; have sHGgb11 := HGgb11.out; have sHLgb11 := HLgb11.out; have sHS94 := HS94.out; have sHS100 := HS100.out; have sHS106 := HS106.out; have sHGgb107 := HGgb107.out; have sHLgb107 := HLgb107.out; have sHS111 := HS111.out; have sHS113 := HS113.out; omega)).trans BK91.out)
  clear BK91
  have BK91 := n0_
  clear n0_
  have n0_ := jA (Kd.R_kept HO96.out hk1.out (fun k_ (h1_ : w_93.heap.size ≤ k_ ∧ k_ < w_95.heap.size) (h2_ : k_ = gb107) => by have sHGgb1 := HGgb1.out; have sHS4 := HS4.out; have sHS6 := HS6.out; have sHS8 := HS8.out; have sHS10 := HS10.out; have sHS92 := HS92.out; have sHGgb11 := HGgb11.out; have sHLgb11 := HLgb11.out; have sHS94 := HS94.out; have sHS100 := HS100.out; have sHS106 := HS106.out; have sHGgb107 := HGgb107.out; have sHLgb107 := HLgb107.out; have sHS111 := HS111.out; have sHS113 := HS113.out; omega))
  clear HO96
  have HO96 := n0_
  clear n0_
  have n0_ := jA (Kd.R_kept HO102.out hk1.out (fun k_ (h1_ : w_95.heap.size ≤ k_ ∧ k_ < w_101.heap.size) (h2_ : k_ = gb107) => by have sHGgb1 := HGgb1.out; have sHS4 := HS4.out; have sHS6 := HS6.out; have sHS8 := HS8.out; have sHS10 := HS10.out; have sHS92 := HS92.out; have sHGgb11 := HGgb11.out; have sHLgb11 := HLgb11.out; have sHS94 := HS94.out; have sHS100 := HS100.out; have sHS106 := HS106.out; have sHGgb107 := HGgb107.out; have sHLgb107 := HLgb107.out; have sHS111 := HS111.out; have sHS113 := HS113.out; omega))
  clear HO102
  have HO102 := n0_
  clear n0_
  clear hk1
  have HWw_112 := jA HB.out.size
  have hczgb1_0 : w_112.cell? ⟨gb1, 0, none⟩ = some (.int .i64 a1_0) := (jD BK2.out 0).trans rfl
  have hfzgb1_0 := jC BK2.out 0
  have hczgb1_1 : w_112.cell? ⟨gb1, 1, none⟩ = some (.slice A1_1 l1_1.length c1_1) := (jD BK2.out 1).trans rfl
  have hfzgb1_1 := jC BK2.out 1
  have hczgb11_0 : w_112.cell? ⟨gb11, 0, none⟩ = some (.int .i64 res_r1) := (jD BK91.out 0).trans rfl
  have hfzgb11_0 := jC BK91.out 0
  have hczgb11_1 : w_112.cell? ⟨gb11, 1, none⟩ = some (.slice Ao88 ws_r2.length co89) := (jD BK91.out 1).trans rfl
  have hfzgb11_1 := jC BK91.out 1
  have hczgb107_0 : w_112.cell? ⟨gb107, 0, none⟩ = some (.int .i64 a1_0) := (jD BK108.out 0).trans rfl
  have hfzgb107_0 := jC BK108.out 0
  have hczgb107_1 : w_112.cell? ⟨gb107, 1, none⟩ = some (.slice Ao103 xs1_1.length co105) := (jD BK108.out 1).trans rfl
  have hfzgb107_1 := jC BK108.out 1
  go_wp2_with (fail)
  clear hczgb1_0 hfzgb1_0 hczgb1_1 hfzgb1_1 hczgb11_0 hfzgb11_0 hczgb11_1 hfzgb11_1 hczgb107_0 hfzgb107_0 hczgb107_1 hfzgb107_1
  go_at_call 39
  (with_reducible refine (impl_StorePieces.calls k _ _ xs0 a1_0 _ _ xs1_1 a2 a3 res_r1 gs_r2 res_r3 _ ?side1 ?side2 ?side3 ?side4 HFimpl.out).mono ?_)
  (case side1 => repeat (first | exact C_ext (jb HO96.out).2.2 HXE0.out HLE0.out | (with_reducible refine Kd.C_alloc ?_ _) | (with_reducible refine Kd.C_drewN ?_ _) | (with_reducible refine Kd.C_drew ?_)))
  (case side2 => exact Nat.le_trans HLE0.out (jb HO96.out).2.1)
  (case side3 => repeat (first | exact C_ext (jb HO102.out).2.2 HXE1_1.out HLE1_1.out | (with_reducible refine Kd.C_alloc ?_ _) | (with_reducible refine Kd.C_drewN ?_ _) | (with_reducible refine Kd.C_drew ?_)))
  (case side4 => exact Nat.le_trans HLE1_1.out (jb HO102.out).2.1)
  rintro e w_114 ⟨v_115, rfl, ho116, hb⟩
  have ho116A := jA (Kd.R_lower (R_span ho116) (Nat.le_trans HB.out.size (zy : Below w_112.heap.size w_112 _).size))
  clear ho116
  have HBi := jA (jJ (zy) hb : Below w_112.heap.size w_112 w_114)
  clear hb
  have HBn := jA (jJ HB.out HBi.out)
  clear HB
  have HB := HBn
  clear HBn
  have HS117 := jA HBi.out.size
  have n0_ := jA (jO BK2.out HBi.out)
  clear BK2
  have BK2 := n0_
  clear n0_
  have n0_ := jA (Kd.R_below HO90.out HBi.out)
  clear HO90
  have HO90 := n0_
  clear n0_
  have n0_ := jA (jO BK91.out HBi.out)
  clear BK91
  have BK91 := n0_
  clear n0_
  have n0_ := jA (Kd.R_below HO96.out HBi.out)
  clear HO96
  have HO96 := n0_
  clear n0_
  have n0_ := jA (Kd.R_below HO102.out HBi.out)
  clear HO102
  have HO102 := n0_
  clear n0_
  have n0_ := jA (jO BK108.out HBi.out)
  clear BK108
  have BK108 := n0_
  clear n0_
  clear HBi
  have HWw_114 := jA HB.out.size
  obtain ⟨Ao119, co120, eo121⟩ := Kd.R_slice ho116A.out
  subst eo121
  have HO118 := jA (Kd.R_mono (ok' := fun k_ => w_112.heap.size ≤ k_ ∧ k_ < w_114.heap.size) ho116A.out (fun k_ hk_ => hk_))
  clear ho116A
  go_wp2_with (first | ((with_reducible refine jV (N := 14) rfl ?_); refine jU ?hg (N := 14) ?hd (cs := #[.int .i64 0, .slice none 0 0]) (t := 28) ?hr ?_; (case hd => rfl); (case hg => rfl); (case hr => first | (go_simp; done) | (go_simp; rfl)); intro gb122 hg_ w_124 hbox hb; have BK123 := jA hbox; have HGgb122 : Aside0 (gb122 < w_124.heap.size) := ⟨blk_lt hbox⟩; have HLgb122 : Aside0 (w_114.heap.size ≤ gb122) := ⟨by rw [hg_]; exact Nat.le_refl _⟩; have hbA_ := jA hb; have hbB_ := jA (jJ (zy) hb : Below w_114.heap.size w_114 w_124); clear hbox hg_ hb; have hczgb122_0 : w_124.cell? ⟨gb122, 0, none⟩ = some (.int .i64 0) := (jD BK123.out 0).trans rfl; have hfzgb122_0 := jC BK123.out 0; have hczgb122_1 : w_124.cell? ⟨gb122, 1, none⟩ = some (.slice none 0 0) := (jD BK123.out 1).trans rfl; have hfzgb122_1 := jC BK123.out 1; have hczgb1_0 : w_124.cell? ⟨gb1, 0, none⟩ = some (.int .i64 a1_0) := (jD (jO BK2.out hbB_.out) 0).trans rfl; have hfzgb1_0 := jC (jO BK2.out hbB_.out) 0; have hczgb1_1 : w_124.cell? ⟨gb1, 1, none⟩ = some (.slice A1_1 l1_1.length c1_1) := (jD (jO BK2.out hbB_.out) 1).trans rfl; have hfzgb1_1 := jC (jO BK2.out hbB_.out) 1; have hczgb11_0 : w_124.cell? ⟨gb11, 0, none⟩ = some (.int .i64 res_r1) := (jD (jO BK91.out hbB_.out) 0).trans rfl; have hfzgb11_0 := jC (jO BK91.out hbB_.out) 0; have hczgb11_1 : w_124.cell? ⟨gb11, 1, none⟩ = some (.slice Ao88 ws_r2.length co89) := (jD (jO BK91.out hbB_.out) 1).trans rfl; have hfzgb11_1 := jC (jO BK91.out hbB_.out) 1; have hczgb107_0 : w_124.cell? ⟨gb107, 0, none⟩ = some (.int .i64 a1_0) := (jD (jO BK108.out hbB_.out) 0).trans rfl; have hfzgb107_0 := jC (jO BK108.out hbB_.out) 0; have hczgb107_1 : w_124.cell? ⟨gb107, 1, none⟩ = some (.slice Ao103 xs1_1.length co105) := (jD (jO BK108.out hbB_.out) 1).trans rfl; have hfzgb107_1 := jC (jO BK108.out hbB_.out) 1; have hnegb1 : gb1 ≠ gb122 := jN (jR (blk_lt BK2.out) HLgb122.out); have hnfgb1 := hnegb1.symm; have hnegb11 : gb11 ≠ gb122 := jN (jR (blk_lt BK91.out) HLgb122.out); have hnfgb11 := hnegb11.symm; have hnegb107 : gb107 ≠ gb122 := jN (jR (blk_lt BK108.out) HLgb122.out); have hnfgb107 := hnegb107.symm))
  clear hczgb122_0 hfzgb122_0 hczgb122_1 hfzgb122_1 hczgb1_0 hfzgb1_0 hczgb1_1 hfzgb1_1 hczgb11_0 hfzgb11_0 hczgb11_1 hfzgb11_1 hczgb107_0 hfzgb107_0 hczgb107_1 hfzgb107_1 hnegb1 hnfgb1 hnegb11 hnfgb11 hnegb107 hnfgb107
  have hb := hbA_.out
  clear hbA_ hbB_
  have HBi := jA (jJ (zy) hb : Below w_114.heap.size w_114 w_124)
  clear hb
  have HBn := jA (jJ HB.out HBi.out)
  clear HB
  have HB := HBn
  clear HBn
  have HS126 := jA HBi.out.size
  have n0_ := jA (jO BK2.out HBi.out)
  clear BK2
  have BK2 := n0_
  clear n0_
  have n0_ := jA (Kd.R_below HO90.out HBi.out)
  clear HO90
  have HO90 := n0_
  clear n0_
  have n0_ := jA (jO BK91.out HBi.out)
  clear BK91
  have BK91 := n0_
  clear n0_
  have n0_ := jA (Kd.R_below HO96.out HBi.out)
  clear HO96
  have HO96 := n0_
  clear n0_
  have n0_ := jA (Kd.R_below HO102.out HBi.out)
  clear HO102
  have HO102 := n0_
  clear n0_
  have n0_ := jA (jO BK108.out HBi.out)
  clear BK108
  have BK108 := n0_
  clear n0_
  have n0_ := jA (Kd.R_below HO118.out HBi.out)
  clear HO118
  have HO118 := n0_
  clear n0_
  clear HBi
  have HWw_124 := jA HB.out.size
  generalize hq_ : World.setCell (World.setCell w_124 ⟨gb122, 0, none⟩ (.int .i64 res_r1)) ⟨gb122, 1, none⟩ (.slice Ao119 gs_r2.length co120) = w_127
  have hk1 : Aside0 (Kept w_124 w_127 (fun k_ => k_ = gb122)) := ⟨by rw [← hq_]; exact Kept.then_ (kept_set w_124 gb122 0 _) (kept_set (World.setCell w_124 ⟨gb122, 0, none⟩ (.int .i64 res_r1)) gb122 1 _) (fun _ h_ => .inl h_)⟩
  have hz_ : w.heap.size ≤ w_114.heap.size := HWw_114.out
  have n0_ : Aside0 (Below w.heap.size w w_127) := ⟨by rw [← hq_]; exact (below_set (below_set HB.out (Nat.le_trans hz_ HLgb122.out)) (Nat.le_trans hz_ HLgb122.out))⟩
  clear HB hz_
  have HB := n0_
  clear n0_
  have n0_ : Aside0 (w_127.heap[gb122]? = some (.cells #[.int .i64 res_r1, .slice Ao119 gs_r2.length co120] 28 (0, 0))) := ⟨by rw [← hq_]; exact (jZ (cs := #[.int .i64 res_r1, .slice none 0 0]) (jZ (cs := #[.int .i64 0, .slice none 0 0]) BK123.out 0 _ rfl) 1 _ rfl)⟩
  clear BK123 hq_
  have BK123 := n0_
  clear n0_
  have HS128 := jA hk1.out.1
  have n0_ := jA ((hk1.out.2 gb1 (blk_lt BK2.out) (fun h_ => by have sHGgb1 := HGgb1.out; have sHS4 := HS4.out; have sHS6 := HS6.out; have sHS8 := HS8.out; have sHS10 := HS10.out; have sHS92 := HS92.out; have sHGgb11 := HGgb11.out; have sHLgb11 := HLgb11.out; have sHS94 := HS94.out; have sHS100 := HS100.out; have sHS106 := HS106.out; have sHGgb107 := HGgb107.out; have sHLgb107 := HLgb107.out; have sHS111 := HS111.out; have sHS113 := HS113.out; have sHS117 := HS117.out; have sHGgb122 := HGgb122.out; have sHLgb122 := HLgb122.out; have sHS126 := HS126.out; have sHS128 := HS128.out; omega)).trans BK2.out)
  clear BK2
  have BK2 := n0_
  clear n0_
  have n0_ := jA (Kd.R_kept HO90.out hk1.out (fun k_ (h1_ : w_9.heap.size ≤ k_ ∧ k_ < w_86.heap.size) (h2_ : k_ = gb122) => by have sHGgb1 := HGgb1.out; have sHS4 := HS4.out; have sHS6 := HS6.out; have sHS8 := HS8.out; have sHS10 := HS10.out; have sHS92 := HS92.out; have sHGgb11 := HGgb11.out; have sHLgb11 := HLgb11.out; have sHS94 := HS94.out; have sHS100 := HS100.out; have sHS106 := HS106.out; have sHGgb107 := HGgb107.out; have sHLgb107 := HLgb107.out; have sHS111 := HS111.out; have sHS113 := HS113.out; have sHS117 := HS117.out; have sHGgb122 := HGgb122.out; have sHLgb122 := HLgb122.out; have sHS126 := HS126.out; have sHS128 := HS128.out; omega))
  clear HO90
  have HO90 := n0_
  clear n0_
  have n0_ := jA ((hk1.out.2 gb11 (blk_lt BK91.out) (fun h_ => by have sHGgb1 := HGgb1.out; have sHS4 := HS4.out; have sHS6 := HS6.out; have sHS8 := HS8.out; have sHS10 := HS10.out; have sHS92 := HS92.out; have sHGgb11 := HGgb11.out; have sHLgb11 := HLgb11.out; have sHS94 := HS94.out; have sHS100 := HS100.out; have sHS106 := HS106.out; have sHGgb107 := HGgb107.out; have sHLgb107 := HLgb107.out; have sHS111 := HS111.out; have sHS113 := HS113.out; have sHS117 := HS117.out; have sHGgb122 := HGgb122.out; have sHLgb122 := HLgb122.out; have sHS126 := HS126.out; have sHS128 := HS128.out; omega)).trans BK91.out)
  clear BK91
  have BK91 := n0_
  clear n0_
  have n0_ := jA (Kd.R_kept HO96.out hk1.out (fun k_ (h1_ : w_93.heap.size ≤ k_ ∧ k_ < w_95.heap.size) (h2_ : k_ = gb122) => by have sHGgb1 := HGgb1.out; have sHS4 := HS4.out; have sHS6 := HS6.out; have sHS8 := HS8.out; have sHS10 := HS10.out; have sHS92 := HS92.out; have sHGgb11 := HGgb11.out; have sHLgb11 := HLgb11.out; have sHS94 := HS94.out; have sHS100 := HS100.out; have sHS106 := HS106.out; have sHGgb107 := HGgb107.out; have sHLgb107 := HLgb107.out; have sHS111 := HS111.out; have sHS113 := HS113.out; have sHS117 := HS117.out; have sHGgb122 := HGgb122.out; have sHLgb122 := HLgb122.out; have sHS126 := HS126.out; have sHS128 := HS128.out; omega))
  clear HO96
  have HO96 := n0_
  clear n0_
  have n0_ := jA (Kd.R_kept HO102.out hk1.out (fun k_ (h1_ : w_95.heap.size ≤ k_ ∧ k_ < w_101.heap.size) (h2_ : k_ = gb122) => by have sHGgb1 := HGgb1.out; have sHS4 := HS4.out; have sHS6 := HS6.out; have sHS8 := HS8.out; have sHS10 := HS10.out; have sHS92 := HS92.out; have sHGgb11 := HGgb11.out; have sHLgb11 := HLgb11.out; have sHS94 := HS94.out; have sHS100 := HS100.out; have sHS106 := HS106.out; have sHGgb107 := HGgb107.out; have sHLgb107 := HLgb107.out; have sHS111 := HS111.out; have sHS113 := HS113.out; have sHS117 := HS117.out; have sHGgb122 := HGgb122.out; have sHLgb122 := HLgb122.out; have sHS126 := HS126.out; have sHS128 := HS128.out; omega))
  clear HO102
  have HO102 := n0_
  clear n0_
  have n0_ := jA ((hk1.out.2 gb107 (blk_lt BK108.out) (fun h_ => by have sHGgb1 := HGgb1.out; have sHS4 := HS4.out; have sHS6 := HS6.out; have sHS8 := HS8.out; have sHS10 := HS10.out; have sHS92 := HS92.out; have sHGgb11 := HGgb11.out; have sHLgb11 := HLgb11.out; have sHS94 := HS94.out; have sHS100 := HS100.out; have sHS106 := HS106.out; have sHGgb107 := HGgb107.out; have sHLgb107 := HLgb107.out; have sHS111 := HS111.out; have sHS113 := HS113.out; have sHS117 := HS117.out; have sHGgb122 := HGgb122.out; have sHLgb122 := HLgb122.out; have sHS126 := HS126.out; have sHS128 := HS128.out; omega)).trans BK108.out)
  clear BK108
  have BK108 := n0_
  clear n0_
  have n0_ := jA (Kd.R_kept HO118.out hk1.out (fun k_ (h1_ : w_112.heap.size ≤ k_ ∧ k_ < w_114.heap.size) (h2_ : k_ = gb122) => by have sHGgb1 := HGgb1.out; have sHS4 := HS4.out; have sHS6 := HS6.out; have sHS8 := HS8.out; have sHS10 := HS10.out; have sHS92 := HS92.out; have sHGgb11 := HGgb11.out; have sHLgb11 := HLgb11.out; have sHS94 := HS94.out; have sHS100 := HS100.out; have sHS106 := HS106.out; have sHGgb107 := HGgb107.out; have sHLgb107 := HLgb107.out; have sHS111 := HS111.out; have sHS113 := HS113.out; have sHS117 := HS117.out; have sHGgb122 := HGgb122.out; have sHLgb122 := HLgb122.out; have sHS126 := HS126.out; have sHS128 := HS128.out; omega))
  clear HO118
  have HO118 := n0_
  clear n0_
  clear hk1
  have HWw_127 := jA HB.out.size
  have hczgb1_0 : w_127.cell? ⟨gb1, 0, none⟩ = some (.int .i64 a1_0) := (jD BK2.out 0).trans rfl
  have hfzgb1_0 := jC BK2.out 0
  have hczgb1_1 : w_127.cell? ⟨gb1, 1, none⟩ = some (.slice A1_1 l1_1.length c1_1) := (jD BK2.out 1).trans rfl
  have hfzgb1_1 := jC BK2.out 1
  have hczgb11_0 : w_127.cell? ⟨gb11, 0, none⟩ = some (.int .i64 res_r1) := (jD BK91.out 0).trans rfl
  have hfzgb11_0 := jC BK91.out 0
  have hczgb11_1 : w_127.cell? ⟨gb11, 1, none⟩ = some (.slice Ao88 ws_r2.length co89) := (jD BK91.out 1).trans rfl
  have hfzgb11_1 := jC BK91.out 1
  have hczgb107_0 : w_127.cell? ⟨gb107, 0, none⟩ = some (.int .i64 a1_0) := (jD BK108.out 0).trans rfl
  have hfzgb107_0 := jC BK108.out 0
  have hczgb107_1 : w_127.cell? ⟨gb107, 1, none⟩ = some (.slice Ao103 xs1_1.length co105) := (jD BK108.out 1).trans rfl
  have hfzgb107_1 := jC BK108.out 1
  have hczgb122_0 : w_127.cell? ⟨gb122, 0, none⟩ = some (.int .i64 res_r1) := (jD BK123.out 0).trans rfl
  have hfzgb122_0 := jC BK123.out 0
  have hczgb122_1 : w_127.cell? ⟨gb122, 1, none⟩ = some (.slice Ao119 gs_r2.length co120) := (jD BK123.out 1).trans rfl
  have hfzgb122_1 := jC BK123.out 1
  go_wp2_with (fail)
  clear hczgb1_0 hfzgb1_0 hczgb1_1 hfzgb1_1 hczgb11_0 hfzgb11_0 hczgb11_1 hfzgb11_1 hczgb107_0 hfzgb107_0 hczgb107_1 hfzgb107_1 hczgb122_0 hfzgb122_0 hczgb122_1 hfzgb122_1
  go_at_call 19
  (with_reducible refine (laws_eqMagazine.calls k res_r1 _ _ gs_r2 res_r1 _ _ ws_r2 true _ ?side1 ?side2 ?side3 ?side4 HE_gs_r2_ws_r2.out).mono ?_)
  (case side1 => repeat (first | exact (jb HO118.out).2.2 | (with_reducible refine Kd.C_alloc ?_ _) | (with_reducible refine Kd.C_drewN ?_ _) | (with_reducible refine Kd.C_drew ?_)))
  (case side2 => exact (jb HO118.out).2.1)
  (case side3 => repeat (first | exact (jb HO90.out).2.2 | (with_reducible refine Kd.C_alloc ?_ _) | (with_reducible refine Kd.C_drewN ?_ _) | (with_reducible refine Kd.C_drew ?_)))
  (case side4 => exact (jb HO90.out).2.1)
  rintro e w_129 ⟨rfl, hb⟩
  have HBi := jA (jJ (zy) hb : Below w_127.heap.size w_127 w_129)
  clear hb
  have HBn := jA (jJ HB.out HBi.out)
  clear HB
  have HB := HBn
  clear HBn
  have HS130 := jA HBi.out.size
  have n0_ := jA (jO BK2.out HBi.out)
  clear BK2
  have BK2 := n0_
  clear n0_
  have n0_ := jA (Kd.R_below HO90.out HBi.out)
  clear HO90
  have HO90 := n0_
  clear n0_
  have n0_ := jA (jO BK91.out HBi.out)
  clear BK91
  have BK91 := n0_
  clear n0_
  have n0_ := jA (Kd.R_below HO96.out HBi.out)
  clear HO96
  have HO96 := n0_
  clear n0_
  have n0_ := jA (Kd.R_below HO102.out HBi.out)
  clear HO102
  have HO102 := n0_
  clear n0_
  have n0_ := jA (jO BK108.out HBi.out)
  clear BK108
  have BK108 := n0_
  clear n0_
  have n0_ := jA (Kd.R_below HO118.out HBi.out)
  clear HO118
  have HO118 := n0_
  clear n0_
  have n0_ := jA (jO BK123.out HBi.out)
  clear BK123
  have BK123 := n0_
  clear n0_
  clear HBi
  have HWw_129 := jA HB.out.size
  have hczgb1_0 : w_129.cell? ⟨gb1, 0, none⟩ = some (.int .i64 a1_0) := (jD BK2.out 0).trans rfl
  have hfzgb1_0 := jC BK2.out 0
  have hczgb1_1 : w_129.cell? ⟨gb1, 1, none⟩ = some (.slice A1_1 l1_1.length c1_1) := (jD BK2.out 1).trans rfl
  have hfzgb1_1 := jC BK2.out 1
  have hczgb11_0 : w_129.cell? ⟨gb11, 0, none⟩ = some (.int .i64 res_r1) := (jD BK91.out 0).trans rfl
  have hfzgb11_0 := jC BK91.out 0
  have hczgb11_1 : w_129.cell? ⟨gb11, 1, none⟩ = some (.slice Ao88 ws_r2.length co89) := (jD BK91.out 1).trans rfl
  have hfzgb11_1 := jC BK91.out 1
  have hczgb107_0 : w_129.cell? ⟨gb107, 0, none⟩ = some (.int .i64 a1_0) := (jD BK108.out 0).trans rfl
  have hfzgb107_0 := jC BK108.out 0
  have hczgb107_1 : w_129.cell? ⟨gb107, 1, none⟩ = some (.slice Ao103 xs1_1.length co105) := (jD BK108.out 1).trans rfl
  have hfzgb107_1 := jC BK108.out 1
  have hczgb122_0 : w_129.cell? ⟨gb122, 0, none⟩ = some (.int .i64 res_r1) := (jD BK123.out 0).trans rfl
  have hfzgb122_0 := jC BK123.out 0
  have hczgb122_1 : w_129.cell? ⟨gb122, 1, none⟩ = some (.slice Ao119 gs_r2.length co120) := (jD BK123.out 1).trans rfl
  have hfzgb122_1 := jC BK123.out 1
  go_wp2_with (fail)
  clear hczgb1_0 hfzgb1_0 hczgb1_1 hfzgb1_1 hczgb11_0 hfzgb11_0 hczgb11_1 hfzgb11_1 hczgb107_0 hfzgb107_0 hczgb107_1 hfzgb107_1 hczgb122_0 hfzgb122_0 hczgb122_1 hfzgb122_1
  go_at_call 16
  (with_reducible refine (laws_toArticleSX.calls k _ _ l0 false ext0 _ ?side1 ?side2 HTO0.out).mono ?_)
  (case side1 => exact zs HR0 HB)
  (case side2 => exact HC0.out)
  rintro e w_131 ⟨Ao133, no134, co135, rfl, hn, ho, hb⟩
  obtain rfl : no134 = xs0.length := hn.full HXL0.out HNE0.out
  clear hn
  have ho1 := jA (Kd.R_lower (R_span ho) (Nat.le_trans HB.out.size (zy : Below w_129.heap.size w_129 _).size))
  clear ho
  have HBi := jA (jJ (zy) hb : Below w_129.heap.size w_129 w_131)
  clear hb
  have HBn := jA (jJ HB.out HBi.out)
  clear HB
  have HB := HBn
  clear HBn
  have HS136 := jA HBi.out.size
  have n0_ := jA (jO BK2.out HBi.out)
  clear BK2
  have BK2 := n0_
  clear n0_
  have n0_ := jA (Kd.R_below HO90.out HBi.out)
  clear HO90
  have HO90 := n0_
  clear n0_
  have n0_ := jA (jO BK91.out HBi.out)
  clear BK91
  have BK91 := n0_
  clear n0_
  have n0_ := jA (Kd.R_below HO96.out HBi.out)
  clear HO96
  have HO96 := n0_
  clear n0_
  have n0_ := jA (Kd.R_below HO102.out HBi.out)
  clear HO102
  have HO102 := n0_
  clear n0_
  have n0_ := jA (jO BK108.out HBi.out)
  clear BK108
  have BK108 := n0_
  clear n0_
  have n0_ := jA (Kd.R_below HO118.out HBi.out)
  clear HO118
  have HO118 := n0_
  clear n0_
  have n0_ := jA (jO BK123.out HBi.out)
  clear BK123
  have BK123 := n0_
  clear n0_
  clear HBi
  have HWw_131 := jA HB.out.size
  have HO132 := jA (Kd.R_mono (ok' := fun k_ => w_129.heap.size ≤ k_ ∧ k_ < w_131.heap.size) ho1.out (fun k_ hk_ => hk_))
  clear ho1
  have hczgb1_0 : w_131.cell? ⟨gb1, 0, none⟩ = some (.int .i64 a1_0) := (jD BK2.out 0).trans rfl
  have hfzgb1_0 := jC BK2.out 0
  have hczgb1_1 : w_131.cell? ⟨gb1, 1, none⟩ = some (.slice A1_1 l1_1.length c1_1) := (jD BK2.out 1).trans rfl
  have hfzgb1_1 := jC BK2.out 1
  have hczgb11_0 : w_131.cell? ⟨gb11, 0, none⟩ = some (.int .i64 res_r1) := (jD BK91.out 0).trans rfl
  have hfzgb11_0 := jC BK91.out 0
  have hczgb11_1 : w_131.cell? ⟨gb11, 1, none⟩ = some (.slice Ao88 ws_r2.length co89) := (jD BK91.out 1).trans rfl
  have hfzgb11_1 := jC BK91.out 1
  have hczgb107_0 : w_131.cell? ⟨gb107, 0, none⟩ = some (.int .i64 a1_0) := (jD BK108.out 0).trans rfl
  have hfzgb107_0 := jC BK108.out 0
  have hczgb107_1 : w_131.cell? ⟨gb107, 1, none⟩ = some (.slice Ao103 xs1_1.length co105) := (jD BK108.out 1).trans rfl
  have hfzgb107_1 := jC BK108.out 1
  have hczgb122_0 : w_131.cell? ⟨gb122, 0, none⟩ = some (.int .i64 res_r1) := (jD BK123.out 0).trans rfl
  have hfzgb122_0 := jC BK123.out 0
  have hczgb122_1 : w_131.cell? ⟨gb122, 1, none⟩ = some (.slice Ao119 gs_r2.length co120) := (jD BK123.out 1).trans rfl
  have hfzgb122_1 := jC BK123.out 1
  go_wp2_with (fail)
  clear hczgb1_0 hfzgb1_0 hczgb1_1 hfzgb1_1 hczgb11_0 hfzgb11_0 hczgb11_1 hfzgb11_1 hczgb107_0 hfzgb107_0 hczgb107_1 hfzgb107_1 hczgb122_0 hfzgb122_0 hczgb122_1 hfzgb122_1
  go_at_call 20
  (with_reducible refine (laws_intactArticleSX.calls k _ _ ext0 _ _ ext0 xs0.length rm0 true _ ?side1 ?side2 ?side3 ?side4 HRM0.out HJ0.out rfl HEQX0.out).mono ?_)
  (case side1 => repeat (first | exact (jb HO96.out).2.2 | (with_reducible refine Kd.C_alloc ?_ _) | (with_reducible refine Kd.C_drewN ?_ _) | (with_reducible refine Kd.C_drew ?_)))
  (case side2 => exact (jb HO96.out).2.1)
  (case side3 => repeat (first | exact (jb HO132.out).2.2 | (with_reducible refine Kd.C_alloc ?_ _) | (with_reducible refine Kd.C_drewN ?_ _) | (with_reducible refine Kd.C_drew ?_)))
  (case side4 => exact (jb HO132.out).2.1)
  rintro e w_137 ⟨rfl, hb⟩
  have HBi := jA (jJ (zy) hb : Below w_131.heap.size w_131 w_137)
  clear hb
  have HBn := jA (jJ HB.out HBi.out)
  clear HB
  have HB := HBn
  clear HBn
  have HS138 := jA HBi.out.size
  have n0_ := jA (jO BK2.out HBi.out)
  clear BK2
  have BK2 := n0_
  clear n0_
  have n0_ := jA (Kd.R_below HO90.out HBi.out)
  clear HO90
  have HO90 := n0_
  clear n0_
  have n0_ := jA (jO BK91.out HBi.out)
  clear BK91
  have BK91 := n0_
  clear n0_
  have n0_ := jA (Kd.R_below HO96.out HBi.out)
  clear HO96
  have HO96 := n0_
  clear n0_
  have n0_ := jA (Kd.R_below HO102.out HBi.out)
  clear HO102
  have HO102 := n0_
  clear n0_
  have n0_ := jA (jO BK108.out HBi.out)
  clear BK108
  have BK108 := n0_
  clear n0_
  have n0_ := jA (Kd.R_below HO118.out HBi.out)
  clear HO118
  have HO118 := n0_
  clear n0_
  have n0_ := jA (jO BK123.out HBi.out)
  clear BK123
  have BK123 := n0_
  clear n0_
  have n0_ := jA (Kd.R_below HO132.out HBi.out)
  clear HO132
  have HO132 := n0_
  clear n0_
  clear HBi
  have HWw_137 := jA HB.out.size
  clear HO132
  have hczgb1_0 : w_137.cell? ⟨gb1, 0, none⟩ = some (.int .i64 a1_0) := (jD BK2.out 0).trans rfl
  have hfzgb1_0 := jC BK2.out 0
  have hczgb1_1 : w_137.cell? ⟨gb1, 1, none⟩ = some (.slice A1_1 l1_1.length c1_1) := (jD BK2.out 1).trans rfl
  have hfzgb1_1 := jC BK2.out 1
  have hczgb11_0 : w_137.cell? ⟨gb11, 0, none⟩ = some (.int .i64 res_r1) := (jD BK91.out 0).trans rfl
  have hfzgb11_0 := jC BK91.out 0
  have hczgb11_1 : w_137.cell? ⟨gb11, 1, none⟩ = some (.slice Ao88 ws_r2.length co89) := (jD BK91.out 1).trans rfl
  have hfzgb11_1 := jC BK91.out 1
  have hczgb107_0 : w_137.cell? ⟨gb107, 0, none⟩ = some (.int .i64 a1_0) := (jD BK108.out 0).trans rfl
  have hfzgb107_0 := jC BK108.out 0
  have hczgb107_1 : w_137.cell? ⟨gb107, 1, none⟩ = some (.slice Ao103 xs1_1.length co105) := (jD BK108.out 1).trans rfl
  have hfzgb107_1 := jC BK108.out 1
  have hczgb122_0 : w_137.cell? ⟨gb122, 0, none⟩ = some (.int .i64 res_r1) := (jD BK123.out 0).trans rfl
  have hfzgb122_0 := jC BK123.out 0
  have hczgb122_1 : w_137.cell? ⟨gb122, 1, none⟩ = some (.slice Ao119 gs_r2.length co120) := (jD BK123.out 1).trans rfl
  have hfzgb122_1 := jC BK123.out 1
  go_wp2_with (fail)
  clear hczgb1_0 hfzgb1_0 hczgb1_1 hfzgb1_1 hczgb11_0 hfzgb11_0 hczgb11_1 hfzgb11_1 hczgb107_0 hfzgb107_0 hczgb107_1 hfzgb107_1 hczgb122_0 hfzgb122_0 hczgb122_1 hfzgb122_1
  refine start_ (n := 5) (S := fun w' => w'.cell? ⟨gb1, 0, none⟩ = some (.int .i64 a1_0) ∧ w'.cell? ⟨gb1, 1, none⟩ = some (.slice A1_1 l1_1.length c1_1) ∧ w'.cell? ⟨gb11, 0, none⟩ = some (.int .i64 res_r1) ∧ w'.cell? ⟨gb11, 1, none⟩ = some (.slice Ao88 ws_r2.length co89) ∧ w'.cell? ⟨gb107, 0, none⟩ = some (.int .i64 a1_0) ∧ w'.cell? ⟨gb107, 1, none⟩ = some (.slice Ao103 xs1_1.length co105) ∧ w'.cell? ⟨gb122, 0, none⟩ = some (.int .i64 res_r1) ∧ w'.cell? ⟨gb122, 1, none⟩ = some (.slice Ao119 gs_r2.length co120)) (ds := []) #[false, false, false, false, false] zr rfl rfl ⟨(jD BK2.out 0).trans rfl, (jD BK2.out 1).trans rfl, (jD BK91.out 0).trans rfl, (jD BK91.out 1).trans rfl, (jD BK108.out 0).trans rfl, (jD BK108.out 1).trans rfl, (jD BK123.out 0).trans rfl, (jD BK123.out 1).trans rfl⟩ (fun hHeld => ?_)
  generalize hq_ : World.drew _ = w_139 at hHeld ⊢
  have n0_ : Aside0 (Below w.heap.size w w_139) := ⟨by rw [← hq_]; (repeat (first | (with_reducible first | exact HB.out | apply below_alloc | apply pw_below_drewN | apply below_drew1) | exact HB.out))⟩
  clear HB
  have HB := n0_
  clear n0_
  have HS140 : Aside0 (w_137.heap.size ≤ w_139.heap.size) := ⟨by rw [← hq_]; exact Nat.le_refl _⟩
  have n0_ : Aside0 (w_139.heap[gb1]? = some (.cells #[.int .i64 a1_0, .slice A1_1 l1_1.length c1_1] 25 (0, 0))) := ⟨by rw [← hq_]; (with_reducible repeat (first | refine jG ?_ _ | refine jI ?_ | refine jH ?_ _)); exact BK2.out⟩
  clear BK2
  have BK2 := n0_
  clear n0_
  have n0_ : Aside0 (Kd.R (Kd.int .i64) 2 w_139 w.heap.size (fun k_ => w_9.heap.size ≤ k_ ∧ k_ < w_86.heap.size) (.slice Ao88 ws_r2.length co89) ws_r2) := ⟨by rw [← hq_]; (with_reducible repeat (first | apply Kd.R_alloc | apply Kd.R_drewN | apply Kd.R_drew)); exact HO90.out⟩
  clear HO90
  have HO90 := n0_
  clear n0_
  have n0_ : Aside0 (w_139.heap[gb11]? = some (.cells #[.int .i64 res_r1, .slice Ao88 ws_r2.length co89] 28 (0, 0))) := ⟨by rw [← hq_]; (with_reducible repeat (first | refine jG ?_ _ | refine jI ?_ | refine jH ?_ _)); exact BK91.out⟩
  clear BK91
  have BK91 := n0_
  clear n0_
  have n0_ : Aside0 (Kd.R k65 65 w_139 w.heap.size (fun k_ => w_93.heap.size ≤ k_ ∧ k_ < w_95.heap.size) (.slice Ao97 ext0.length co99) ext0) := ⟨by rw [← hq_]; (with_reducible repeat (first | apply Kd.R_alloc | apply Kd.R_drewN | apply Kd.R_drew)); exact HO96.out⟩
  clear HO96
  have HO96 := n0_
  clear n0_
  have n0_ : Aside0 (Kd.R (Kd.int .i64) 2 w_139 w.heap.size (fun k_ => w_95.heap.size ≤ k_ ∧ k_ < w_101.heap.size) (.slice Ao103 ext1_1.length co105) ext1_1) := ⟨by rw [← hq_]; (with_reducible repeat (first | apply Kd.R_alloc | apply Kd.R_drewN | apply Kd.R_drew)); exact HO102.out⟩
  clear HO102
  have HO102 := n0_
  clear n0_
  have n0_ : Aside0 (w_139.heap[gb107]? = some (.cells #[.int .i64 a1_0, .slice Ao103 xs1_1.length co105] 28 (0, 0))) := ⟨by rw [← hq_]; (with_reducible repeat (first | refine jG ?_ _ | refine jI ?_ | refine jH ?_ _)); exact BK108.out⟩
  clear BK108
  have BK108 := n0_
  clear n0_
  have n0_ : Aside0 (Kd.R (Kd.int .i64) 2 w_139 w.heap.size (fun k_ => w_112.heap.size ≤ k_ ∧ k_ < w_114.heap.size) (.slice Ao119 gs_r2.length co120) gs_r2) := ⟨by rw [← hq_]; (with_reducible repeat (first | apply Kd.R_alloc | apply Kd.R_drewN | apply Kd.R_drew)); exact HO118.out⟩
  clear HO118
  have HO118 := n0_
  clear n0_
  have n0_ : Aside0 (w_139.heap[gb122]? = some (.cells #[.int .i64 res_r1, .slice Ao119 gs_r2.length co120] 28 (0, 0))) := ⟨by rw [← hq_]; (with_reducible repeat (first | refine jG ?_ _ | refine jI ?_ | refine jH ?_ _)); exact BK123.out⟩
  clear BK123
  have BK123 := n0_
  clear n0_
  clear hq_
  have HWw_139 := jA HB.out.size
  refine take_ (i := 0) (N := some 70) (v := ?_) (a' := ?_) #[true, false, false, false, false] rfl rfl zr (fun _ _ _ h => h) (Or.inl ⟨by rfl, ?_⟩) hHeld ?_ ?_
  rotate_left
  · rintro w' ⟨s0, s1, s2, s3, s4, s5, s6, s7⟩
    go_simp
    with_reducible rfl
  rotate_left
  · simp only [Act.put, jL, jS, jT, i64_w, i32_w]
    rfl
  refine take_ (i := 1) (N := some 71) (v := ?_) (a' := ?_) #[true, true, false, false, false] rfl rfl zr (fun _ _ _ h => h) (Or.inl ⟨by rfl, ?_⟩) hHeld ?_ ?_
  rotate_left
  · rintro w' ⟨s0, s1, s2, s3, s4, s5, s6, s7⟩
    go_simp
    with_reducible rfl
  rotate_left
  · simp only [Act.put, jL, jS, jT, i64_w, i32_w]
    rfl
  refine one_ (i := 2) (N := some 72) #[true, true, true, false, false] rfl rfl zr (by decide) (fun K hK => ?_)
  refine goes_ Try.func17 zr rfl #[.agg #[.int .i64 a1_0, .slice A1_1 l1_1.length c1_1], .bool false] (by rfl) rfl rfl zm ?_
  (with_reducible refine (laws_toMagazineX.calls k a1_0 _ _ l1_1 false a1_0 ext1_1 _ ?side1 ?side2 (by unfold laws_toMagazineX.f; rw [HTO1_1.out, Option.bind_some])).mono ?_)
  (case side1 => exact zs HR1_1 HB)
  (case side2 => exact HC1_1.out)
  rintro e w_141 ⟨Ao143, no144, co145, rfl, hn, ho, hb⟩
  obtain rfl : no144 = xs1_1.length := hn.full HXL1_1.out HNE1_1.out
  clear hn
  have ho1 := jA (Kd.R_lower (R_span ho) (Nat.le_trans HB.out.size (zy : Below w_139.heap.size w_139 _).size))
  clear ho
  have HBi := jA (jJ (zy) hb : Below w_139.heap.size w_139 w_141)
  clear hb
  have HBn := jA (jJ HB.out HBi.out)
  clear HB
  have HB := HBn
  clear HBn
  have HS146 := jA HBi.out.size
  have n0_ := jA (jO BK2.out HBi.out)
  clear BK2
  have BK2 := n0_
  clear n0_
  have n0_ := jA (Kd.R_below HO90.out HBi.out)
  clear HO90
  have HO90 := n0_
  clear n0_
  have n0_ := jA (jO BK91.out HBi.out)
  clear BK91
  have BK91 := n0_
  clear n0_
  have n0_ := jA (Kd.R_below HO96.out HBi.out)
  clear HO96
  have HO96 := n0_
  clear n0_
  have n0_ := jA (Kd.R_below HO102.out HBi.out)
  clear HO102
  have HO102 := n0_
  clear n0_
  have n0_ := jA (jO BK108.out HBi.out)
  clear BK108
  have BK108 := n0_
  clear n0_
  have n0_ := jA (Kd.R_below HO118.out HBi.out)
  clear HO118
  have HO118 := n0_
  clear n0_
  have n0_ := jA (jO BK123.out HBi.out)
  clear BK123
  have BK123 := n0_
  clear n0_
  clear HBi
  have HWw_141 := jA HB.out.size
  have HO142 := jA (Kd.R_mono (ok' := fun k_ => w_139.heap.size ≤ k_ ∧ k_ < w_141.heap.size) ho1.out (fun k_ hk_ => hk_))
  clear ho1
  refine ⟨_, rfl, ?_⟩
  refine hK.out _ _ ⟨(jD BK2.out 0).trans rfl, (jD BK2.out 1).trans rfl, (jD BK91.out 0).trans rfl, (jD BK91.out 1).trans rfl, (jD BK108.out 0).trans rfl, (jD BK108.out 1).trans rfl, (jD BK123.out 0).trans rfl, (jD BK123.out 1).trans rfl⟩ (fun hHeld => ?_)
  clear hK K
  refine norm_ (a' := ?_) ?_ ?_
  rotate_left
  · show Act.put _ (some 72) _ = _
    simp only [Act.put, jL, jS, jT, i64_w, i32_w]
    rfl
  refine one_ (i := 3) (N := some 73) #[true, true, true, true, false] rfl rfl zr (by decide) (fun K hK => ?_)
  refine goes_ Try.func21 zr rfl #[.agg #[.int .i64 a1_0, .slice Ao103 xs1_1.length co105], .agg #[.int .i64 a1_0, .slice Ao143 xs1_1.length co145]] (by rfl) rfl rfl zm ?_
  (with_reducible refine (laws_intactMagazineX.calls k a1_0 _ _ ext1_1 _ _ ext1_1 xs1_1.length rm1_1 _ ?side1 ?side2 ?side3 ?side4 HRM1_1.out HJ1_1.out rfl HEQX1_1.out).mono ?_)
  (case side1 => repeat (first | exact (jb HO102.out).2.2 | (with_reducible refine Kd.C_alloc ?_ _) | (with_reducible refine Kd.C_drewN ?_ _) | (with_reducible refine Kd.C_drew ?_)))
  (case side2 => exact (jb HO102.out).2.1)
  (case side3 => repeat (first | exact (jb HO142.out).2.2 | (with_reducible refine Kd.C_alloc ?_ _) | (with_reducible refine Kd.C_drewN ?_ _) | (with_reducible refine Kd.C_drew ?_)))
  (case side4 => exact (jb HO142.out).2.1)
  rintro e w_147 ⟨rfl, hb⟩
  have HBi := jA (jJ (zy) hb : Below w_141.heap.size w_141 w_147)
  clear hb
  have HBn := jA (jJ HB.out HBi.out)
  clear HB
  have HB := HBn
  clear HBn
  have HS148 := jA HBi.out.size
  have n0_ := jA (jO BK2.out HBi.out)
  clear BK2
  have BK2 := n0_
  clear n0_
  have n0_ := jA (Kd.R_below HO90.out HBi.out)
  clear HO90
  have HO90 := n0_
  clear n0_
  have n0_ := jA (jO BK91.out HBi.out)
  clear BK91
  have BK91 := n0_
  clear n0_
  have n0_ := jA (Kd.R_below HO96.out HBi.out)
  clear HO96
  have HO96 := n0_
  clear n0_
  have n0_ := jA (Kd.R_below HO102.out HBi.out)
  clear HO102
  have HO102 := n0_
  clear n0_
  have n0_ := jA (jO BK108.out HBi.out)
  clear BK108
  have BK108 := n0_
  clear n0_
  have n0_ := jA (Kd.R_below HO118.out HBi.out)
  clear HO118
  have HO118 := n0_
  clear n0_
  have n0_ := jA (jO BK123.out HBi.out)
  clear BK123
  have BK123 := n0_
  clear n0_
  have n0_ := jA (Kd.R_below HO142.out HBi.out)
  clear HO142
  have HO142 := n0_
  clear n0_
  clear HBi
  have HWw_147 := jA HB.out.size
  refine ⟨_, rfl, ?_⟩
  refine hK.out _ _ ⟨(jD BK2.out 0).trans rfl, (jD BK2.out 1).trans rfl, (jD BK91.out 0).trans rfl, (jD BK91.out 1).trans rfl, (jD BK108.out 0).trans rfl, (jD BK108.out 1).trans rfl, (jD BK123.out 0).trans rfl, (jD BK123.out 1).trans rfl⟩ (fun hHeld => ?_)
  clear hK K
  refine norm_ (a' := ?_) ?_ ?_
  rotate_left
  · show Act.put _ (some 73) _ = _
    simp only [Act.put, jL, jS, jT, i64_w, i32_w]
    rfl
  refine pure_ (i := 4) (N := some 74) (v := ?_) (a' := ?_) #[true, true, true, true, true] rfl rfl zr (fun _ _ _ h => h) (Or.inl ⟨by rfl, ?_⟩) ?_ ?_
  rotate_left
  · intro w'
    go_simp
    with_reducible rfl
  rotate_left
  · simp only [Act.put, jL, jS, jT, i64_w, i32_w]
    rfl
  refine done_ zr ?_
  clear HO142
  have hczgb1_0 : w_147.cell? ⟨gb1, 0, none⟩ = some (.int .i64 a1_0) := (jD BK2.out 0).trans rfl
  have hfzgb1_0 := jC BK2.out 0
  have hczgb1_1 : w_147.cell? ⟨gb1, 1, none⟩ = some (.slice A1_1 l1_1.length c1_1) := (jD BK2.out 1).trans rfl
  have hfzgb1_1 := jC BK2.out 1
  have hczgb11_0 : w_147.cell? ⟨gb11, 0, none⟩ = some (.int .i64 res_r1) := (jD BK91.out 0).trans rfl
  have hfzgb11_0 := jC BK91.out 0
  have hczgb11_1 : w_147.cell? ⟨gb11, 1, none⟩ = some (.slice Ao88 ws_r2.length co89) := (jD BK91.out 1).trans rfl
  have hfzgb11_1 := jC BK91.out 1
  have hczgb107_0 : w_147.cell? ⟨gb107, 0, none⟩ = some (.int .i64 a1_0) := (jD BK108.out 0).trans rfl
  have hfzgb107_0 := jC BK108.out 0
  have hczgb107_1 : w_147.cell? ⟨gb107, 1, none⟩ = some (.slice Ao103 xs1_1.length co105) := (jD BK108.out 1).trans rfl
  have hfzgb107_1 := jC BK108.out 1
  have hczgb122_0 : w_147.cell? ⟨gb122, 0, none⟩ = some (.int .i64 res_r1) := (jD BK123.out 0).trans rfl
  have hfzgb122_0 := jC BK123.out 0
  have hczgb122_1 : w_147.cell? ⟨gb122, 1, none⟩ = some (.slice Ao119 gs_r2.length co120) := (jD BK123.out 1).trans rfl
  have hfzgb122_1 := jC BK123.out 1
  go_wp2_with (fail)
  clear hczgb1_0 hfzgb1_0 hczgb1_1 hfzgb1_1 hczgb11_0 hfzgb11_0 hczgb11_1 hfzgb11_1 hczgb107_0 hfzgb107_0 hczgb107_1 hfzgb107_1 hczgb122_0 hfzgb122_0 hczgb122_1 hfzgb122_1
  go_at_call 22
  (with_reducible refine (laws_markArticleS.calls k (fun k_ => w_93.heap.size ≤ k_ ∧ k_ < w_95.heap.size) (.slice Ao97 xs0.length co99) xs0 101 mk_0 ml_0 w _ ?side1 ?side2 HM0.out).mono ?_)
  (case side1 => repeat (first | (with_reducible first | exact HB.out | apply below_alloc | apply pw_below_drewN | apply below_drew1) | exact HB.out))
  (case side2 => (with_reducible repeat (first | apply Kd.R_alloc | apply Kd.R_drewN | apply Kd.R_drew)); exact (R_ext HO96.out HXE0.out HLE0.out))
  rintro e w_149 ⟨rfl, hy, hb, hk⟩
  have hk1 := jA (Kept.then_ (Kept.of_below (zy : Below w_147.heap.size w_147 _) (fun k_ => w_93.heap.size ≤ k_ ∧ k_ < w_95.heap.size)) hk (fun _ h_ => .inl h_))
  clear hk
  have hy1 := jA hy
  clear hy
  clear HB
  have HB := jA hb
  clear hb
  have HS150 := jA hk1.out.1
  have n0_ := jA ((hk1.out.2 gb1 (blk_lt BK2.out) (fun h_ => by have sHGgb1 := HGgb1.out; have sHS4 := HS4.out; have sHS6 := HS6.out; have sHS8 := HS8.out; have sHS10 := HS10.out; have sHS92 := HS92.out; have sHGgb11 := HGgb11.out; have sHLgb11 := HLgb11.out; have sHS94 := HS94.out; have sHS100 := HS100.out; have sHS106 := HS106.out; have sHGgb107 := HGgb107.out; have sHLgb107 := HLgb107.out; have sHS111 := HS111.out; have sHS113 := HS113.out; have sHS117 := HS117.out; have sHGgb122 := HGgb122.out; have sHLgb122 := HLgb122.out; have sHS126 := HS126.out; have sHS128 := HS128.out; have sHS130 := HS130.out; have sHS136 := HS136.out; have sHS138 := HS138.out; have sHS140 := HS140.out; have sHS146 := HS146.out; have sHS148 := HS148.out; have sHS150 := HS150.out; omega)).trans BK2.out)
  clear BK2
  have BK2 := n0_
  clear n0_
  have n0_ := jA (Kd.R_kept HO90.out hk1.out (fun k_ (h1_ : w_9.heap.size ≤ k_ ∧ k_ < w_86.heap.size) (h2_ : w_93.heap.size ≤ k_ ∧ k_ < w_95.heap.size) => by have sHGgb1 := HGgb1.out; have sHS4 := HS4.out; have sHS6 := HS6.out; have sHS8 := HS8.out; have sHS10 := HS10.out; have sHS92 := HS92.out; have sHGgb11 := HGgb11.out; have sHLgb11 := HLgb11.out; have sHS94 := HS94.out; have sHS100 := HS100.out; have sHS106 := HS106.out; have sHGgb107 := HGgb107.out; have sHLgb107 := HLgb107.out; have sHS111 := HS111.out; have sHS113 := HS113.out; have sHS117 := HS117.out; have sHGgb122 := HGgb122.out; have sHLgb122 := HLgb122.out; have sHS126 := HS126.out; have sHS128 := HS128.out; have sHS130 := HS130.out; have sHS136 := HS136.out; have sHS138 := HS138.out; have sHS140 := HS140.out; have sHS146 := HS146.out; have sHS148 := HS148.out; have sHS150 := HS150.out; omega))
  clear HO90
  have HO90 := n0_
  clear n0_
  have n0_ := jA ((hk1.out.2 gb11 (blk_lt BK91.out) (fun h_ => by have sHGgb1 := HGgb1.out; have sHS4 := HS4.out; have sHS6 := HS6.out; have sHS8 := HS8.out; have sHS10 := HS10.out; have sHS92 := HS92.out; have sHGgb11 := HGgb11.out; have sHLgb11 := HLgb11.out; have sHS94 := HS94.out; have sHS100 := HS100.out; have sHS106 := HS106.out; have sHGgb107 := HGgb107.out; have sHLgb107 := HLgb107.out; have sHS111 := HS111.out; have sHS113 := HS113.out; have sHS117 := HS117.out; have sHGgb122 := HGgb122.out; have sHLgb122 := HLgb122.out; have sHS126 := HS126.out; have sHS128 := HS128.out; have sHS130 := HS130.out; have sHS136 := HS136.out; have sHS138 := HS138.out; have sHS140 := HS140.out; have sHS146 := HS146.out; have sHS148 := HS148.out; have sHS150 := HS150.out; omega)).trans BK91.out)
  clear BK91
  have BK91 := n0_
  clear n0_
  have n0_ := jA (Kd.R_kept HO102.out hk1.out (fun k_ (h1_ : w_95.heap.size ≤ k_ ∧ k_ < w_101.heap.size) (h2_ : w_93.heap.size ≤ k_ ∧ k_ < w_95.heap.size) => by have sHGgb1 := HGgb1.out; have sHS4 := HS4.out; have sHS6 := HS6.out; have sHS8 := HS8.out; have sHS10 := HS10.out; have sHS92 := HS92.out; have sHGgb11 := HGgb11.out; have sHLgb11 := HLgb11.out; have sHS94 := HS94.out; have sHS100 := HS100.out; have sHS106 := HS106.out; have sHGgb107 := HGgb107.out; have sHLgb107 := HLgb107.out; have sHS111 := HS111.out; have sHS113 := HS113.out; have sHS117 := HS117.out; have sHGgb122 := HGgb122.out; have sHLgb122 := HLgb122.out; have sHS126 := HS126.out; have sHS128 := HS128.out; have sHS130 := HS130.out; have sHS136 := HS136.out; have sHS138 := HS138.out; have sHS140 := HS140.out; have sHS146 := HS146.out; have sHS148 := HS148.out; have sHS150 := HS150.out; omega))
  clear HO102
  have HO102 := n0_
  clear n0_
  have n0_ := jA ((hk1.out.2 gb107 (blk_lt BK108.out) (fun h_ => by have sHGgb1 := HGgb1.out; have sHS4 := HS4.out; have sHS6 := HS6.out; have sHS8 := HS8.out; have sHS10 := HS10.out; have sHS92 := HS92.out; have sHGgb11 := HGgb11.out; have sHLgb11 := HLgb11.out; have sHS94 := HS94.out; have sHS100 := HS100.out; have sHS106 := HS106.out; have sHGgb107 := HGgb107.out; have sHLgb107 := HLgb107.out; have sHS111 := HS111.out; have sHS113 := HS113.out; have sHS117 := HS117.out; have sHGgb122 := HGgb122.out; have sHLgb122 := HLgb122.out; have sHS126 := HS126.out; have sHS128 := HS128.out; have sHS130 := HS130.out; have sHS136 := HS136.out; have sHS138 := HS138.out; have sHS140 := HS140.out; have sHS146 := HS146.out; have sHS148 := HS148.out; have sHS150 := HS150.out; omega)).trans BK108.out)
  clear BK108
  have BK108 := n0_
  clear n0_
  have n0_ := jA (Kd.R_kept HO118.out hk1.out (fun k_ (h1_ : w_112.heap.size ≤ k_ ∧ k_ < w_114.heap.size) (h2_ : w_93.heap.size ≤ k_ ∧ k_ < w_95.heap.size) => by have sHGgb1 := HGgb1.out; have sHS4 := HS4.out; have sHS6 := HS6.out; have sHS8 := HS8.out; have sHS10 := HS10.out; have sHS92 := HS92.out; have sHGgb11 := HGgb11.out; have sHLgb11 := HLgb11.out; have sHS94 := HS94.out; have sHS100 := HS100.out; have sHS106 := HS106.out; have sHGgb107 := HGgb107.out; have sHLgb107 := HLgb107.out; have sHS111 := HS111.out; have sHS113 := HS113.out; have sHS117 := HS117.out; have sHGgb122 := HGgb122.out; have sHLgb122 := HLgb122.out; have sHS126 := HS126.out; have sHS128 := HS128.out; have sHS130 := HS130.out; have sHS136 := HS136.out; have sHS138 := HS138.out; have sHS140 := HS140.out; have sHS146 := HS146.out; have sHS148 := HS148.out; have sHS150 := HS150.out; omega))
  clear HO118
  have HO118 := n0_
  clear n0_
  have n0_ := jA ((hk1.out.2 gb122 (blk_lt BK123.out) (fun h_ => by have sHGgb1 := HGgb1.out; have sHS4 := HS4.out; have sHS6 := HS6.out; have sHS8 := HS8.out; have sHS10 := HS10.out; have sHS92 := HS92.out; have sHGgb11 := HGgb11.out; have sHLgb11 := HLgb11.out; have sHS94 := HS94.out; have sHS100 := HS100.out; have sHS106 := HS106.out; have sHGgb107 := HGgb107.out; have sHLgb107 := HLgb107.out; have sHS111 := HS111.out; have sHS113 := HS113.out; have sHS117 := HS117.out; have sHGgb122 := HGgb122.out; have sHLgb122 := HLgb122.out; have sHS126 := HS126.out; have sHS128 := HS128.out; have sHS130 := HS130.out; have sHS136 := HS136.out; have sHS138 := HS138.out; have sHS140 := HS140.out; have sHS146 := HS146.out; have sHS148 := HS148.out; have sHS150 := HS150.out; omega)).trans BK123.out)
  clear BK123
  have BK123 := n0_
  clear n0_
  have HWw_149 := jA HB.out.size
  clear hy1 hk1
  clear HO96
  have hczgb1_0 : w_149.cell? ⟨gb1, 0, none⟩ = some (.int .i64 a1_0) := (jD BK2.out 0).trans rfl
  have hfzgb1_0 := jC BK2.out 0
  have hczgb1_1 : w_149.cell? ⟨gb1, 1, none⟩ = some (.slice A1_1 l1_1.length c1_1) := (jD BK2.out 1).trans rfl
  have hfzgb1_1 := jC BK2.out 1
  have hczgb11_0 : w_149.cell? ⟨gb11, 0, none⟩ = some (.int .i64 res_r1) := (jD BK91.out 0).trans rfl
  have hfzgb11_0 := jC BK91.out 0
  have hczgb11_1 : w_149.cell? ⟨gb11, 1, none⟩ = some (.slice Ao88 ws_r2.length co89) := (jD BK91.out 1).trans rfl
  have hfzgb11_1 := jC BK91.out 1
  have hczgb107_0 : w_149.cell? ⟨gb107, 0, none⟩ = some (.int .i64 a1_0) := (jD BK108.out 0).trans rfl
  have hfzgb107_0 := jC BK108.out 0
  have hczgb107_1 : w_149.cell? ⟨gb107, 1, none⟩ = some (.slice Ao103 xs1_1.length co105) := (jD BK108.out 1).trans rfl
  have hfzgb107_1 := jC BK108.out 1
  have hczgb122_0 : w_149.cell? ⟨gb122, 0, none⟩ = some (.int .i64 res_r1) := (jD BK123.out 0).trans rfl
  have hfzgb122_0 := jC BK123.out 0
  have hczgb122_1 : w_149.cell? ⟨gb122, 1, none⟩ = some (.slice Ao119 gs_r2.length co120) := (jD BK123.out 1).trans rfl
  have hfzgb122_1 := jC BK123.out 1
  go_wp2_with (fail)
  clear hczgb1_0 hfzgb1_0 hczgb1_1 hfzgb1_1 hczgb11_0 hfzgb11_0 hczgb11_1 hfzgb11_1 hczgb107_0 hfzgb107_0 hczgb107_1 hfzgb107_1 hczgb122_0 hfzgb122_0 hczgb122_1 hfzgb122_1
  go_at_call 23
  (with_reducible refine (laws_markMagazine.calls k a1_0 (fun k_ => w_95.heap.size ≤ k_ ∧ k_ < w_101.heap.size) (.slice Ao103 xs1_1.length co105) xs1_1 mk_0 mk_1 ml_1 w _ ?side1 ?side2 HM1.out).mono ?_)
  (case side1 => repeat (first | (with_reducible first | exact HB.out | apply below_alloc | apply pw_below_drewN | apply below_drew1) | exact HB.out))
  (case side2 => (with_reducible repeat (first | apply Kd.R_alloc | apply Kd.R_drewN | apply Kd.R_drew)); exact (R_ext HO102.out HXE1_1.out HLE1_1.out))
  rintro e w_151 ⟨rfl, hy, hb, hk⟩
  have hk1 := jA (Kept.then_ (Kept.of_below (zy : Below w_149.heap.size w_149 _) (fun k_ => w_95.heap.size ≤ k_ ∧ k_ < w_101.heap.size)) hk (fun _ h_ => .inl h_))
  clear hk
  have hy1 := jA hy
  clear hy
  clear HB
  have HB := jA hb
  clear hb
  have HS152 := jA hk1.out.1
  have n0_ := jA ((hk1.out.2 gb1 (blk_lt BK2.out) (fun h_ => by have sHGgb1 := HGgb1.out; have sHS4 := HS4.out; have sHS6 := HS6.out; have sHS8 := HS8.out; have sHS10 := HS10.out; have sHS92 := HS92.out; have sHGgb11 := HGgb11.out; have sHLgb11 := HLgb11.out; have sHS94 := HS94.out; have sHS100 := HS100.out; have sHS106 := HS106.out; have sHGgb107 := HGgb107.out; have sHLgb107 := HLgb107.out; have sHS111 := HS111.out; have sHS113 := HS113.out; have sHS117 := HS117.out; have sHGgb122 := HGgb122.out; have sHLgb122 := HLgb122.out; have sHS126 := HS126.out; have sHS128 := HS128.out; have sHS130 := HS130.out; have sHS136 := HS136.out; have sHS138 := HS138.out; have sHS140 := HS140.out; have sHS146 := HS146.out; have sHS148 := HS148.out; have sHS150 := HS150.out; have sHS152 := HS152.out; omega)).trans BK2.out)
  clear BK2
  have BK2 := n0_
  clear n0_
  have n0_ := jA (Kd.R_kept HO90.out hk1.out (fun k_ (h1_ : w_9.heap.size ≤ k_ ∧ k_ < w_86.heap.size) (h2_ : w_95.heap.size ≤ k_ ∧ k_ < w_101.heap.size) => by have sHGgb1 := HGgb1.out; have sHS4 := HS4.out; have sHS6 := HS6.out; have sHS8 := HS8.out; have sHS10 := HS10.out; have sHS92 := HS92.out; have sHGgb11 := HGgb11.out; have sHLgb11 := HLgb11.out; have sHS94 := HS94.out; have sHS100 := HS100.out; have sHS106 := HS106.out; have sHGgb107 := HGgb107.out; have sHLgb107 := HLgb107.out; have sHS111 := HS111.out; have sHS113 := HS113.out; have sHS117 := HS117.out; have sHGgb122 := HGgb122.out; have sHLgb122 := HLgb122.out; have sHS126 := HS126.out; have sHS128 := HS128.out; have sHS130 := HS130.out; have sHS136 := HS136.out; have sHS138 := HS138.out; have sHS140 := HS140.out; have sHS146 := HS146.out; have sHS148 := HS148.out; have sHS150 := HS150.out; have sHS152 := HS152.out; omega))
  clear HO90
  have HO90 := n0_
  clear n0_
  have n0_ := jA ((hk1.out.2 gb11 (blk_lt BK91.out) (fun h_ => by have sHGgb1 := HGgb1.out; have sHS4 := HS4.out; have sHS6 := HS6.out; have sHS8 := HS8.out; have sHS10 := HS10.out; have sHS92 := HS92.out; have sHGgb11 := HGgb11.out; have sHLgb11 := HLgb11.out; have sHS94 := HS94.out; have sHS100 := HS100.out; have sHS106 := HS106.out; have sHGgb107 := HGgb107.out; have sHLgb107 := HLgb107.out; have sHS111 := HS111.out; have sHS113 := HS113.out; have sHS117 := HS117.out; have sHGgb122 := HGgb122.out; have sHLgb122 := HLgb122.out; have sHS126 := HS126.out; have sHS128 := HS128.out; have sHS130 := HS130.out; have sHS136 := HS136.out; have sHS138 := HS138.out; have sHS140 := HS140.out; have sHS146 := HS146.out; have sHS148 := HS148.out; have sHS150 := HS150.out; have sHS152 := HS152.out; omega)).trans BK91.out)
  clear BK91
  have BK91 := n0_
  clear n0_
  have n0_ := jA ((hk1.out.2 gb107 (blk_lt BK108.out) (fun h_ => by have sHGgb1 := HGgb1.out; have sHS4 := HS4.out; have sHS6 := HS6.out; have sHS8 := HS8.out; have sHS10 := HS10.out; have sHS92 := HS92.out; have sHGgb11 := HGgb11.out; have sHLgb11 := HLgb11.out; have sHS94 := HS94.out; have sHS100 := HS100.out; have sHS106 := HS106.out; have sHGgb107 := HGgb107.out; have sHLgb107 := HLgb107.out; have sHS111 := HS111.out; have sHS113 := HS113.out; have sHS117 := HS117.out; have sHGgb122 := HGgb122.out; have sHLgb122 := HLgb122.out; have sHS126 := HS126.out; have sHS128 := HS128.out; have sHS130 := HS130.out; have sHS136 := HS136.out; have sHS138 := HS138.out; have sHS140 := HS140.out; have sHS146 := HS146.out; have sHS148 := HS148.out; have sHS150 := HS150.out; have sHS152 := HS152.out; omega)).trans BK108.out)
  clear BK108
  have BK108 := n0_
  clear n0_
  have n0_ := jA (Kd.R_kept HO118.out hk1.out (fun k_ (h1_ : w_112.heap.size ≤ k_ ∧ k_ < w_114.heap.size) (h2_ : w_95.heap.size ≤ k_ ∧ k_ < w_101.heap.size) => by have sHGgb1 := HGgb1.out; have sHS4 := HS4.out; have sHS6 := HS6.out; have sHS8 := HS8.out; have sHS10 := HS10.out; have sHS92 := HS92.out; have sHGgb11 := HGgb11.out; have sHLgb11 := HLgb11.out; have sHS94 := HS94.out; have sHS100 := HS100.out; have sHS106 := HS106.out; have sHGgb107 := HGgb107.out; have sHLgb107 := HLgb107.out; have sHS111 := HS111.out; have sHS113 := HS113.out; have sHS117 := HS117.out; have sHGgb122 := HGgb122.out; have sHLgb122 := HLgb122.out; have sHS126 := HS126.out; have sHS128 := HS128.out; have sHS130 := HS130.out; have sHS136 := HS136.out; have sHS138 := HS138.out; have sHS140 := HS140.out; have sHS146 := HS146.out; have sHS148 := HS148.out; have sHS150 := HS150.out; have sHS152 := HS152.out; omega))
  clear HO118
  have HO118 := n0_
  clear n0_
  have n0_ := jA ((hk1.out.2 gb122 (blk_lt BK123.out) (fun h_ => by have sHGgb1 := HGgb1.out; have sHS4 := HS4.out; have sHS6 := HS6.out; have sHS8 := HS8.out; have sHS10 := HS10.out; have sHS92 := HS92.out; have sHGgb11 := HGgb11.out; have sHLgb11 := HLgb11.out; have sHS94 := HS94.out; have sHS100 := HS100.out; have sHS106 := HS106.out; have sHGgb107 := HGgb107.out; have sHLgb107 := HLgb107.out; have sHS111 := HS111.out; have sHS113 := HS113.out; have sHS117 := HS117.out; have sHGgb122 := HGgb122.out; have sHLgb122 := HLgb122.out; have sHS126 := HS126.out; have sHS128 := HS128.out; have sHS130 := HS130.out; have sHS136 := HS136.out; have sHS138 := HS138.out; have sHS140 := HS140.out; have sHS146 := HS146.out; have sHS148 := HS148.out; have sHS150 := HS150.out; have sHS152 := HS152.out; omega)).trans BK123.out)
  clear BK123
  have BK123 := n0_
  clear n0_
  have HWw_151 := jA HB.out.size
  clear hy1 hk1
  clear HO102
  have hn_ := HMN1.out
  have hczgb1_0 : w_151.cell? ⟨gb1, 0, none⟩ = some (.int .i64 a1_0) := (jD BK2.out 0).trans rfl
  have hfzgb1_0 := jC BK2.out 0
  have hczgb1_1 : w_151.cell? ⟨gb1, 1, none⟩ = some (.slice A1_1 l1_1.length c1_1) := (jD BK2.out 1).trans rfl
  have hfzgb1_1 := jC BK2.out 1
  have hczgb11_0 : w_151.cell? ⟨gb11, 0, none⟩ = some (.int .i64 res_r1) := (jD BK91.out 0).trans rfl
  have hfzgb11_0 := jC BK91.out 0
  have hczgb11_1 : w_151.cell? ⟨gb11, 1, none⟩ = some (.slice Ao88 ws_r2.length co89) := (jD BK91.out 1).trans rfl
  have hfzgb11_1 := jC BK91.out 1
  have hczgb107_0 : w_151.cell? ⟨gb107, 0, none⟩ = some (.int .i64 a1_0) := (jD BK108.out 0).trans rfl
  have hfzgb107_0 := jC BK108.out 0
  have hczgb107_1 : w_151.cell? ⟨gb107, 1, none⟩ = some (.slice Ao103 xs1_1.length co105) := (jD BK108.out 1).trans rfl
  have hfzgb107_1 := jC BK108.out 1
  have hczgb122_0 : w_151.cell? ⟨gb122, 0, none⟩ = some (.int .i64 res_r1) := (jD BK123.out 0).trans rfl
  have hfzgb122_0 := jC BK123.out 0
  have hczgb122_1 : w_151.cell? ⟨gb122, 1, none⟩ = some (.slice Ao119 gs_r2.length co120) := (jD BK123.out 1).trans rfl
  have hfzgb122_1 := jC BK123.out 1
  go_wp2_with (fail)
  clear hczgb1_0 hfzgb1_0 hczgb1_1 hfzgb1_1 hczgb11_0 hfzgb11_0 hczgb11_1 hfzgb11_1 hczgb107_0 hfzgb107_0 hczgb107_1 hfzgb107_1 hczgb122_0 hfzgb122_0 hczgb122_1 hfzgb122_1
  clear hn_
  have hczgb1_0 : w_151.cell? ⟨gb1, 0, none⟩ = some (.int .i64 a1_0) := (jD BK2.out 0).trans rfl
  have hfzgb1_0 := jC BK2.out 0
  have hczgb1_1 : w_151.cell? ⟨gb1, 1, none⟩ = some (.slice A1_1 l1_1.length c1_1) := (jD BK2.out 1).trans rfl
  have hfzgb1_1 := jC BK2.out 1
  have hczgb11_0 : w_151.cell? ⟨gb11, 0, none⟩ = some (.int .i64 res_r1) := (jD BK91.out 0).trans rfl
  have hfzgb11_0 := jC BK91.out 0
  have hczgb11_1 : w_151.cell? ⟨gb11, 1, none⟩ = some (.slice Ao88 ws_r2.length co89) := (jD BK91.out 1).trans rfl
  have hfzgb11_1 := jC BK91.out 1
  have hczgb107_0 : w_151.cell? ⟨gb107, 0, none⟩ = some (.int .i64 a1_0) := (jD BK108.out 0).trans rfl
  have hfzgb107_0 := jC BK108.out 0
  have hczgb107_1 : w_151.cell? ⟨gb107, 1, none⟩ = some (.slice Ao103 xs1_1.length co105) := (jD BK108.out 1).trans rfl
  have hfzgb107_1 := jC BK108.out 1
  have hczgb122_0 : w_151.cell? ⟨gb122, 0, none⟩ = some (.int .i64 res_r1) := (jD BK123.out 0).trans rfl
  have hfzgb122_0 := jC BK123.out 0
  have hczgb122_1 : w_151.cell? ⟨gb122, 1, none⟩ = some (.slice Ao119 gs_r2.length co120) := (jD BK123.out 1).trans rfl
  have hfzgb122_1 := jC BK123.out 1
  go_wp2_with (fail)
  clear hczgb1_0 hfzgb1_0 hczgb1_1 hfzgb1_1 hczgb11_0 hfzgb11_0 hczgb11_1 hfzgb11_1 hczgb107_0 hfzgb107_0 hczgb107_1 hfzgb107_1 hczgb122_0 hfzgb122_0 hczgb122_1 hfzgb122_1
  go_at_call 19
  (with_reducible refine (laws_eqMagazine.calls k res_r1 _ _ gs_r2 res_r1 _ _ ws_r2 true _ ?side1 ?side2 ?side3 ?side4 HE_gs_r2_ws_r2.out).mono ?_)
  (case side1 => repeat (first | exact (jb HO118.out).2.2 | (with_reducible refine Kd.C_alloc ?_ _) | (with_reducible refine Kd.C_drewN ?_ _) | (with_reducible refine Kd.C_drew ?_)))
  (case side2 => exact (jb HO118.out).2.1)
  (case side3 => repeat (first | exact (jb HO90.out).2.2 | (with_reducible refine Kd.C_alloc ?_ _) | (with_reducible refine Kd.C_drewN ?_ _) | (with_reducible refine Kd.C_drew ?_)))
  (case side4 => exact (jb HO90.out).2.1)
  rintro e w_153 ⟨rfl, hb⟩
  have HBi := jA (jJ (zy) hb : Below w_151.heap.size w_151 w_153)
  clear hb
  have HBn := jA (jJ HB.out HBi.out)
  clear HB
  have HB := HBn
  clear HBn
  have HS154 := jA HBi.out.size
  have n0_ := jA (jO BK2.out HBi.out)
  clear BK2
  have BK2 := n0_
  clear n0_
  have n0_ := jA (Kd.R_below HO90.out HBi.out)
  clear HO90
  have HO90 := n0_
  clear n0_
  have n0_ := jA (jO BK91.out HBi.out)
  clear BK91
  have BK91 := n0_
  clear n0_
  have n0_ := jA (jO BK108.out HBi.out)
  clear BK108
  have BK108 := n0_
  clear n0_
  have n0_ := jA (Kd.R_below HO118.out HBi.out)
  clear HO118
  have HO118 := n0_
  clear n0_
  have n0_ := jA (jO BK123.out HBi.out)
  clear BK123
  have BK123 := n0_
  clear n0_
  clear HBi
  have HWw_153 := jA HB.out.size
  have hczgb1_0 : w_153.cell? ⟨gb1, 0, none⟩ = some (.int .i64 a1_0) := (jD BK2.out 0).trans rfl
  have hfzgb1_0 := jC BK2.out 0
  have hczgb1_1 : w_153.cell? ⟨gb1, 1, none⟩ = some (.slice A1_1 l1_1.length c1_1) := (jD BK2.out 1).trans rfl
  have hfzgb1_1 := jC BK2.out 1
  have hczgb11_0 : w_153.cell? ⟨gb11, 0, none⟩ = some (.int .i64 res_r1) := (jD BK91.out 0).trans rfl
  have hfzgb11_0 := jC BK91.out 0
  have hczgb11_1 : w_153.cell? ⟨gb11, 1, none⟩ = some (.slice Ao88 ws_r2.length co89) := (jD BK91.out 1).trans rfl
  have hfzgb11_1 := jC BK91.out 1
  have hczgb107_0 : w_153.cell? ⟨gb107, 0, none⟩ = some (.int .i64 a1_0) := (jD BK108.out 0).trans rfl
  have hfzgb107_0 := jC BK108.out 0
  have hczgb107_1 : w_153.cell? ⟨gb107, 1, none⟩ = some (.slice Ao103 xs1_1.length co105) := (jD BK108.out 1).trans rfl
  have hfzgb107_1 := jC BK108.out 1
  have hczgb122_0 : w_153.cell? ⟨gb122, 0, none⟩ = some (.int .i64 res_r1) := (jD BK123.out 0).trans rfl
  have hfzgb122_0 := jC BK123.out 0
  have hczgb122_1 : w_153.cell? ⟨gb122, 1, none⟩ = some (.slice Ao119 gs_r2.length co120) := (jD BK123.out 1).trans rfl
  have hfzgb122_1 := jC BK123.out 1
  go_wp2_with (fail)
  clear hczgb1_0 hfzgb1_0 hczgb1_1 hfzgb1_1 hczgb11_0 hfzgb11_0 hczgb11_1 hfzgb11_1 hczgb107_0 hfzgb107_0 hczgb107_1 hfzgb107_1 hczgb122_0 hfzgb122_0 hczgb122_1 hfzgb122_1
  go_at_call 23
  (with_reducible refine (laws_markMagazine.calls k res_r1 (fun k_ => w_112.heap.size ≤ k_ ∧ k_ < w_114.heap.size) (.slice Ao119 gs_r2.length co120) gs_r2 101 mk_2 ml_2 w _ ?side1 ?side2 HM2.out).mono ?_)
  (case side1 => repeat (first | (with_reducible first | exact HB.out | apply below_alloc | apply pw_below_drewN | apply below_drew1) | exact HB.out))
  (case side2 => (with_reducible repeat (first | apply Kd.R_alloc | apply Kd.R_drewN | apply Kd.R_drew)); exact HO118.out)
  rintro e w_155 ⟨rfl, hy, hb, hk⟩
  have hk1 := jA (Kept.then_ (Kept.of_below (zy : Below w_153.heap.size w_153 _) (fun k_ => w_112.heap.size ≤ k_ ∧ k_ < w_114.heap.size)) hk (fun _ h_ => .inl h_))
  clear hk
  have hy1 := jA hy
  clear hy
  clear HB
  have HB := jA hb
  clear hb
  have HS156 := jA hk1.out.1
  have n0_ := jA ((hk1.out.2 gb1 (blk_lt BK2.out) (fun h_ => by have sHGgb1 := HGgb1.out; have sHS4 := HS4.out; have sHS6 := HS6.out; have sHS8 := HS8.out; have sHS10 := HS10.out; have sHS92 := HS92.out; have sHGgb11 := HGgb11.out; have sHLgb11 := HLgb11.out; have sHS94 := HS94.out; have sHS100 := HS100.out; have sHS106 := HS106.out; have sHGgb107 := HGgb107.out; have sHLgb107 := HLgb107.out; have sHS111 := HS111.out; have sHS113 := HS113.out; have sHS117 := HS117.out; have sHGgb122 := HGgb122.out; have sHLgb122 := HLgb122.out; have sHS126 := HS126.out; have sHS128 := HS128.out; have sHS130 := HS130.out; have sHS136 := HS136.out; have sHS138 := HS138.out; have sHS140 := HS140.out; have sHS146 := HS146.out; have sHS148 := HS148.out; have sHS150 := HS150.out; have sHS152 := HS152.out; have sHS154 := HS154.out; have sHS156 := HS156.out; omega)).trans BK2.out)
  clear BK2
  have BK2 := n0_
  clear n0_
  have n0_ := jA (Kd.R_kept HO90.out hk1.out (fun k_ (h1_ : w_9.heap.size ≤ k_ ∧ k_ < w_86.heap.size) (h2_ : w_112.heap.size ≤ k_ ∧ k_ < w_114.heap.size) => by have sHGgb1 := HGgb1.out; have sHS4 := HS4.out; have sHS6 := HS6.out; have sHS8 := HS8.out; have sHS10 := HS10.out; have sHS92 := HS92.out; have sHGgb11 := HGgb11.out; have sHLgb11 := HLgb11.out; have sHS94 := HS94.out; have sHS100 := HS100.out; have sHS106 := HS106.out; have sHGgb107 := HGgb107.out; have sHLgb107 := HLgb107.out; have sHS111 := HS111.out; have sHS113 := HS113.out; have sHS117 := HS117.out; have sHGgb122 := HGgb122.out; have sHLgb122 := HLgb122.out; have sHS126 := HS126.out; have sHS128 := HS128.out; have sHS130 := HS130.out; have sHS136 := HS136.out; have sHS138 := HS138.out; have sHS140 := HS140.out; have sHS146 := HS146.out; have sHS148 := HS148.out; have sHS150 := HS150.out; have sHS152 := HS152.out; have sHS154 := HS154.out; have sHS156 := HS156.out; omega))
  clear HO90
  have HO90 := n0_
  clear n0_
  have n0_ := jA ((hk1.out.2 gb11 (blk_lt BK91.out) (fun h_ => by have sHGgb1 := HGgb1.out; have sHS4 := HS4.out; have sHS6 := HS6.out; have sHS8 := HS8.out; have sHS10 := HS10.out; have sHS92 := HS92.out; have sHGgb11 := HGgb11.out; have sHLgb11 := HLgb11.out; have sHS94 := HS94.out; have sHS100 := HS100.out; have sHS106 := HS106.out; have sHGgb107 := HGgb107.out; have sHLgb107 := HLgb107.out; have sHS111 := HS111.out; have sHS113 := HS113.out; have sHS117 := HS117.out; have sHGgb122 := HGgb122.out; have sHLgb122 := HLgb122.out; have sHS126 := HS126.out; have sHS128 := HS128.out; have sHS130 := HS130.out; have sHS136 := HS136.out; have sHS138 := HS138.out; have sHS140 := HS140.out; have sHS146 := HS146.out; have sHS148 := HS148.out; have sHS150 := HS150.out; have sHS152 := HS152.out; have sHS154 := HS154.out; have sHS156 := HS156.out; omega)).trans BK91.out)
  clear BK91
  have BK91 := n0_
  clear n0_
  have n0_ := jA ((hk1.out.2 gb107 (blk_lt BK108.out) (fun h_ => by have sHGgb1 := HGgb1.out; have sHS4 := HS4.out; have sHS6 := HS6.out; have sHS8 := HS8.out; have sHS10 := HS10.out; have sHS92 := HS92.out; have sHGgb11 := HGgb11.out; have sHLgb11 := HLgb11.out; have sHS94 := HS94.out; have sHS100 := HS100.out; have sHS106 := HS106.out; have sHGgb107 := HGgb107.out; have sHLgb107 := HLgb107.out; have sHS111 := HS111.out; have sHS113 := HS113.out; have sHS117 := HS117.out; have sHGgb122 := HGgb122.out; have sHLgb122 := HLgb122.out; have sHS126 := HS126.out; have sHS128 := HS128.out; have sHS130 := HS130.out; have sHS136 := HS136.out; have sHS138 := HS138.out; have sHS140 := HS140.out; have sHS146 := HS146.out; have sHS148 := HS148.out; have sHS150 := HS150.out; have sHS152 := HS152.out; have sHS154 := HS154.out; have sHS156 := HS156.out; omega)).trans BK108.out)
  clear BK108
  have BK108 := n0_
  clear n0_
  have n0_ := jA ((hk1.out.2 gb122 (blk_lt BK123.out) (fun h_ => by have sHGgb1 := HGgb1.out; have sHS4 := HS4.out; have sHS6 := HS6.out; have sHS8 := HS8.out; have sHS10 := HS10.out; have sHS92 := HS92.out; have sHGgb11 := HGgb11.out; have sHLgb11 := HLgb11.out; have sHS94 := HS94.out; have sHS100 := HS100.out; have sHS106 := HS106.out; have sHGgb107 := HGgb107.out; have sHLgb107 := HLgb107.out; have sHS111 := HS111.out; have sHS113 := HS113.out; have sHS117 := HS117.out; have sHGgb122 := HGgb122.out; have sHLgb122 := HLgb122.out; have sHS126 := HS126.out; have sHS128 := HS128.out; have sHS130 := HS130.out; have sHS136 := HS136.out; have sHS138 := HS138.out; have sHS140 := HS140.out; have sHS146 := HS146.out; have sHS148 := HS148.out; have sHS150 := HS150.out; have sHS152 := HS152.out; have sHS154 := HS154.out; have sHS156 := HS156.out; omega)).trans BK123.out)
  clear BK123
  have BK123 := n0_
  clear n0_
  have HWw_155 := jA HB.out.size
  have hl_ := HML2.out
  have n0_ := jA BK123.out
  rw [hl_] at n0_
  clear BK123
  have BK123 := n0_
  clear n0_ hl_
  have n0_ := jA (Kd.R_reok rfl hy1.out (fun k_ e_ => HO118.out.1 k_ e_))
  clear HO118
  have hl_ := HML2.out
  rw [hl_] at n0_
  try simp only [hl_]
  clear hl_
  have HO118 := n0_
  clear n0_ hy1 hk1
  have hczgb1_0 : w_155.cell? ⟨gb1, 0, none⟩ = some (.int .i64 a1_0) := (jD BK2.out 0).trans rfl
  have hfzgb1_0 := jC BK2.out 0
  have hczgb1_1 : w_155.cell? ⟨gb1, 1, none⟩ = some (.slice A1_1 l1_1.length c1_1) := (jD BK2.out 1).trans rfl
  have hfzgb1_1 := jC BK2.out 1
  have hczgb11_0 : w_155.cell? ⟨gb11, 0, none⟩ = some (.int .i64 res_r1) := (jD BK91.out 0).trans rfl
  have hfzgb11_0 := jC BK91.out 0
  have hczgb11_1 : w_155.cell? ⟨gb11, 1, none⟩ = some (.slice Ao88 ws_r2.length co89) := (jD BK91.out 1).trans rfl
  have hfzgb11_1 := jC BK91.out 1
  have hczgb107_0 : w_155.cell? ⟨gb107, 0, none⟩ = some (.int .i64 a1_0) := (jD BK108.out 0).trans rfl
  have hfzgb107_0 := jC BK108.out 0
  have hczgb107_1 : w_155.cell? ⟨gb107, 1, none⟩ = some (.slice Ao103 xs1_1.length co105) := (jD BK108.out 1).trans rfl
  have hfzgb107_1 := jC BK108.out 1
  have hczgb122_0 : w_155.cell? ⟨gb122, 0, none⟩ = some (.int .i64 res_r1) := (jD BK123.out 0).trans rfl
  have hfzgb122_0 := jC BK123.out 0
  have hczgb122_1 : w_155.cell? ⟨gb122, 1, none⟩ = some (.slice Ao119 ml_2.length co120) := (jD BK123.out 1).trans rfl
  have hfzgb122_1 := jC BK123.out 1
  go_wp2_with (fail)
  clear hczgb1_0 hfzgb1_0 hczgb1_1 hfzgb1_1 hczgb11_0 hfzgb11_0 hczgb11_1 hfzgb11_1 hczgb107_0 hfzgb107_0 hczgb107_1 hfzgb107_1 hczgb122_0 hfzgb122_0 hczgb122_1 hfzgb122_1
  go_at_call 24
  (with_reducible refine (laws_heldMagazine.calls k res_r1 _ _ ml_2 101 mk_2 _ ?side1 ?side2 HH_ml_2.out).mono ?_)
  (case side1 => repeat (first | exact (jb HO118.out).2.2 | (with_reducible refine Kd.C_alloc ?_ _) | (with_reducible refine Kd.C_drewN ?_ _) | (with_reducible refine Kd.C_drew ?_)))
  (case side2 => exact (jb HO118.out).2.1)
  rintro e w_157 ⟨rfl, hb⟩
  have HBi := jA (jJ (zy) hb : Below w_155.heap.size w_155 w_157)
  clear hb
  have HBn := jA (jJ HB.out HBi.out)
  clear HB
  have HB := HBn
  clear HBn
  have HS158 := jA HBi.out.size
  have n0_ := jA (jO BK2.out HBi.out)
  clear BK2
  have BK2 := n0_
  clear n0_
  have n0_ := jA (Kd.R_below HO90.out HBi.out)
  clear HO90
  have HO90 := n0_
  clear n0_
  have n0_ := jA (jO BK91.out HBi.out)
  clear BK91
  have BK91 := n0_
  clear n0_
  have n0_ := jA (jO BK108.out HBi.out)
  clear BK108
  have BK108 := n0_
  clear n0_
  have n0_ := jA (Kd.R_below HO118.out HBi.out)
  clear HO118
  have HO118 := n0_
  clear n0_
  have n0_ := jA (jO BK123.out HBi.out)
  clear BK123
  have BK123 := n0_
  clear n0_
  clear HBi
  have HWw_157 := jA HB.out.size
  have hn_ := HMN2.out
  have hczgb1_0 : w_157.cell? ⟨gb1, 0, none⟩ = some (.int .i64 a1_0) := (jD BK2.out 0).trans rfl
  have hfzgb1_0 := jC BK2.out 0
  have hczgb1_1 : w_157.cell? ⟨gb1, 1, none⟩ = some (.slice A1_1 l1_1.length c1_1) := (jD BK2.out 1).trans rfl
  have hfzgb1_1 := jC BK2.out 1
  have hczgb11_0 : w_157.cell? ⟨gb11, 0, none⟩ = some (.int .i64 res_r1) := (jD BK91.out 0).trans rfl
  have hfzgb11_0 := jC BK91.out 0
  have hczgb11_1 : w_157.cell? ⟨gb11, 1, none⟩ = some (.slice Ao88 ws_r2.length co89) := (jD BK91.out 1).trans rfl
  have hfzgb11_1 := jC BK91.out 1
  have hczgb107_0 : w_157.cell? ⟨gb107, 0, none⟩ = some (.int .i64 a1_0) := (jD BK108.out 0).trans rfl
  have hfzgb107_0 := jC BK108.out 0
  have hczgb107_1 : w_157.cell? ⟨gb107, 1, none⟩ = some (.slice Ao103 xs1_1.length co105) := (jD BK108.out 1).trans rfl
  have hfzgb107_1 := jC BK108.out 1
  have hczgb122_0 : w_157.cell? ⟨gb122, 0, none⟩ = some (.int .i64 res_r1) := (jD BK123.out 0).trans rfl
  have hfzgb122_0 := jC BK123.out 0
  have hczgb122_1 : w_157.cell? ⟨gb122, 1, none⟩ = some (.slice Ao119 ml_2.length co120) := (jD BK123.out 1).trans rfl
  have hfzgb122_1 := jC BK123.out 1
  go_wp2_with (fail)
  clear hczgb1_0 hfzgb1_0 hczgb1_1 hfzgb1_1 hczgb11_0 hfzgb11_0 hczgb11_1 hfzgb11_1 hczgb107_0 hfzgb107_0 hczgb107_1 hfzgb107_1 hczgb122_0 hfzgb122_0 hczgb122_1 hfzgb122_1
  clear hn_
  have hczgb1_0 : w_157.cell? ⟨gb1, 0, none⟩ = some (.int .i64 a1_0) := (jD BK2.out 0).trans rfl
  have hfzgb1_0 := jC BK2.out 0
  have hczgb1_1 : w_157.cell? ⟨gb1, 1, none⟩ = some (.slice A1_1 l1_1.length c1_1) := (jD BK2.out 1).trans rfl
  have hfzgb1_1 := jC BK2.out 1
  have hczgb11_0 : w_157.cell? ⟨gb11, 0, none⟩ = some (.int .i64 res_r1) := (jD BK91.out 0).trans rfl
  have hfzgb11_0 := jC BK91.out 0
  have hczgb11_1 : w_157.cell? ⟨gb11, 1, none⟩ = some (.slice Ao88 ws_r2.length co89) := (jD BK91.out 1).trans rfl
  have hfzgb11_1 := jC BK91.out 1
  have hczgb107_0 : w_157.cell? ⟨gb107, 0, none⟩ = some (.int .i64 a1_0) := (jD BK108.out 0).trans rfl
  have hfzgb107_0 := jC BK108.out 0
  have hczgb107_1 : w_157.cell? ⟨gb107, 1, none⟩ = some (.slice Ao103 xs1_1.length co105) := (jD BK108.out 1).trans rfl
  have hfzgb107_1 := jC BK108.out 1
  have hczgb122_0 : w_157.cell? ⟨gb122, 0, none⟩ = some (.int .i64 res_r1) := (jD BK123.out 0).trans rfl
  have hfzgb122_0 := jC BK123.out 0
  have hczgb122_1 : w_157.cell? ⟨gb122, 1, none⟩ = some (.slice Ao119 ml_2.length co120) := (jD BK123.out 1).trans rfl
  have hfzgb122_1 := jC BK123.out 1
  go_wp2_with (fail)
  clear hczgb1_0 hfzgb1_0 hczgb1_1 hfzgb1_1 hczgb11_0 hfzgb11_0 hczgb11_1 hfzgb11_1 hczgb107_0 hfzgb107_0 hczgb107_1 hfzgb107_1 hczgb122_0 hfzgb122_0 hczgb122_1 hfzgb122_1
  refine start_ (n := 13) (S := fun w' => w'.cell? ⟨gb1, 0, none⟩ = some (.int .i64 a1_0) ∧ w'.cell? ⟨gb1, 1, none⟩ = some (.slice A1_1 l1_1.length c1_1) ∧ w'.cell? ⟨gb11, 0, none⟩ = some (.int .i64 res_r1) ∧ w'.cell? ⟨gb11, 1, none⟩ = some (.slice Ao88 ws_r2.length co89) ∧ w'.cell? ⟨gb107, 0, none⟩ = some (.int .i64 a1_0) ∧ w'.cell? ⟨gb107, 1, none⟩ = some (.slice Ao103 xs1_1.length co105) ∧ w'.cell? ⟨gb122, 0, none⟩ = some (.int .i64 res_r1) ∧ w'.cell? ⟨gb122, 1, none⟩ = some (.slice Ao119 ml_2.length co120)) (ds := []) m13_0 zr rfl rfl ⟨(jD BK2.out 0).trans rfl, (jD BK2.out 1).trans rfl, (jD BK91.out 0).trans rfl, (jD BK91.out 1).trans rfl, (jD BK108.out 0).trans rfl, (jD BK108.out 1).trans rfl, (jD BK123.out 0).trans rfl, (jD BK123.out 1).trans rfl⟩ (fun hHeld => ?_)
  refine with_tabW laws_FnExactStorePieces.tab31 laws_FnExactStorePieces.bits31 (fun HT_ HW_ => ?_)
  generalize hq_ : World.drew _ = w_159 at hHeld ⊢
  have n0_ : Aside0 (Below w.heap.size w w_159) := ⟨by rw [← hq_]; (repeat (first | (with_reducible first | exact HB.out | apply below_alloc | apply pw_below_drewN | apply below_drew1) | exact HB.out))⟩
  clear HB
  have HB := n0_
  clear n0_
  have HS160 : Aside0 (w_157.heap.size ≤ w_159.heap.size) := ⟨by rw [← hq_]; exact Nat.le_refl _⟩
  have n0_ : Aside0 (w_159.heap[gb1]? = some (.cells #[.int .i64 a1_0, .slice A1_1 l1_1.length c1_1] 25 (0, 0))) := ⟨by rw [← hq_]; (with_reducible repeat (first | refine jG ?_ _ | refine jI ?_ | refine jH ?_ _)); exact BK2.out⟩
  clear BK2
  have BK2 := n0_
  clear n0_
  have n0_ : Aside0 (Kd.R (Kd.int .i64) 2 w_159 w.heap.size (fun k_ => w_9.heap.size ≤ k_ ∧ k_ < w_86.heap.size) (.slice Ao88 ws_r2.length co89) ws_r2) := ⟨by rw [← hq_]; (with_reducible repeat (first | apply Kd.R_alloc | apply Kd.R_drewN | apply Kd.R_drew)); exact HO90.out⟩
  clear HO90
  have HO90 := n0_
  clear n0_
  have n0_ : Aside0 (w_159.heap[gb11]? = some (.cells #[.int .i64 res_r1, .slice Ao88 ws_r2.length co89] 28 (0, 0))) := ⟨by rw [← hq_]; (with_reducible repeat (first | refine jG ?_ _ | refine jI ?_ | refine jH ?_ _)); exact BK91.out⟩
  clear BK91
  have BK91 := n0_
  clear n0_
  have n0_ : Aside0 (w_159.heap[gb107]? = some (.cells #[.int .i64 a1_0, .slice Ao103 xs1_1.length co105] 28 (0, 0))) := ⟨by rw [← hq_]; (with_reducible repeat (first | refine jG ?_ _ | refine jI ?_ | refine jH ?_ _)); exact BK108.out⟩
  clear BK108
  have BK108 := n0_
  clear n0_
  have n0_ : Aside0 (Kd.R (Kd.int .i64) 2 w_159 w.heap.size (fun k_ => w_112.heap.size ≤ k_ ∧ k_ < w_114.heap.size) (.slice Ao119 ml_2.length co120) ml_2) := ⟨by rw [← hq_]; (with_reducible repeat (first | apply Kd.R_alloc | apply Kd.R_drewN | apply Kd.R_drew)); exact HO118.out⟩
  clear HO118
  have HO118 := n0_
  clear n0_
  have n0_ : Aside0 (w_159.heap[gb122]? = some (.cells #[.int .i64 res_r1, .slice Ao119 ml_2.length co120] 28 (0, 0))) := ⟨by rw [← hq_]; (with_reducible repeat (first | refine jG ?_ _ | refine jI ?_ | refine jH ?_ _)); exact BK123.out⟩
  clear BK123
  have BK123 := n0_
  clear n0_
  clear hq_
  have HWw_159 := jA HB.out.size
  refine zp HT_ 0 106 m13_1000 ?_
  refine zp HT_ 4 110 #[true, false, false, false, true, false, false, false, false, false, false, false, false] ?_
  refine zp HT_ 5 111 #[true, false, false, false, true, true, false, false, false, false, false, false, false] ?_
  refine zt8 HT_ HW_ hHeld 2 108 #[true, false, true, false, true, true, false, false, false, false, false, false, false] ?_
  have HNgb161_gb1 : Aside0 (gb1 < w_159.heap.size) := ⟨blk_lt BK2.out⟩
  have HNgb161_gb11 : Aside0 (gb11 < w_159.heap.size) := ⟨blk_lt BK91.out⟩
  have HNgb161_gb107 : Aside0 (gb107 < w_159.heap.size) := ⟨blk_lt BK108.out⟩
  have HNgb161_gb122 : Aside0 (gb122 < w_159.heap.size) := ⟨blk_lt BK123.out⟩
  refine join_ (σ := (Option Addr × Nat) × (Option Addr × Nat) × (Option Addr × Nat) × Nat) 2 m13_1ffc (fun s_ => [(107, .slice s_.1.1 xs0.length s_.1.2), (109, .agg #[.int .i64 a1_0, .slice s_.2.1.1 xs1_1.length s_.2.1.2]), (112, .tuple #[.agg #[.int .i64 res_r1, .slice s_.2.2.1.1 gs_r2.length s_.2.2.1.2], .int .i64 res_r3]), (105, .tuple #[.agg #[.int .i64 res_r1, .slice s_.2.2.1.1 gs_r2.length s_.2.2.1.2], .int .i64 res_r3]), (113, .agg #[.int .i64 res_r1, .slice s_.2.2.1.1 gs_r2.length s_.2.2.1.2]), (114, .int .i64 res_r3), (19, .pointer (some ⟨s_.2.2.2, 0, none⟩))]) (fun s_ w' => (w'.cell? ⟨gb1, 0, none⟩ = some (.int .i64 a1_0) ∧ w'.cell? ⟨gb1, 1, none⟩ = some (.slice A1_1 l1_1.length c1_1) ∧ w'.cell? ⟨gb11, 0, none⟩ = some (.int .i64 res_r1) ∧ w'.cell? ⟨gb11, 1, none⟩ = some (.slice Ao88 ws_r2.length co89) ∧ w'.cell? ⟨gb107, 0, none⟩ = some (.int .i64 a1_0) ∧ w'.cell? ⟨gb107, 1, none⟩ = some (.slice Ao103 xs1_1.length co105) ∧ w'.cell? ⟨gb122, 0, none⟩ = some (.int .i64 res_r1) ∧ w'.cell? ⟨gb122, 1, none⟩ = some (.slice Ao119 ml_2.length co120)) ∧ (Kd.R (Kd.int .i64) 2 w' w.heap.size (fun k_ => (w_159.heap.size ≤ k_ ∧ k_ < w'.heap.size) ∧ k_ ≠ s_.2.2.2) (.slice s_.2.2.1.1 gs_r2.length s_.2.2.1.2) gs_r2) ∧ (w'.heap[s_.2.2.2]? = some (.cells #[.int .i64 0, .slice none 0 0] 28 (0, 0))) ∧ (w_159.heap.size ≤ s_.2.2.2) ∧ (w_159.heap.size ≤ w'.heap.size) ∧ (w'.heap[gb1]? = some (.cells #[.int .i64 a1_0, .slice A1_1 l1_1.length c1_1] 25 (0, 0))) ∧ (Kd.R (Kd.int .i64) 2 w' w.heap.size (fun k_ => w_9.heap.size ≤ k_ ∧ k_ < w_86.heap.size) (.slice Ao88 ws_r2.length co89) ws_r2) ∧ (w'.heap[gb11]? = some (.cells #[.int .i64 res_r1, .slice Ao88 ws_r2.length co89] 28 (0, 0))) ∧ (w'.heap[gb107]? = some (.cells #[.int .i64 a1_0, .slice Ao103 xs1_1.length co105] 28 (0, 0))) ∧ (Kd.R (Kd.int .i64) 2 w' w.heap.size (fun k_ => w_112.heap.size ≤ k_ ∧ k_ < w_114.heap.size) (.slice Ao119 ml_2.length co120) ml_2) ∧ (w'.heap[gb122]? = some (.cells #[.int .i64 res_r1, .slice Ao119 ml_2.length co120] 28 (0, 0))) ∧ (Below w.heap.size w w')) ?_ ?_
  rotate_left
  · intro hCont
    refine two_ (i := 1) (j := 10) (Ni := some 107) (Nj := some 19) #[true, true, true, false, true, true, false, false, false, false, false, false, false] #[true, false, true, false, true, true, false, false, false, false, true, false, false] rfl rfl rfl rfl (two_of HT_.out zr) (by decide) (by decide) (fun K hK => ?_) (fun K hK => ?_)
    · skip
      refine goes_ Try.func16 zr rfl #[.slice A0 l0.length c0, .bool true] (by rfl) rfl rfl zm ?_
      (with_reducible refine (laws_toArticleSX.calls k _ _ l0 true extb0 _ ?side1 ?side2 HTOB0.out).mono ?_)
      (case side1 => exact zs HR0 HB)
      (case side2 => exact HC0.out)
      rintro e w_162 ⟨Ao164, no165, co166, rfl, hn, ho, hb⟩
      obtain rfl : no165 = xs0.length := hn.bare HXL0.out HNB0.out
      clear hn
      have ho1 := jA (Kd.R_lower (R_span ho) (Nat.le_trans HB.out.size (zy : Below w_159.heap.size w_159 _).size))
      clear ho
      have HBi := jA (jJ (zy) hb : Below w_159.heap.size w_159 w_162)
      clear hb
      have HBn := jA (jJ HB.out HBi.out)
      clear HB
      have HB := HBn
      clear HBn
      have HS167 := jA HBi.out.size
      have n0_ := jA (jO BK2.out HBi.out)
      clear BK2
      have BK2 := n0_
      clear n0_
      have n0_ := jA (Kd.R_below HO90.out HBi.out)
      clear HO90
      have HO90 := n0_
      clear n0_
      have n0_ := jA (jO BK91.out HBi.out)
      clear BK91
      have BK91 := n0_
      clear n0_
      have n0_ := jA (jO BK108.out HBi.out)
      clear BK108
      have BK108 := n0_
      clear n0_
      have n0_ := jA (Kd.R_below HO118.out HBi.out)
      clear HO118
      have HO118 := n0_
      clear n0_
      have n0_ := jA (jO BK123.out HBi.out)
      clear BK123
      have BK123 := n0_
      clear n0_
      clear HBi
      have HWw_162 := jA HB.out.size
      have HO163 := jA (Kd.R_mono (ok' := fun k_ => w_159.heap.size ≤ k_ ∧ k_ < w_162.heap.size) ho1.out (fun k_ hk_ => hk_))
      clear ho1
      refine ⟨_, rfl, ?_⟩
      refine hK.out _ _ ⟨(jD BK2.out 0).trans rfl, (jD BK2.out 1).trans rfl, (jD BK91.out 0).trans rfl, (jD BK91.out 1).trans rfl, (jD BK108.out 0).trans rfl, (jD BK108.out 1).trans rfl, (jD BK123.out 0).trans rfl, (jD BK123.out 1).trans rfl⟩ (fun hHeld => ?_)
      clear hK K
      refine norm_ (a' := ?_) ?_ ?_
      rotate_left
      · show Act.put _ (some 107) _ = _
        simp only [Act.put, jL, jS, jT, i64_w, i32_w]
        rfl
      refine two_ (i := 3) (j := 10) (Ni := some 109) (Nj := some 19) m13_1f80 #[true, true, true, false, true, true, false, false, false, false, true, false, false] rfl rfl rfl rfl (two_of HT_.out zr) (by decide) (by decide) (fun K hK => ?_) (fun K hK => ?_)
      · skip
        refine goes_ Try.func17 zr rfl #[.agg #[.int .i64 a1_0, .slice A1_1 l1_1.length c1_1], .bool true] (by rfl) rfl rfl zm ?_
        (with_reducible refine (laws_toMagazineX.calls k a1_0 _ _ l1_1 true a1_0 extb1_1 _ ?side1 ?side2 (by unfold laws_toMagazineX.f; rw [HTOB1_1.out, Option.bind_some])).mono ?_)
        (case side1 => exact zs HR1_1 HB)
        (case side2 => exact HC1_1.out)
        rintro e w_168 ⟨Ao170, no171, co172, rfl, hn, ho, hb⟩
        obtain rfl : no171 = xs1_1.length := hn.bare HXL1_1.out HNB1_1.out
        clear hn
        have ho1 := jA (Kd.R_lower (R_span ho) (Nat.le_trans HB.out.size (zy : Below w_162.heap.size w_162 _).size))
        clear ho
        have HBi := jA (jJ (zy) hb : Below w_162.heap.size w_162 w_168)
        clear hb
        have HBn := jA (jJ HB.out HBi.out)
        clear HB
        have HB := HBn
        clear HBn
        have HS173 := jA HBi.out.size
        have n0_ := jA (jO BK2.out HBi.out)
        clear BK2
        have BK2 := n0_
        clear n0_
        have n0_ := jA (Kd.R_below HO90.out HBi.out)
        clear HO90
        have HO90 := n0_
        clear n0_
        have n0_ := jA (jO BK91.out HBi.out)
        clear BK91
        have BK91 := n0_
        clear n0_
        have n0_ := jA (jO BK108.out HBi.out)
        clear BK108
        have BK108 := n0_
        clear n0_
        have n0_ := jA (Kd.R_below HO118.out HBi.out)
        clear HO118
        have HO118 := n0_
        clear n0_
        have n0_ := jA (jO BK123.out HBi.out)
        clear BK123
        have BK123 := n0_
        clear n0_
        have n0_ := jA (Kd.R_below HO163.out HBi.out)
        clear HO163
        have HO163 := n0_
        clear n0_
        clear HBi
        have HWw_168 := jA HB.out.size
        have HO169 := jA (Kd.R_mono (ok' := fun k_ => w_162.heap.size ≤ k_ ∧ k_ < w_168.heap.size) ho1.out (fun k_ hk_ => hk_))
        clear ho1
        refine ⟨_, rfl, ?_⟩
        refine hK.out _ _ ⟨(jD BK2.out 0).trans rfl, (jD BK2.out 1).trans rfl, (jD BK91.out 0).trans rfl, (jD BK91.out 1).trans rfl, (jD BK108.out 0).trans rfl, (jD BK108.out 1).trans rfl, (jD BK123.out 0).trans rfl, (jD BK123.out 1).trans rfl⟩ (fun hHeld => ?_)
        clear hK K
        refine norm_ (a' := ?_) ?_ ?_
        rotate_left
        · show Act.put _ (some 109) _ = _
          simp only [Act.put, jL, jS, jT, i64_w, i32_w]
          rfl
        refine two_ (i := 6) (j := 10) (Ni := some 112) (Nj := some 19) m13_1fc0 #[true, true, true, true, true, true, false, false, false, false, true, false, false] rfl rfl rfl rfl (two_of HT_.out zr) (by decide) (by decide) (fun K hK => ?_) (fun K hK => ?_)
        · skip
          refine goes_ Try.func39 zr rfl #[.slice Ao164 xs0.length co166, .agg #[.int .i64 a1_0, .slice Ao170 xs1_1.length co172], .string a2, .int .i64 a3] (by rfl) rfl rfl zm ?_
          (with_reducible refine (impl_StorePieces.calls k _ _ xs0 a1_0 _ _ xs1_1 a2 a3 res_r1 gs_r2 res_r3 _ ?side1 ?side2 ?side3 ?side4 HFimpl.out).mono ?_)
          (case side1 => repeat (first | exact C_ext (jb HO163.out).2.2 HXB0.out HLB0.out | (with_reducible refine Kd.C_alloc ?_ _) | (with_reducible refine Kd.C_drewN ?_ _) | (with_reducible refine Kd.C_drew ?_)))
          (case side2 => exact Nat.le_trans HLB0.out (jb HO163.out).2.1)
          (case side3 => repeat (first | exact C_ext (jb HO169.out).2.2 HXB1_1.out HLB1_1.out | (with_reducible refine Kd.C_alloc ?_ _) | (with_reducible refine Kd.C_drewN ?_ _) | (with_reducible refine Kd.C_drew ?_)))
          (case side4 => exact Nat.le_trans HLB1_1.out (jb HO169.out).2.1)
          rintro e w_174 ⟨v_175, rfl, ho176, hb⟩
          have ho176A := jA (Kd.R_lower (R_span ho176) (Nat.le_trans HB.out.size (zy : Below w_168.heap.size w_168 _).size))
          clear ho176
          have HBi := jA (jJ (zy) hb : Below w_168.heap.size w_168 w_174)
          clear hb
          have HBn := jA (jJ HB.out HBi.out)
          clear HB
          have HB := HBn
          clear HBn
          have HS177 := jA HBi.out.size
          have n0_ := jA (jO BK2.out HBi.out)
          clear BK2
          have BK2 := n0_
          clear n0_
          have n0_ := jA (Kd.R_below HO90.out HBi.out)
          clear HO90
          have HO90 := n0_
          clear n0_
          have n0_ := jA (jO BK91.out HBi.out)
          clear BK91
          have BK91 := n0_
          clear n0_
          have n0_ := jA (jO BK108.out HBi.out)
          clear BK108
          have BK108 := n0_
          clear n0_
          have n0_ := jA (Kd.R_below HO118.out HBi.out)
          clear HO118
          have HO118 := n0_
          clear n0_
          have n0_ := jA (jO BK123.out HBi.out)
          clear BK123
          have BK123 := n0_
          clear n0_
          have n0_ := jA (Kd.R_below HO163.out HBi.out)
          clear HO163
          have HO163 := n0_
          clear n0_
          have n0_ := jA (Kd.R_below HO169.out HBi.out)
          clear HO169
          have HO169 := n0_
          clear n0_
          clear HBi
          have HWw_174 := jA HB.out.size
          obtain ⟨Ao179, co180, eo181⟩ := Kd.R_slice ho176A.out
          subst eo181
          have HO178 := jA (Kd.R_mono (ok' := fun k_ => w_168.heap.size ≤ k_ ∧ k_ < w_174.heap.size) ho176A.out (fun k_ hk_ => hk_))
          clear ho176A
          refine ⟨_, rfl, ?_⟩
          refine hK.out _ _ ⟨(jD BK2.out 0).trans rfl, (jD BK2.out 1).trans rfl, (jD BK91.out 0).trans rfl, (jD BK91.out 1).trans rfl, (jD BK108.out 0).trans rfl, (jD BK108.out 1).trans rfl, (jD BK123.out 0).trans rfl, (jD BK123.out 1).trans rfl⟩ (fun hHeld => ?_)
          clear hK K
          refine norm_ (a' := ?_) ?_ ?_
          rotate_left
          · show Act.put _ (some 112) _ = _
            simp only [Act.put, jL, jS, jT, i64_w, i32_w]
            rfl
          refine zp HT_ 7 105 m13_1fe0 ?_
          refine zp HT_ 8 113 m13_1ff0 ?_
          refine zp HT_ 9 114 m13_1ff8 ?_
          refine one_ (i := 10) (N := some 19) m13_1ffc rfl rfl (one_of HT_.out zr) (by decide) (fun K hK => ?_)
          refine box_step ?hg (N := 19) ?hd (cs := #[.int .i64 0, .slice none 0 0]) (t := 28) ?hr ?_; (case hd => rfl); (case hg => rfl); (case hr => first | (go_simp; done) | (go_simp; rfl))
          intro gb161 hg_ w_183 hbox hb
          have BK182 := jA hbox
          have HGgb161 : Aside0 (gb161 < w_183.heap.size) := ⟨blk_lt hbox⟩
          have HLgb161 : Aside0 (w_174.heap.size ≤ gb161) := ⟨by rw [hg_]; exact Nat.le_refl _⟩
          clear hbox hg_
          have HBi := jA (jJ (zy) hb : Below w_174.heap.size w_174 w_183)
          clear hb
          have HBn := jA (jJ HB.out HBi.out)
          clear HB
          have HB := HBn
          clear HBn
          have HS184 := jA HBi.out.size
          have n0_ := jA (jO BK2.out HBi.out)
          clear BK2
          have BK2 := n0_
          clear n0_
          have n0_ := jA (Kd.R_below HO90.out HBi.out)
          clear HO90
          have HO90 := n0_
          clear n0_
          have n0_ := jA (jO BK91.out HBi.out)
          clear BK91
          have BK91 := n0_
          clear n0_
          have n0_ := jA (jO BK108.out HBi.out)
          clear BK108
          have BK108 := n0_
          clear n0_
          have n0_ := jA (Kd.R_below HO118.out HBi.out)
          clear HO118
          have HO118 := n0_
          clear n0_
          have n0_ := jA (jO BK123.out HBi.out)
          clear BK123
          have BK123 := n0_
          clear n0_
          have n0_ := jA (Kd.R_below HO163.out HBi.out)
          clear HO163
          have HO163 := n0_
          clear n0_
          have n0_ := jA (Kd.R_below HO169.out HBi.out)
          clear HO169
          have HO169 := n0_
          clear n0_
          have n0_ := jA (Kd.R_below HO178.out HBi.out)
          clear HO178
          have HO178 := n0_
          clear n0_
          clear HBi
          have HWw_183 := jA HB.out.size
          refine hK.out _ _ ⟨(jD BK2.out 0).trans rfl, (jD BK2.out 1).trans rfl, (jD BK91.out 0).trans rfl, (jD BK91.out 1).trans rfl, (jD BK108.out 0).trans rfl, (jD BK108.out 1).trans rfl, (jD BK123.out 0).trans rfl, (jD BK123.out 1).trans rfl⟩ (fun hHeld => ?_)
          clear hK K
          refine norm_ (a' := ?_) ?_ ?_
          rotate_left
          · show Act.put _ (some 19) _ = _
            simp only [Act.put, jL, jS, jT, i64_w, i32_w]
            rfl
          exact norm_ (by simp only [putAll, Act.put, jL, jS, jT]) (hCont ((Ao164, co166), (Ao170, co172), (Ao179, co180), gb161) _ ⟨hHeld, (show Kd.R (Kd.int .i64) 2 w_183 w.heap.size (fun k_ => (w_159.heap.size ≤ k_ ∧ k_ < w_183.heap.size) ∧ k_ ≠ gb161) (.slice Ao179 gs_r2.length co180) gs_r2 from Kd.R_mono HO178.out (fun k_ (h_ : w_168.heap.size ≤ k_ ∧ k_ < w_174.heap.size) => (show (w_159.heap.size ≤ k_ ∧ k_ < w_183.heap.size) ∧ k_ ≠ gb161 from by have sHGgb1 := HGgb1.out; have sHS4 := HS4.out; have sHS6 := HS6.out; have sHS8 := HS8.out; have sHS10 := HS10.out; have sHS92 := HS92.out; have sHGgb11 := HGgb11.out; have sHLgb11 := HLgb11.out; have sHS94 := HS94.out; have sHS100 := HS100.out; have sHS106 := HS106.out; have sHGgb107 := HGgb107.out; have sHLgb107 := HLgb107.out; have sHS111 := HS111.out; have sHS113 := HS113.out; have sHS117 := HS117.out; have sHGgb122 := HGgb122.out; have sHLgb122 := HLgb122.out; have sHS126 := HS126.out; have sHS128 := HS128.out; have sHS130 := HS130.out; have sHS136 := HS136.out; have sHS138 := HS138.out; have sHS140 := HS140.out; have sHS146 := HS146.out; have sHS148 := HS148.out; have sHS150 := HS150.out; have sHS152 := HS152.out; have sHS154 := HS154.out; have sHS156 := HS156.out; have sHS158 := HS158.out; have sHS160 := HS160.out; have sHS167 := HS167.out; have sHS173 := HS173.out; have sHS177 := HS177.out; have sHGgb161 := HGgb161.out; have sHLgb161 := HLgb161.out; have sHS184 := HS184.out; omega))), (show w_183.heap[gb161]? = some (.cells #[.int .i64 0, .slice none 0 0] 28 (0, 0)) from (zk BK182)), (show w_159.heap.size ≤ gb161 by have sHGgb1 := HGgb1.out; have sHS4 := HS4.out; have sHS6 := HS6.out; have sHS8 := HS8.out; have sHS10 := HS10.out; have sHS92 := HS92.out; have sHGgb11 := HGgb11.out; have sHLgb11 := HLgb11.out; have sHS94 := HS94.out; have sHS100 := HS100.out; have sHS106 := HS106.out; have sHGgb107 := HGgb107.out; have sHLgb107 := HLgb107.out; have sHS111 := HS111.out; have sHS113 := HS113.out; have sHS117 := HS117.out; have sHGgb122 := HGgb122.out; have sHLgb122 := HLgb122.out; have sHS126 := HS126.out; have sHS128 := HS128.out; have sHS130 := HS130.out; have sHS136 := HS136.out; have sHS138 := HS138.out; have sHS140 := HS140.out; have sHS146 := HS146.out; have sHS148 := HS148.out; have sHS150 := HS150.out; have sHS152 := HS152.out; have sHS154 := HS154.out; have sHS156 := HS156.out; have sHS158 := HS158.out; have sHS160 := HS160.out; have sHS167 := HS167.out; have sHS173 := HS173.out; have sHS177 := HS177.out; have sHGgb161 := HGgb161.out; have sHLgb161 := HLgb161.out; have sHS184 := HS184.out; omega), (show w_159.heap.size ≤ w_183.heap.size by have sHGgb1 := HGgb1.out; have sHS4 := HS4.out; have sHS6 := HS6.out; have sHS8 := HS8.out; have sHS10 := HS10.out; have sHS92 := HS92.out; have sHGgb11 := HGgb11.out; have sHLgb11 := HLgb11.out; have sHS94 := HS94.out; have sHS100 := HS100.out; have sHS106 := HS106.out; have sHGgb107 := HGgb107.out; have sHLgb107 := HLgb107.out; have sHS111 := HS111.out; have sHS113 := HS113.out; have sHS117 := HS117.out; have sHGgb122 := HGgb122.out; have sHLgb122 := HLgb122.out; have sHS126 := HS126.out; have sHS128 := HS128.out; have sHS130 := HS130.out; have sHS136 := HS136.out; have sHS138 := HS138.out; have sHS140 := HS140.out; have sHS146 := HS146.out; have sHS148 := HS148.out; have sHS150 := HS150.out; have sHS152 := HS152.out; have sHS154 := HS154.out; have sHS156 := HS156.out; have sHS158 := HS158.out; have sHS160 := HS160.out; have sHS167 := HS167.out; have sHS173 := HS173.out; have sHS177 := HS177.out; have sHGgb161 := HGgb161.out; have sHLgb161 := HLgb161.out; have sHS184 := HS184.out; omega), (zk BK2), (zo HO90), (zk BK91), (zk BK108), (zo HO118), (zk BK123), (zb0 HB)⟩)
        · skip
          refine box_step ?hg (N := 19) ?hd (cs := #[.int .i64 0, .slice none 0 0]) (t := 28) ?hr ?_; (case hd => rfl); (case hg => rfl); (case hr => first | (go_simp; done) | (go_simp; rfl))
          intro gb161 hg_ w_186 hbox hb
          have BK185 := jA hbox
          have HGgb161 : Aside0 (gb161 < w_186.heap.size) := ⟨blk_lt hbox⟩
          have HLgb161 : Aside0 (w_168.heap.size ≤ gb161) := ⟨by rw [hg_]; exact Nat.le_refl _⟩
          clear hbox hg_
          have HBi := jA (jJ (zy) hb : Below w_168.heap.size w_168 w_186)
          clear hb
          have HBn := jA (jJ HB.out HBi.out)
          clear HB
          have HB := HBn
          clear HBn
          have HS187 := jA HBi.out.size
          have n0_ := jA (jO BK2.out HBi.out)
          clear BK2
          have BK2 := n0_
          clear n0_
          have n0_ := jA (Kd.R_below HO90.out HBi.out)
          clear HO90
          have HO90 := n0_
          clear n0_
          have n0_ := jA (jO BK91.out HBi.out)
          clear BK91
          have BK91 := n0_
          clear n0_
          have n0_ := jA (jO BK108.out HBi.out)
          clear BK108
          have BK108 := n0_
          clear n0_
          have n0_ := jA (Kd.R_below HO118.out HBi.out)
          clear HO118
          have HO118 := n0_
          clear n0_
          have n0_ := jA (jO BK123.out HBi.out)
          clear BK123
          have BK123 := n0_
          clear n0_
          have n0_ := jA (Kd.R_below HO163.out HBi.out)
          clear HO163
          have HO163 := n0_
          clear n0_
          have n0_ := jA (Kd.R_below HO169.out HBi.out)
          clear HO169
          have HO169 := n0_
          clear n0_
          clear HBi
          have HWw_186 := jA HB.out.size
          refine hK.out _ _ ⟨(jD BK2.out 0).trans rfl, (jD BK2.out 1).trans rfl, (jD BK91.out 0).trans rfl, (jD BK91.out 1).trans rfl, (jD BK108.out 0).trans rfl, (jD BK108.out 1).trans rfl, (jD BK123.out 0).trans rfl, (jD BK123.out 1).trans rfl⟩ (fun hHeld => ?_)
          clear hK K
          refine norm_ (a' := ?_) ?_ ?_
          rotate_left
          · show Act.put _ (some 19) _ = _
            simp only [Act.put, jL, jS, jT, i64_w, i32_w]
            rfl
          refine one_ (i := 6) (N := some 112) #[true, true, true, true, true, true, true, false, false, false, true, false, false] rfl rfl (one_of HT_.out zr) (by decide) (fun K hK => ?_)
          refine goes_ Try.func39 zr rfl #[.slice Ao164 xs0.length co166, .agg #[.int .i64 a1_0, .slice Ao170 xs1_1.length co172], .string a2, .int .i64 a3] (by rfl) rfl rfl zm ?_
          (with_reducible refine (impl_StorePieces.calls k _ _ xs0 a1_0 _ _ xs1_1 a2 a3 res_r1 gs_r2 res_r3 _ ?side1 ?side2 ?side3 ?side4 HFimpl.out).mono ?_)
          (case side1 => repeat (first | exact C_ext (jb HO163.out).2.2 HXB0.out HLB0.out | (with_reducible refine Kd.C_alloc ?_ _) | (with_reducible refine Kd.C_drewN ?_ _) | (with_reducible refine Kd.C_drew ?_)))
          (case side2 => exact Nat.le_trans HLB0.out (jb HO163.out).2.1)
          (case side3 => repeat (first | exact C_ext (jb HO169.out).2.2 HXB1_1.out HLB1_1.out | (with_reducible refine Kd.C_alloc ?_ _) | (with_reducible refine Kd.C_drewN ?_ _) | (with_reducible refine Kd.C_drew ?_)))
          (case side4 => exact Nat.le_trans HLB1_1.out (jb HO169.out).2.1)
          rintro e w_188 ⟨v_189, rfl, ho190, hb⟩
          have ho190A := jA (Kd.R_lower (R_span ho190) (Nat.le_trans HB.out.size (zy : Below w_186.heap.size w_186 _).size))
          clear ho190
          have HBi := jA (jJ (zy) hb : Below w_186.heap.size w_186 w_188)
          clear hb
          have HBn := jA (jJ HB.out HBi.out)
          clear HB
          have HB := HBn
          clear HBn
          have HS191 := jA HBi.out.size
          have n0_ := jA (jO BK2.out HBi.out)
          clear BK2
          have BK2 := n0_
          clear n0_
          have n0_ := jA (Kd.R_below HO90.out HBi.out)
          clear HO90
          have HO90 := n0_
          clear n0_
          have n0_ := jA (jO BK91.out HBi.out)
          clear BK91
          have BK91 := n0_
          clear n0_
          have n0_ := jA (jO BK108.out HBi.out)
          clear BK108
          have BK108 := n0_
          clear n0_
          have n0_ := jA (Kd.R_below HO118.out HBi.out)
          clear HO118
          have HO118 := n0_
          clear n0_
          have n0_ := jA (jO BK123.out HBi.out)
          clear BK123
          have BK123 := n0_
          clear n0_
          have n0_ := jA (Kd.R_below HO163.out HBi.out)
          clear HO163
          have HO163 := n0_
          clear n0_
          have n0_ := jA (Kd.R_below HO169.out HBi.out)
          clear HO169
          have HO169 := n0_
          clear n0_
          have n0_ := jA (jO BK185.out HBi.out)
          clear BK185
          have BK185 := n0_
          clear n0_
          clear HBi
          have HWw_188 := jA HB.out.size
          obtain ⟨Ao193, co194, eo195⟩ := Kd.R_slice ho190A.out
          subst eo195
          have HO192 := jA (Kd.R_mono (ok' := fun k_ => w_186.heap.size ≤ k_ ∧ k_ < w_188.heap.size) ho190A.out (fun k_ hk_ => hk_))
          clear ho190A
          refine ⟨_, rfl, ?_⟩
          refine hK.out _ _ ⟨(jD BK2.out 0).trans rfl, (jD BK2.out 1).trans rfl, (jD BK91.out 0).trans rfl, (jD BK91.out 1).trans rfl, (jD BK108.out 0).trans rfl, (jD BK108.out 1).trans rfl, (jD BK123.out 0).trans rfl, (jD BK123.out 1).trans rfl⟩ (fun hHeld => ?_)
          clear hK K
          refine norm_ (a' := ?_) ?_ ?_
          rotate_left
          · show Act.put _ (some 112) _ = _
            simp only [Act.put, jL, jS, jT, i64_w, i32_w]
            rfl
          refine zp HT_ 7 105 #[true, true, true, true, true, true, true, true, false, false, true, false, false] ?_
          refine zp HT_ 8 113 #[true, true, true, true, true, true, true, true, true, false, true, false, false] ?_
          refine zp HT_ 9 114 m13_1ffc ?_
          exact norm_ (by simp only [putAll, Act.put, jL, jS, jT]) (hCont ((Ao164, co166), (Ao170, co172), (Ao193, co194), gb161) _ ⟨hHeld, (show Kd.R (Kd.int .i64) 2 w_188 w.heap.size (fun k_ => (w_159.heap.size ≤ k_ ∧ k_ < w_188.heap.size) ∧ k_ ≠ gb161) (.slice Ao193 gs_r2.length co194) gs_r2 from Kd.R_mono HO192.out (fun k_ (h_ : w_186.heap.size ≤ k_ ∧ k_ < w_188.heap.size) => (show (w_159.heap.size ≤ k_ ∧ k_ < w_188.heap.size) ∧ k_ ≠ gb161 from by have sHGgb1 := HGgb1.out; have sHS4 := HS4.out; have sHS6 := HS6.out; have sHS8 := HS8.out; have sHS10 := HS10.out; have sHS92 := HS92.out; have sHGgb11 := HGgb11.out; have sHLgb11 := HLgb11.out; have sHS94 := HS94.out; have sHS100 := HS100.out; have sHS106 := HS106.out; have sHGgb107 := HGgb107.out; have sHLgb107 := HLgb107.out; have sHS111 := HS111.out; have sHS113 := HS113.out; have sHS117 := HS117.out; have sHGgb122 := HGgb122.out; have sHLgb122 := HLgb122.out; have sHS126 := HS126.out; have sHS128 := HS128.out; have sHS130 := HS130.out; have sHS136 := HS136.out; have sHS138 := HS138.out; have sHS140 := HS140.out; have sHS146 := HS146.out; have sHS148 := HS148.out; have sHS150 := HS150.out; have sHS152 := HS152.out; have sHS154 := HS154.out; have sHS156 := HS156.out; have sHS158 := HS158.out; have sHS160 := HS160.out; have sHS167 := HS167.out; have sHS173 := HS173.out; have sHGgb161 := HGgb161.out; have sHLgb161 := HLgb161.out; have sHS187 := HS187.out; have sHS191 := HS191.out; omega))), (show w_188.heap[gb161]? = some (.cells #[.int .i64 0, .slice none 0 0] 28 (0, 0)) from (zk BK185)), (show w_159.heap.size ≤ gb161 by have sHGgb1 := HGgb1.out; have sHS4 := HS4.out; have sHS6 := HS6.out; have sHS8 := HS8.out; have sHS10 := HS10.out; have sHS92 := HS92.out; have sHGgb11 := HGgb11.out; have sHLgb11 := HLgb11.out; have sHS94 := HS94.out; have sHS100 := HS100.out; have sHS106 := HS106.out; have sHGgb107 := HGgb107.out; have sHLgb107 := HLgb107.out; have sHS111 := HS111.out; have sHS113 := HS113.out; have sHS117 := HS117.out; have sHGgb122 := HGgb122.out; have sHLgb122 := HLgb122.out; have sHS126 := HS126.out; have sHS128 := HS128.out; have sHS130 := HS130.out; have sHS136 := HS136.out; have sHS138 := HS138.out; have sHS140 := HS140.out; have sHS146 := HS146.out; have sHS148 := HS148.out; have sHS150 := HS150.out; have sHS152 := HS152.out; have sHS154 := HS154.out; have sHS156 := HS156.out; have sHS158 := HS158.out; have sHS160 := HS160.out; have sHS167 := HS167.out; have sHS173 := HS173.out; have sHGgb161 := HGgb161.out; have sHLgb161 := HLgb161.out; have sHS187 := HS187.out; have sHS191 := HS191.out; omega), (show w_159.heap.size ≤ w_188.heap.size by have sHGgb1 := HGgb1.out; have sHS4 := HS4.out; have sHS6 := HS6.out; have sHS8 := HS8.out; have sHS10 := HS10.out; have sHS92 := HS92.out; have sHGgb11 := HGgb11.out; have sHLgb11 := HLgb11.out; have sHS94 := HS94.out; have sHS100 := HS100.out; have sHS106 := HS106.out; have sHGgb107 := HGgb107.out; have sHLgb107 := HLgb107.out; have sHS111 := HS111.out; have sHS113 := HS113.out; have sHS117 := HS117.out; have sHGgb122 := HGgb122.out; have sHLgb122 := HLgb122.out; have sHS126 := HS126.out; have sHS128 := HS128.out; have sHS130 := HS130.out; have sHS136 := HS136.out; have sHS138 := HS138.out; have sHS140 := HS140.out; have sHS146 := HS146.out; have sHS148 := HS148.out; have sHS150 := HS150.out; have sHS152 := HS152.out; have sHS154 := HS154.out; have sHS156 := HS156.out; have sHS158 := HS158.out; have sHS160 := HS160.out; have sHS167 := HS167.out; have sHS173 := HS173.out; have sHGgb161 := HGgb161.out; have sHLgb161 := HLgb161.out; have sHS187 := HS187.out; have sHS191 := HS191.out; omega), (zk BK2), (zo HO90), (zk BK91), (zk BK108), (zo HO118), (zk BK123), (zb0 HB)⟩)
      · skip
        refine box_step ?hg (N := 19) ?hd (cs := #[.int .i64 0, .slice none 0 0]) (t := 28) ?hr ?_; (case hd => rfl); (case hg => rfl); (case hr => first | (go_simp; done) | (go_simp; rfl))
        intro gb161 hg_ w_197 hbox hb
        have BK196 := jA hbox
        have HGgb161 : Aside0 (gb161 < w_197.heap.size) := ⟨blk_lt hbox⟩
        have HLgb161 : Aside0 (w_162.heap.size ≤ gb161) := ⟨by rw [hg_]; exact Nat.le_refl _⟩
        clear hbox hg_
        have HBi := jA (jJ (zy) hb : Below w_162.heap.size w_162 w_197)
        clear hb
        have HBn := jA (jJ HB.out HBi.out)
        clear HB
        have HB := HBn
        clear HBn
        have HS198 := jA HBi.out.size
        have n0_ := jA (jO BK2.out HBi.out)
        clear BK2
        have BK2 := n0_
        clear n0_
        have n0_ := jA (Kd.R_below HO90.out HBi.out)
        clear HO90
        have HO90 := n0_
        clear n0_
        have n0_ := jA (jO BK91.out HBi.out)
        clear BK91
        have BK91 := n0_
        clear n0_
        have n0_ := jA (jO BK108.out HBi.out)
        clear BK108
        have BK108 := n0_
        clear n0_
        have n0_ := jA (Kd.R_below HO118.out HBi.out)
        clear HO118
        have HO118 := n0_
        clear n0_
        have n0_ := jA (jO BK123.out HBi.out)
        clear BK123
        have BK123 := n0_
        clear n0_
        have n0_ := jA (Kd.R_below HO163.out HBi.out)
        clear HO163
        have HO163 := n0_
        clear n0_
        clear HBi
        have HWw_197 := jA HB.out.size
        refine hK.out _ _ ⟨(jD BK2.out 0).trans rfl, (jD BK2.out 1).trans rfl, (jD BK91.out 0).trans rfl, (jD BK91.out 1).trans rfl, (jD BK108.out 0).trans rfl, (jD BK108.out 1).trans rfl, (jD BK123.out 0).trans rfl, (jD BK123.out 1).trans rfl⟩ (fun hHeld => ?_)
        clear hK K
        refine norm_ (a' := ?_) ?_ ?_
        rotate_left
        · show Act.put _ (some 19) _ = _
          simp only [Act.put, jL, jS, jT, i64_w, i32_w]
          rfl
        refine one_ (i := 3) (N := some 109) #[true, true, true, true, true, true, false, false, false, false, true, false, false] rfl rfl (one_of HT_.out zr) (by decide) (fun K hK => ?_)
        refine goes_ Try.func17 zr rfl #[.agg #[.int .i64 a1_0, .slice A1_1 l1_1.length c1_1], .bool true] (by rfl) rfl rfl zm ?_
        (with_reducible refine (laws_toMagazineX.calls k a1_0 _ _ l1_1 true a1_0 extb1_1 _ ?side1 ?side2 (by unfold laws_toMagazineX.f; rw [HTOB1_1.out, Option.bind_some])).mono ?_)
        (case side1 => exact zs HR1_1 HB)
        (case side2 => exact HC1_1.out)
        rintro e w_199 ⟨Ao201, no202, co203, rfl, hn, ho, hb⟩
        obtain rfl : no202 = xs1_1.length := hn.bare HXL1_1.out HNB1_1.out
        clear hn
        have ho1 := jA (Kd.R_lower (R_span ho) (Nat.le_trans HB.out.size (zy : Below w_197.heap.size w_197 _).size))
        clear ho
        have HBi := jA (jJ (zy) hb : Below w_197.heap.size w_197 w_199)
        clear hb
        have HBn := jA (jJ HB.out HBi.out)
        clear HB
        have HB := HBn
        clear HBn
        have HS204 := jA HBi.out.size
        have n0_ := jA (jO BK2.out HBi.out)
        clear BK2
        have BK2 := n0_
        clear n0_
        have n0_ := jA (Kd.R_below HO90.out HBi.out)
        clear HO90
        have HO90 := n0_
        clear n0_
        have n0_ := jA (jO BK91.out HBi.out)
        clear BK91
        have BK91 := n0_
        clear n0_
        have n0_ := jA (jO BK108.out HBi.out)
        clear BK108
        have BK108 := n0_
        clear n0_
        have n0_ := jA (Kd.R_below HO118.out HBi.out)
        clear HO118
        have HO118 := n0_
        clear n0_
        have n0_ := jA (jO BK123.out HBi.out)
        clear BK123
        have BK123 := n0_
        clear n0_
        have n0_ := jA (Kd.R_below HO163.out HBi.out)
        clear HO163
        have HO163 := n0_
        clear n0_
        have n0_ := jA (jO BK196.out HBi.out)
        clear BK196
        have BK196 := n0_
        clear n0_
        clear HBi
        have HWw_199 := jA HB.out.size
        have HO200 := jA (Kd.R_mono (ok' := fun k_ => w_197.heap.size ≤ k_ ∧ k_ < w_199.heap.size) ho1.out (fun k_ hk_ => hk_))
        clear ho1
        refine ⟨_, rfl, ?_⟩
        refine hK.out _ _ ⟨(jD BK2.out 0).trans rfl, (jD BK2.out 1).trans rfl, (jD BK91.out 0).trans rfl, (jD BK91.out 1).trans rfl, (jD BK108.out 0).trans rfl, (jD BK108.out 1).trans rfl, (jD BK123.out 0).trans rfl, (jD BK123.out 1).trans rfl⟩ (fun hHeld => ?_)
        clear hK K
        refine norm_ (a' := ?_) ?_ ?_
        rotate_left
        · show Act.put _ (some 109) _ = _
          simp only [Act.put, jL, jS, jT, i64_w, i32_w]
          rfl
        refine one_ (i := 6) (N := some 112) #[true, true, true, true, true, true, true, false, false, false, true, false, false] rfl rfl (one_of HT_.out zr) (by decide) (fun K hK => ?_)
        refine goes_ Try.func39 zr rfl #[.slice Ao164 xs0.length co166, .agg #[.int .i64 a1_0, .slice Ao201 xs1_1.length co203], .string a2, .int .i64 a3] (by rfl) rfl rfl zm ?_
        (with_reducible refine (impl_StorePieces.calls k _ _ xs0 a1_0 _ _ xs1_1 a2 a3 res_r1 gs_r2 res_r3 _ ?side1 ?side2 ?side3 ?side4 HFimpl.out).mono ?_)
        (case side1 => repeat (first | exact C_ext (jb HO163.out).2.2 HXB0.out HLB0.out | (with_reducible refine Kd.C_alloc ?_ _) | (with_reducible refine Kd.C_drewN ?_ _) | (with_reducible refine Kd.C_drew ?_)))
        (case side2 => exact Nat.le_trans HLB0.out (jb HO163.out).2.1)
        (case side3 => repeat (first | exact C_ext (jb HO200.out).2.2 HXB1_1.out HLB1_1.out | (with_reducible refine Kd.C_alloc ?_ _) | (with_reducible refine Kd.C_drewN ?_ _) | (with_reducible refine Kd.C_drew ?_)))
        (case side4 => exact Nat.le_trans HLB1_1.out (jb HO200.out).2.1)
        rintro e w_205 ⟨v_206, rfl, ho207, hb⟩
        have ho207A := jA (Kd.R_lower (R_span ho207) (Nat.le_trans HB.out.size (zy : Below w_199.heap.size w_199 _).size))
        clear ho207
        have HBi := jA (jJ (zy) hb : Below w_199.heap.size w_199 w_205)
        clear hb
        have HBn := jA (jJ HB.out HBi.out)
        clear HB
        have HB := HBn
        clear HBn
        have HS208 := jA HBi.out.size
        have n0_ := jA (jO BK2.out HBi.out)
        clear BK2
        have BK2 := n0_
        clear n0_
        have n0_ := jA (Kd.R_below HO90.out HBi.out)
        clear HO90
        have HO90 := n0_
        clear n0_
        have n0_ := jA (jO BK91.out HBi.out)
        clear BK91
        have BK91 := n0_
        clear n0_
        have n0_ := jA (jO BK108.out HBi.out)
        clear BK108
        have BK108 := n0_
        clear n0_
        have n0_ := jA (Kd.R_below HO118.out HBi.out)
        clear HO118
        have HO118 := n0_
        clear n0_
        have n0_ := jA (jO BK123.out HBi.out)
        clear BK123
        have BK123 := n0_
        clear n0_
        have n0_ := jA (Kd.R_below HO163.out HBi.out)
        clear HO163
        have HO163 := n0_
        clear n0_
        have n0_ := jA (jO BK196.out HBi.out)
        clear BK196
        have BK196 := n0_
        clear n0_
        have n0_ := jA (Kd.R_below HO200.out HBi.out)
        clear HO200
        have HO200 := n0_
        clear n0_
        clear HBi
        have HWw_205 := jA HB.out.size
        obtain ⟨Ao210, co211, eo212⟩ := Kd.R_slice ho207A.out
        subst eo212
        have HO209 := jA (Kd.R_mono (ok' := fun k_ => w_199.heap.size ≤ k_ ∧ k_ < w_205.heap.size) ho207A.out (fun k_ hk_ => hk_))
        clear ho207A
        refine ⟨_, rfl, ?_⟩
        refine hK.out _ _ ⟨(jD BK2.out 0).trans rfl, (jD BK2.out 1).trans rfl, (jD BK91.out 0).trans rfl, (jD BK91.out 1).trans rfl, (jD BK108.out 0).trans rfl, (jD BK108.out 1).trans rfl, (jD BK123.out 0).trans rfl, (jD BK123.out 1).trans rfl⟩ (fun hHeld => ?_)
        clear hK K
        refine norm_ (a' := ?_) ?_ ?_
        rotate_left
        · show Act.put _ (some 112) _ = _
          simp only [Act.put, jL, jS, jT, i64_w, i32_w]
          rfl
        refine zp HT_ 7 105 #[true, true, true, true, true, true, true, true, false, false, true, false, false] ?_
        refine zp HT_ 8 113 #[true, true, true, true, true, true, true, true, true, false, true, false, false] ?_
        refine zp HT_ 9 114 m13_1ffc ?_
        exact norm_ (by simp only [putAll, Act.put, jL, jS, jT]) (hCont ((Ao164, co166), (Ao201, co203), (Ao210, co211), gb161) _ ⟨hHeld, (show Kd.R (Kd.int .i64) 2 w_205 w.heap.size (fun k_ => (w_159.heap.size ≤ k_ ∧ k_ < w_205.heap.size) ∧ k_ ≠ gb161) (.slice Ao210 gs_r2.length co211) gs_r2 from Kd.R_mono HO209.out (fun k_ (h_ : w_199.heap.size ≤ k_ ∧ k_ < w_205.heap.size) => (show (w_159.heap.size ≤ k_ ∧ k_ < w_205.heap.size) ∧ k_ ≠ gb161 from by have sHGgb1 := HGgb1.out; have sHS4 := HS4.out; have sHS6 := HS6.out; have sHS8 := HS8.out; have sHS10 := HS10.out; have sHS92 := HS92.out; have sHGgb11 := HGgb11.out; have sHLgb11 := HLgb11.out; have sHS94 := HS94.out; have sHS100 := HS100.out; have sHS106 := HS106.out; have sHGgb107 := HGgb107.out; have sHLgb107 := HLgb107.out; have sHS111 := HS111.out; have sHS113 := HS113.out; have sHS117 := HS117.out; have sHGgb122 := HGgb122.out; have sHLgb122 := HLgb122.out; have sHS126 := HS126.out; have sHS128 := HS128.out; have sHS130 := HS130.out; have sHS136 := HS136.out; have sHS138 := HS138.out; have sHS140 := HS140.out; have sHS146 := HS146.out; have sHS148 := HS148.out; have sHS150 := HS150.out; have sHS152 := HS152.out; have sHS154 := HS154.out; have sHS156 := HS156.out; have sHS158 := HS158.out; have sHS160 := HS160.out; have sHS167 := HS167.out; have sHGgb161 := HGgb161.out; have sHLgb161 := HLgb161.out; have sHS198 := HS198.out; have sHS204 := HS204.out; have sHS208 := HS208.out; omega))), (show w_205.heap[gb161]? = some (.cells #[.int .i64 0, .slice none 0 0] 28 (0, 0)) from (zk BK196)), (show w_159.heap.size ≤ gb161 by have sHGgb1 := HGgb1.out; have sHS4 := HS4.out; have sHS6 := HS6.out; have sHS8 := HS8.out; have sHS10 := HS10.out; have sHS92 := HS92.out; have sHGgb11 := HGgb11.out; have sHLgb11 := HLgb11.out; have sHS94 := HS94.out; have sHS100 := HS100.out; have sHS106 := HS106.out; have sHGgb107 := HGgb107.out; have sHLgb107 := HLgb107.out; have sHS111 := HS111.out; have sHS113 := HS113.out; have sHS117 := HS117.out; have sHGgb122 := HGgb122.out; have sHLgb122 := HLgb122.out; have sHS126 := HS126.out; have sHS128 := HS128.out; have sHS130 := HS130.out; have sHS136 := HS136.out; have sHS138 := HS138.out; have sHS140 := HS140.out; have sHS146 := HS146.out; have sHS148 := HS148.out; have sHS150 := HS150.out; have sHS152 := HS152.out; have sHS154 := HS154.out; have sHS156 := HS156.out; have sHS158 := HS158.out; have sHS160 := HS160.out; have sHS167 := HS167.out; have sHGgb161 := HGgb161.out; have sHLgb161 := HLgb161.out; have sHS198 := HS198.out; have sHS204 := HS204.out; have sHS208 := HS208.out; omega), (show w_159.heap.size ≤ w_205.heap.size by have sHGgb1 := HGgb1.out; have sHS4 := HS4.out; have sHS6 := HS6.out; have sHS8 := HS8.out; have sHS10 := HS10.out; have sHS92 := HS92.out; have sHGgb11 := HGgb11.out; have sHLgb11 := HLgb11.out; have sHS94 := HS94.out; have sHS100 := HS100.out; have sHS106 := HS106.out; have sHGgb107 := HGgb107.out; have sHLgb107 := HLgb107.out; have sHS111 := HS111.out; have sHS113 := HS113.out; have sHS117 := HS117.out; have sHGgb122 := HGgb122.out; have sHLgb122 := HLgb122.out; have sHS126 := HS126.out; have sHS128 := HS128.out; have sHS130 := HS130.out; have sHS136 := HS136.out; have sHS138 := HS138.out; have sHS140 := HS140.out; have sHS146 := HS146.out; have sHS148 := HS148.out; have sHS150 := HS150.out; have sHS152 := HS152.out; have sHS154 := HS154.out; have sHS156 := HS156.out; have sHS158 := HS158.out; have sHS160 := HS160.out; have sHS167 := HS167.out; have sHGgb161 := HGgb161.out; have sHLgb161 := HLgb161.out; have sHS198 := HS198.out; have sHS204 := HS204.out; have sHS208 := HS208.out; omega), (zk BK2), (zo HO90), (zk BK91), (zk BK108), (zo HO118), (zk BK123), (zb0 HB)⟩)
    · skip
      refine box_step ?hg (N := 19) ?hd (cs := #[.int .i64 0, .slice none 0 0]) (t := 28) ?hr ?_; (case hd => rfl); (case hg => rfl); (case hr => first | (go_simp; done) | (go_simp; rfl))
      intro gb161 hg_ w_214 hbox hb
      have BK213 := jA hbox
      have HGgb161 : Aside0 (gb161 < w_214.heap.size) := ⟨blk_lt hbox⟩
      have HLgb161 : Aside0 (w_159.heap.size ≤ gb161) := ⟨by rw [hg_]; exact Nat.le_refl _⟩
      clear hbox hg_
      have HBi := jA (jJ (zy) hb : Below w_159.heap.size w_159 w_214)
      clear hb
      have HBn := jA (jJ HB.out HBi.out)
      clear HB
      have HB := HBn
      clear HBn
      have HS215 := jA HBi.out.size
      have n0_ := jA (jO BK2.out HBi.out)
      clear BK2
      have BK2 := n0_
      clear n0_
      have n0_ := jA (Kd.R_below HO90.out HBi.out)
      clear HO90
      have HO90 := n0_
      clear n0_
      have n0_ := jA (jO BK91.out HBi.out)
      clear BK91
      have BK91 := n0_
      clear n0_
      have n0_ := jA (jO BK108.out HBi.out)
      clear BK108
      have BK108 := n0_
      clear n0_
      have n0_ := jA (Kd.R_below HO118.out HBi.out)
      clear HO118
      have HO118 := n0_
      clear n0_
      have n0_ := jA (jO BK123.out HBi.out)
      clear BK123
      have BK123 := n0_
      clear n0_
      clear HBi
      have HWw_214 := jA HB.out.size
      refine hK.out _ _ ⟨(jD BK2.out 0).trans rfl, (jD BK2.out 1).trans rfl, (jD BK91.out 0).trans rfl, (jD BK91.out 1).trans rfl, (jD BK108.out 0).trans rfl, (jD BK108.out 1).trans rfl, (jD BK123.out 0).trans rfl, (jD BK123.out 1).trans rfl⟩ (fun hHeld => ?_)
      clear hK K
      refine norm_ (a' := ?_) ?_ ?_
      rotate_left
      · show Act.put _ (some 19) _ = _
        simp only [Act.put, jL, jS, jT, i64_w, i32_w]
        rfl
      refine one_ (i := 1) (N := some 107) #[true, true, true, false, true, true, false, false, false, false, true, false, false] rfl rfl (one_of HT_.out zr) (by decide) (fun K hK => ?_)
      refine goes_ Try.func16 zr rfl #[.slice A0 l0.length c0, .bool true] (by rfl) rfl rfl zm ?_
      (with_reducible refine (laws_toArticleSX.calls k _ _ l0 true extb0 _ ?side1 ?side2 HTOB0.out).mono ?_)
      (case side1 => exact zs HR0 HB)
      (case side2 => exact HC0.out)
      rintro e w_216 ⟨Ao218, no219, co220, rfl, hn, ho, hb⟩
      obtain rfl : no219 = xs0.length := hn.bare HXL0.out HNB0.out
      clear hn
      have ho1 := jA (Kd.R_lower (R_span ho) (Nat.le_trans HB.out.size (zy : Below w_214.heap.size w_214 _).size))
      clear ho
      have HBi := jA (jJ (zy) hb : Below w_214.heap.size w_214 w_216)
      clear hb
      have HBn := jA (jJ HB.out HBi.out)
      clear HB
      have HB := HBn
      clear HBn
      have HS221 := jA HBi.out.size
      have n0_ := jA (jO BK2.out HBi.out)
      clear BK2
      have BK2 := n0_
      clear n0_
      have n0_ := jA (Kd.R_below HO90.out HBi.out)
      clear HO90
      have HO90 := n0_
      clear n0_
      have n0_ := jA (jO BK91.out HBi.out)
      clear BK91
      have BK91 := n0_
      clear n0_
      have n0_ := jA (jO BK108.out HBi.out)
      clear BK108
      have BK108 := n0_
      clear n0_
      have n0_ := jA (Kd.R_below HO118.out HBi.out)
      clear HO118
      have HO118 := n0_
      clear n0_
      have n0_ := jA (jO BK123.out HBi.out)
      clear BK123
      have BK123 := n0_
      clear n0_
      have n0_ := jA (jO BK213.out HBi.out)
      clear BK213
      have BK213 := n0_
      clear n0_
      clear HBi
      have HWw_216 := jA HB.out.size
      have HO217 := jA (Kd.R_mono (ok' := fun k_ => w_214.heap.size ≤ k_ ∧ k_ < w_216.heap.size) ho1.out (fun k_ hk_ => hk_))
      clear ho1
      refine ⟨_, rfl, ?_⟩
      refine hK.out _ _ ⟨(jD BK2.out 0).trans rfl, (jD BK2.out 1).trans rfl, (jD BK91.out 0).trans rfl, (jD BK91.out 1).trans rfl, (jD BK108.out 0).trans rfl, (jD BK108.out 1).trans rfl, (jD BK123.out 0).trans rfl, (jD BK123.out 1).trans rfl⟩ (fun hHeld => ?_)
      clear hK K
      refine norm_ (a' := ?_) ?_ ?_
      rotate_left
      · show Act.put _ (some 107) _ = _
        simp only [Act.put, jL, jS, jT, i64_w, i32_w]
        rfl
      refine one_ (i := 3) (N := some 109) #[true, true, true, true, true, true, false, false, false, false, true, false, false] rfl rfl (one_of HT_.out zr) (by decide) (fun K hK => ?_)
      refine goes_ Try.func17 zr rfl #[.agg #[.int .i64 a1_0, .slice A1_1 l1_1.length c1_1], .bool true] (by rfl) rfl rfl zm ?_
      (with_reducible refine (laws_toMagazineX.calls k a1_0 _ _ l1_1 true a1_0 extb1_1 _ ?side1 ?side2 (by unfold laws_toMagazineX.f; rw [HTOB1_1.out, Option.bind_some])).mono ?_)
      (case side1 => exact zs HR1_1 HB)
      (case side2 => exact HC1_1.out)
      rintro e w_222 ⟨Ao224, no225, co226, rfl, hn, ho, hb⟩
      obtain rfl : no225 = xs1_1.length := hn.bare HXL1_1.out HNB1_1.out
      clear hn
      have ho1 := jA (Kd.R_lower (R_span ho) (Nat.le_trans HB.out.size (zy : Below w_216.heap.size w_216 _).size))
      clear ho
      have HBi := jA (jJ (zy) hb : Below w_216.heap.size w_216 w_222)
      clear hb
      have HBn := jA (jJ HB.out HBi.out)
      clear HB
      have HB := HBn
      clear HBn
      have HS227 := jA HBi.out.size
      have n0_ := jA (jO BK2.out HBi.out)
      clear BK2
      have BK2 := n0_
      clear n0_
      have n0_ := jA (Kd.R_below HO90.out HBi.out)
      clear HO90
      have HO90 := n0_
      clear n0_
      have n0_ := jA (jO BK91.out HBi.out)
      clear BK91
      have BK91 := n0_
      clear n0_
      have n0_ := jA (jO BK108.out HBi.out)
      clear BK108
      have BK108 := n0_
      clear n0_
      have n0_ := jA (Kd.R_below HO118.out HBi.out)
      clear HO118
      have HO118 := n0_
      clear n0_
      have n0_ := jA (jO BK123.out HBi.out)
      clear BK123
      have BK123 := n0_
      clear n0_
      have n0_ := jA (jO BK213.out HBi.out)
      clear BK213
      have BK213 := n0_
      clear n0_
      have n0_ := jA (Kd.R_below HO217.out HBi.out)
      clear HO217
      have HO217 := n0_
      clear n0_
      clear HBi
      have HWw_222 := jA HB.out.size
      have HO223 := jA (Kd.R_mono (ok' := fun k_ => w_216.heap.size ≤ k_ ∧ k_ < w_222.heap.size) ho1.out (fun k_ hk_ => hk_))
      clear ho1
      refine ⟨_, rfl, ?_⟩
      refine hK.out _ _ ⟨(jD BK2.out 0).trans rfl, (jD BK2.out 1).trans rfl, (jD BK91.out 0).trans rfl, (jD BK91.out 1).trans rfl, (jD BK108.out 0).trans rfl, (jD BK108.out 1).trans rfl, (jD BK123.out 0).trans rfl, (jD BK123.out 1).trans rfl⟩ (fun hHeld => ?_)
      clear hK K
      refine norm_ (a' := ?_) ?_ ?_
      rotate_left
      · show Act.put _ (some 109) _ = _
        simp only [Act.put, jL, jS, jT, i64_w, i32_w]
        rfl
      refine one_ (i := 6) (N := some 112) #[true, true, true, true, true, true, true, false, false, false, true, false, false] rfl rfl (one_of HT_.out zr) (by decide) (fun K hK => ?_)
      refine goes_ Try.func39 zr rfl #[.slice Ao218 xs0.length co220, .agg #[.int .i64 a1_0, .slice Ao224 xs1_1.length co226], .string a2, .int .i64 a3] (by rfl) rfl rfl zm ?_
      (with_reducible refine (impl_StorePieces.calls k _ _ xs0 a1_0 _ _ xs1_1 a2 a3 res_r1 gs_r2 res_r3 _ ?side1 ?side2 ?side3 ?side4 HFimpl.out).mono ?_)
      (case side1 => repeat (first | exact C_ext (jb HO217.out).2.2 HXB0.out HLB0.out | (with_reducible refine Kd.C_alloc ?_ _) | (with_reducible refine Kd.C_drewN ?_ _) | (with_reducible refine Kd.C_drew ?_)))
      (case side2 => exact Nat.le_trans HLB0.out (jb HO217.out).2.1)
      (case side3 => repeat (first | exact C_ext (jb HO223.out).2.2 HXB1_1.out HLB1_1.out | (with_reducible refine Kd.C_alloc ?_ _) | (with_reducible refine Kd.C_drewN ?_ _) | (with_reducible refine Kd.C_drew ?_)))
      (case side4 => exact Nat.le_trans HLB1_1.out (jb HO223.out).2.1)
      rintro e w_228 ⟨v_229, rfl, ho230, hb⟩
      have ho230A := jA (Kd.R_lower (R_span ho230) (Nat.le_trans HB.out.size (zy : Below w_222.heap.size w_222 _).size))
      clear ho230
      have HBi := jA (jJ (zy) hb : Below w_222.heap.size w_222 w_228)
      clear hb
      have HBn := jA (jJ HB.out HBi.out)
      clear HB
      have HB := HBn
      clear HBn
      have HS231 := jA HBi.out.size
      have n0_ := jA (jO BK2.out HBi.out)
      clear BK2
      have BK2 := n0_
      clear n0_
      have n0_ := jA (Kd.R_below HO90.out HBi.out)
      clear HO90
      have HO90 := n0_
      clear n0_
      have n0_ := jA (jO BK91.out HBi.out)
      clear BK91
      have BK91 := n0_
      clear n0_
      have n0_ := jA (jO BK108.out HBi.out)
      clear BK108
      have BK108 := n0_
      clear n0_
      have n0_ := jA (Kd.R_below HO118.out HBi.out)
      clear HO118
      have HO118 := n0_
      clear n0_
      have n0_ := jA (jO BK123.out HBi.out)
      clear BK123
      have BK123 := n0_
      clear n0_
      have n0_ := jA (jO BK213.out HBi.out)
      clear BK213
      have BK213 := n0_
      clear n0_
      have n0_ := jA (Kd.R_below HO217.out HBi.out)
      clear HO217
      have HO217 := n0_
      clear n0_
      have n0_ := jA (Kd.R_below HO223.out HBi.out)
      clear HO223
      have HO223 := n0_
      clear n0_
      clear HBi
      have HWw_228 := jA HB.out.size
      obtain ⟨Ao233, co234, eo235⟩ := Kd.R_slice ho230A.out
      subst eo235
      have HO232 := jA (Kd.R_mono (ok' := fun k_ => w_222.heap.size ≤ k_ ∧ k_ < w_228.heap.size) ho230A.out (fun k_ hk_ => hk_))
      clear ho230A
      refine ⟨_, rfl, ?_⟩
      refine hK.out _ _ ⟨(jD BK2.out 0).trans rfl, (jD BK2.out 1).trans rfl, (jD BK91.out 0).trans rfl, (jD BK91.out 1).trans rfl, (jD BK108.out 0).trans rfl, (jD BK108.out 1).trans rfl, (jD BK123.out 0).trans rfl, (jD BK123.out 1).trans rfl⟩ (fun hHeld => ?_)
      clear hK K
      refine norm_ (a' := ?_) ?_ ?_
      rotate_left
      · show Act.put _ (some 112) _ = _
        simp only [Act.put, jL, jS, jT, i64_w, i32_w]
        rfl
      refine zp HT_ 7 105 #[true, true, true, true, true, true, true, true, false, false, true, false, false] ?_
      refine zp HT_ 8 113 #[true, true, true, true, true, true, true, true, true, false, true, false, false] ?_
      refine zp HT_ 9 114 m13_1ffc ?_
      exact norm_ (by simp only [putAll, Act.put, jL, jS, jT]) (hCont ((Ao218, co220), (Ao224, co226), (Ao233, co234), gb161) _ ⟨hHeld, (show Kd.R (Kd.int .i64) 2 w_228 w.heap.size (fun k_ => (w_159.heap.size ≤ k_ ∧ k_ < w_228.heap.size) ∧ k_ ≠ gb161) (.slice Ao233 gs_r2.length co234) gs_r2 from Kd.R_mono HO232.out (fun k_ (h_ : w_222.heap.size ≤ k_ ∧ k_ < w_228.heap.size) => (show (w_159.heap.size ≤ k_ ∧ k_ < w_228.heap.size) ∧ k_ ≠ gb161 from by have sHGgb1 := HGgb1.out; have sHS4 := HS4.out; have sHS6 := HS6.out; have sHS8 := HS8.out; have sHS10 := HS10.out; have sHS92 := HS92.out; have sHGgb11 := HGgb11.out; have sHLgb11 := HLgb11.out; have sHS94 := HS94.out; have sHS100 := HS100.out; have sHS106 := HS106.out; have sHGgb107 := HGgb107.out; have sHLgb107 := HLgb107.out; have sHS111 := HS111.out; have sHS113 := HS113.out; have sHS117 := HS117.out; have sHGgb122 := HGgb122.out; have sHLgb122 := HLgb122.out; have sHS126 := HS126.out; have sHS128 := HS128.out; have sHS130 := HS130.out; have sHS136 := HS136.out; have sHS138 := HS138.out; have sHS140 := HS140.out; have sHS146 := HS146.out; have sHS148 := HS148.out; have sHS150 := HS150.out; have sHS152 := HS152.out; have sHS154 := HS154.out; have sHS156 := HS156.out; have sHS158 := HS158.out; have sHS160 := HS160.out; have sHGgb161 := HGgb161.out; have sHLgb161 := HLgb161.out; have sHS215 := HS215.out; have sHS221 := HS221.out; have sHS227 := HS227.out; have sHS231 := HS231.out; omega))), (show w_228.heap[gb161]? = some (.cells #[.int .i64 0, .slice none 0 0] 28 (0, 0)) from (zk BK213)), (show w_159.heap.size ≤ gb161 by have sHGgb1 := HGgb1.out; have sHS4 := HS4.out; have sHS6 := HS6.out; have sHS8 := HS8.out; have sHS10 := HS10.out; have sHS92 := HS92.out; have sHGgb11 := HGgb11.out; have sHLgb11 := HLgb11.out; have sHS94 := HS94.out; have sHS100 := HS100.out; have sHS106 := HS106.out; have sHGgb107 := HGgb107.out; have sHLgb107 := HLgb107.out; have sHS111 := HS111.out; have sHS113 := HS113.out; have sHS117 := HS117.out; have sHGgb122 := HGgb122.out; have sHLgb122 := HLgb122.out; have sHS126 := HS126.out; have sHS128 := HS128.out; have sHS130 := HS130.out; have sHS136 := HS136.out; have sHS138 := HS138.out; have sHS140 := HS140.out; have sHS146 := HS146.out; have sHS148 := HS148.out; have sHS150 := HS150.out; have sHS152 := HS152.out; have sHS154 := HS154.out; have sHS156 := HS156.out; have sHS158 := HS158.out; have sHS160 := HS160.out; have sHGgb161 := HGgb161.out; have sHLgb161 := HLgb161.out; have sHS215 := HS215.out; have sHS221 := HS221.out; have sHS227 := HS227.out; have sHS231 := HS231.out; omega), (show w_159.heap.size ≤ w_228.heap.size by have sHGgb1 := HGgb1.out; have sHS4 := HS4.out; have sHS6 := HS6.out; have sHS8 := HS8.out; have sHS10 := HS10.out; have sHS92 := HS92.out; have sHGgb11 := HGgb11.out; have sHLgb11 := HLgb11.out; have sHS94 := HS94.out; have sHS100 := HS100.out; have sHS106 := HS106.out; have sHGgb107 := HGgb107.out; have sHLgb107 := HLgb107.out; have sHS111 := HS111.out; have sHS113 := HS113.out; have sHS117 := HS117.out; have sHGgb122 := HGgb122.out; have sHLgb122 := HLgb122.out; have sHS126 := HS126.out; have sHS128 := HS128.out; have sHS130 := HS130.out; have sHS136 := HS136.out; have sHS138 := HS138.out; have sHS140 := HS140.out; have sHS146 := HS146.out; have sHS148 := HS148.out; have sHS150 := HS150.out; have sHS152 := HS152.out; have sHS154 := HS154.out; have sHS156 := HS156.out; have sHS158 := HS158.out; have sHS160 := HS160.out; have sHGgb161 := HGgb161.out; have sHLgb161 := HLgb161.out; have sHS215 := HS215.out; have sHS221 := HS221.out; have sHS227 := HS227.out; have sHS231 := HS231.out; omega), (zk BK2), (zo HO90), (zk BK91), (zk BK108), (zo HO118), (zk BK123), (zb0 HB)⟩)
  rintro ⟨⟨_, _⟩, ⟨_, _⟩, ⟨Ao238, co239⟩, gb161⟩ w_236 ⟨hS_, hR_, hK_, hL_, hZ_, ho0_, ho1_, ho2_, ho3_, ho4_, ho5_, hB_⟩
  have HO240 : Aside0 (Kd.R (Kd.int .i64) 2 w_236 w.heap.size (fun k_ => (w_159.heap.size ≤ k_ ∧ k_ < w_236.heap.size) ∧ k_ ≠ gb161) (.slice Ao238 gs_r2.length co239) gs_r2) := ⟨hR_⟩
  have BK241 : Aside0 (w_236.heap[gb161]? = some (.cells #[.int .i64 0, .slice none 0 0] 28 (0, 0))) := ⟨hK_⟩
  have HLgb161 : Aside0 (w_159.heap.size ≤ gb161) := ⟨hL_⟩
  have HGgb161 : Aside0 (gb161 < w_236.heap.size) := ⟨blk_lt BK241.out⟩
  have HS242 : Aside0 (w_159.heap.size ≤ w_236.heap.size) := ⟨hZ_⟩
  have n0_ : Aside0 (Below w.heap.size w w_236) := ⟨hB_⟩
  clear HB
  have HB := n0_
  clear n0_
  have n0_ : Aside0 (w_236.heap[gb1]? = some (.cells #[.int .i64 a1_0, .slice A1_1 l1_1.length c1_1] 25 (0, 0))) := ⟨ho0_⟩
  clear BK2
  have BK2 := n0_
  clear n0_
  have n0_ : Aside0 (Kd.R (Kd.int .i64) 2 w_236 w.heap.size (fun k_ => w_9.heap.size ≤ k_ ∧ k_ < w_86.heap.size) (.slice Ao88 ws_r2.length co89) ws_r2) := ⟨ho1_⟩
  clear HO90
  have HO90 := n0_
  clear n0_
  have n0_ : Aside0 (w_236.heap[gb11]? = some (.cells #[.int .i64 res_r1, .slice Ao88 ws_r2.length co89] 28 (0, 0))) := ⟨ho2_⟩
  clear BK91
  have BK91 := n0_
  clear n0_
  have n0_ : Aside0 (w_236.heap[gb107]? = some (.cells #[.int .i64 a1_0, .slice Ao103 xs1_1.length co105] 28 (0, 0))) := ⟨ho3_⟩
  clear BK108
  have BK108 := n0_
  clear n0_
  have n0_ : Aside0 (Kd.R (Kd.int .i64) 2 w_236 w.heap.size (fun k_ => w_112.heap.size ≤ k_ ∧ k_ < w_114.heap.size) (.slice Ao119 ml_2.length co120) ml_2) := ⟨ho4_⟩
  clear HO118
  have HO118 := n0_
  clear n0_
  have n0_ : Aside0 (w_236.heap[gb122]? = some (.cells #[.int .i64 res_r1, .slice Ao119 ml_2.length co120] 28 (0, 0))) := ⟨ho5_⟩
  clear BK123
  have BK123 := n0_
  clear n0_
  have hHeld : w_236.cell? ⟨gb1, 0, none⟩ = some (.int .i64 a1_0) ∧ w_236.cell? ⟨gb1, 1, none⟩ = some (.slice A1_1 l1_1.length c1_1) ∧ w_236.cell? ⟨gb11, 0, none⟩ = some (.int .i64 res_r1) ∧ w_236.cell? ⟨gb11, 1, none⟩ = some (.slice Ao88 ws_r2.length co89) ∧ w_236.cell? ⟨gb107, 0, none⟩ = some (.int .i64 a1_0) ∧ w_236.cell? ⟨gb107, 1, none⟩ = some (.slice Ao103 xs1_1.length co105) ∧ w_236.cell? ⟨gb122, 0, none⟩ = some (.int .i64 res_r1) ∧ w_236.cell? ⟨gb122, 1, none⟩ = some (.slice Ao119 ml_2.length co120) := hS_
  clear hR_ hK_ hL_ hZ_ hB_ hS_ ho0_ ho1_ ho2_ ho3_ ho4_ ho5_
  have HWw_236 := jA HB.out.size
  refine norm_ (a' := ?_) ?_ ?_
  rotate_left
  · simp only [putAll, Act.put, jL, jS, jT]
    rfl
  refine one_ (i := 11) (N := none) m13_1ffe rfl rfl (one_of HT_.out zr) (by decide) (fun K hK => ?_)
  have hczgb161_0 : w_236.cell? ⟨gb161, 0, none⟩ = some (.int .i64 0) := (jD BK241.out 0).trans rfl
  have hfzgb161_0 := jC BK241.out 0
  have hczgb161_1 : w_236.cell? ⟨gb161, 1, none⟩ = some (.slice none 0 0) := (jD BK241.out 1).trans rfl
  have hfzgb161_1 := jC BK241.out 1
  have hnegb1 := jN (jR HNgb161_gb1.out HLgb161.out)
  have hnfgb1 := hnegb1.symm
  have hnegb11 := jN (jR HNgb161_gb11.out HLgb161.out)
  have hnfgb11 := hnegb11.symm
  have hnegb107 := jN (jR HNgb161_gb107.out HLgb161.out)
  have hnfgb107 := hnegb107.symm
  have hnegb122 := jN (jR HNgb161_gb122.out HLgb161.out)
  have hnfgb122 := hnegb122.symm
  refine skip_ (w1 := ?_) (by rfl) rfl ?_ ?_
  rotate_left
  · go_simp
    rfl
  refine hK.out _ _ ⟨((jX (p := ⟨gb161, _, none⟩) hnegb1 _).trans ((jX (p := ⟨gb161, _, none⟩) hnegb1 _).trans ((jD BK2.out 0).trans rfl))), ((jX (p := ⟨gb161, _, none⟩) hnegb1 _).trans ((jX (p := ⟨gb161, _, none⟩) hnegb1 _).trans ((jD BK2.out 1).trans rfl))), ((jX (p := ⟨gb161, _, none⟩) hnegb11 _).trans ((jX (p := ⟨gb161, _, none⟩) hnegb11 _).trans ((jD BK91.out 0).trans rfl))), ((jX (p := ⟨gb161, _, none⟩) hnegb11 _).trans ((jX (p := ⟨gb161, _, none⟩) hnegb11 _).trans ((jD BK91.out 1).trans rfl))), ((jX (p := ⟨gb161, _, none⟩) hnegb107 _).trans ((jX (p := ⟨gb161, _, none⟩) hnegb107 _).trans ((jD BK108.out 0).trans rfl))), ((jX (p := ⟨gb161, _, none⟩) hnegb107 _).trans ((jX (p := ⟨gb161, _, none⟩) hnegb107 _).trans ((jD BK108.out 1).trans rfl))), ((jX (p := ⟨gb161, _, none⟩) hnegb122 _).trans ((jX (p := ⟨gb161, _, none⟩) hnegb122 _).trans ((jD BK123.out 0).trans rfl))), ((jX (p := ⟨gb161, _, none⟩) hnegb122 _).trans ((jX (p := ⟨gb161, _, none⟩) hnegb122 _).trans ((jD BK123.out 1).trans rfl)))⟩ (fun hHeld => ?_)
  clear hK K hczgb161_0 hfzgb161_0 hczgb161_1 hfzgb161_1 hnegb1 hnfgb1 hnegb11 hnfgb11 hnegb107 hnfgb107 hnegb122 hnfgb122
  refine zp HT_ 12 20 m13_1fff ?_
  refine done_ (done_of HT_.out zr) ?_
  clear hHeld
  generalize hq_ : World.setCell (World.setCell w_236 ⟨gb161, 0, none⟩ (.int .i64 res_r1)) ⟨gb161, 1, none⟩ (.slice Ao238 gs_r2.length co239) = w_243
  have hk1 : Aside0 (Kept w_236 w_243 (fun k_ => k_ = gb161)) := ⟨by rw [← hq_]; exact Kept.then_ (kept_set w_236 gb161 0 _) (kept_set (World.setCell w_236 ⟨gb161, 0, none⟩ (.int .i64 res_r1)) gb161 1 _) (fun _ h_ => .inl h_)⟩
  have hz_ : w.heap.size ≤ w_159.heap.size := HWw_159.out
  have n0_ : Aside0 (Below w.heap.size w w_243) := ⟨by rw [← hq_]; exact (below_set (below_set HB.out (Nat.le_trans hz_ HLgb161.out)) (Nat.le_trans hz_ HLgb161.out))⟩
  clear HB hz_
  have HB := n0_
  clear n0_
  have n0_ : Aside0 (w_243.heap[gb161]? = some (.cells #[.int .i64 res_r1, .slice Ao238 gs_r2.length co239] 28 (0, 0))) := ⟨by rw [← hq_]; exact (jZ (cs := #[.int .i64 res_r1, .slice none 0 0]) (jZ (cs := #[.int .i64 0, .slice none 0 0]) BK241.out 0 _ rfl) 1 _ rfl)⟩
  clear BK241 hq_
  have BK241 := n0_
  clear n0_
  have HS244 := jA hk1.out.1
  have n0_ := jA ((hk1.out.2 gb1 (blk_lt BK2.out) (fun h_ => by have sHGgb1 := HGgb1.out; have sHS4 := HS4.out; have sHS6 := HS6.out; have sHS8 := HS8.out; have sHS10 := HS10.out; have sHS92 := HS92.out; have sHGgb11 := HGgb11.out; have sHLgb11 := HLgb11.out; have sHS94 := HS94.out; have sHS100 := HS100.out; have sHS106 := HS106.out; have sHGgb107 := HGgb107.out; have sHLgb107 := HLgb107.out; have sHS111 := HS111.out; have sHS113 := HS113.out; have sHS117 := HS117.out; have sHGgb122 := HGgb122.out; have sHLgb122 := HLgb122.out; have sHS126 := HS126.out; have sHS128 := HS128.out; have sHS130 := HS130.out; have sHS136 := HS136.out; have sHS138 := HS138.out; have sHS140 := HS140.out; have sHS146 := HS146.out; have sHS148 := HS148.out; have sHS150 := HS150.out; have sHS152 := HS152.out; have sHS154 := HS154.out; have sHS156 := HS156.out; have sHS158 := HS158.out; have sHS160 := HS160.out; have sHS242 := HS242.out; have sHGgb161 := HGgb161.out; have sHLgb161 := HLgb161.out; have sHS244 := HS244.out; omega)).trans BK2.out)
  clear BK2
  have BK2 := n0_
  clear n0_
  have n0_ := jA (Kd.R_kept HO90.out hk1.out (fun k_ (h1_ : w_9.heap.size ≤ k_ ∧ k_ < w_86.heap.size) (h2_ : k_ = gb161) => by have sHGgb1 := HGgb1.out; have sHS4 := HS4.out; have sHS6 := HS6.out; have sHS8 := HS8.out; have sHS10 := HS10.out; have sHS92 := HS92.out; have sHGgb11 := HGgb11.out; have sHLgb11 := HLgb11.out; have sHS94 := HS94.out; have sHS100 := HS100.out; have sHS106 := HS106.out; have sHGgb107 := HGgb107.out; have sHLgb107 := HLgb107.out; have sHS111 := HS111.out; have sHS113 := HS113.out; have sHS117 := HS117.out; have sHGgb122 := HGgb122.out; have sHLgb122 := HLgb122.out; have sHS126 := HS126.out; have sHS128 := HS128.out; have sHS130 := HS130.out; have sHS136 := HS136.out; have sHS138 := HS138.out; have sHS140 := HS140.out; have sHS146 := HS146.out; have sHS148 := HS148.out; have sHS150 := HS150.out; have sHS152 := HS152.out; have sHS154 := HS154.out; have sHS156 := HS156.out; have sHS158 := HS158.out; have sHS160 := HS160.out; have sHS242 := HS242.out; have sHGgb161 := HGgb161.out; have sHLgb161 := HLgb161.out; have sHS244 := HS244.out; omega))
  clear HO90
  have HO90 := n0_
  clear n0_
  have n0_ := jA ((hk1.out.2 gb11 (blk_lt BK91.out) (fun h_ => by have sHGgb1 := HGgb1.out; have sHS4 := HS4.out; have sHS6 := HS6.out; have sHS8 := HS8.out; have sHS10 := HS10.out; have sHS92 := HS92.out; have sHGgb11 := HGgb11.out; have sHLgb11 := HLgb11.out; have sHS94 := HS94.out; have sHS100 := HS100.out; have sHS106 := HS106.out; have sHGgb107 := HGgb107.out; have sHLgb107 := HLgb107.out; have sHS111 := HS111.out; have sHS113 := HS113.out; have sHS117 := HS117.out; have sHGgb122 := HGgb122.out; have sHLgb122 := HLgb122.out; have sHS126 := HS126.out; have sHS128 := HS128.out; have sHS130 := HS130.out; have sHS136 := HS136.out; have sHS138 := HS138.out; have sHS140 := HS140.out; have sHS146 := HS146.out; have sHS148 := HS148.out; have sHS150 := HS150.out; have sHS152 := HS152.out; have sHS154 := HS154.out; have sHS156 := HS156.out; have sHS158 := HS158.out; have sHS160 := HS160.out; have sHS242 := HS242.out; have sHGgb161 := HGgb161.out; have sHLgb161 := HLgb161.out; have sHS244 := HS244.out; omega)).trans BK91.out)
  clear BK91
  have BK91 := n0_
  clear n0_
  have n0_ := jA ((hk1.out.2 gb107 (blk_lt BK108.out) (fun h_ => by have sHGgb1 := HGgb1.out; have sHS4 := HS4.out; have sHS6 := HS6.out; have sHS8 := HS8.out; have sHS10 := HS10.out; have sHS92 := HS92.out; have sHGgb11 := HGgb11.out; have sHLgb11 := HLgb11.out; have sHS94 := HS94.out; have sHS100 := HS100.out; have sHS106 := HS106.out; have sHGgb107 := HGgb107.out; have sHLgb107 := HLgb107.out; have sHS111 := HS111.out; have sHS113 := HS113.out; have sHS117 := HS117.out; have sHGgb122 := HGgb122.out; have sHLgb122 := HLgb122.out; have sHS126 := HS126.out; have sHS128 := HS128.out; have sHS130 := HS130.out; have sHS136 := HS136.out; have sHS138 := HS138.out; have sHS140 := HS140.out; have sHS146 := HS146.out; have sHS148 := HS148.out; have sHS150 := HS150.out; have sHS152 := HS152.out; have sHS154 := HS154.out; have sHS156 := HS156.out; have sHS158 := HS158.out; have sHS160 := HS160.out; have sHS242 := HS242.out; have sHGgb161 := HGgb161.out; have sHLgb161 := HLgb161.out; have sHS244 := HS244.out; omega)).trans BK108.out)
  clear BK108
  have BK108 := n0_
  clear n0_
  have n0_ := jA (Kd.R_kept HO118.out hk1.out (fun k_ (h1_ : w_112.heap.size ≤ k_ ∧ k_ < w_114.heap.size) (h2_ : k_ = gb161) => by have sHGgb1 := HGgb1.out; have sHS4 := HS4.out; have sHS6 := HS6.out; have sHS8 := HS8.out; have sHS10 := HS10.out; have sHS92 := HS92.out; have sHGgb11 := HGgb11.out; have sHLgb11 := HLgb11.out; have sHS94 := HS94.out; have sHS100 := HS100.out; have sHS106 := HS106.out; have sHGgb107 := HGgb107.out; have sHLgb107 := HLgb107.out; have sHS111 := HS111.out; have sHS113 := HS113.out; have sHS117 := HS117.out; have sHGgb122 := HGgb122.out; have sHLgb122 := HLgb122.out; have sHS126 := HS126.out; have sHS128 := HS128.out; have sHS130 := HS130.out; have sHS136 := HS136.out; have sHS138 := HS138.out; have sHS140 := HS140.out; have sHS146 := HS146.out; have sHS148 := HS148.out; have sHS150 := HS150.out; have sHS152 := HS152.out; have sHS154 := HS154.out; have sHS156 := HS156.out; have sHS158 := HS158.out; have sHS160 := HS160.out; have sHS242 := HS242.out; have sHGgb161 := HGgb161.out; have sHLgb161 := HLgb161.out; have sHS244 := HS244.out; omega))
  clear HO118
  have HO118 := n0_
  clear n0_
  have n0_ := jA ((hk1.out.2 gb122 (blk_lt BK123.out) (fun h_ => by have sHGgb1 := HGgb1.out; have sHS4 := HS4.out; have sHS6 := HS6.out; have sHS8 := HS8.out; have sHS10 := HS10.out; have sHS92 := HS92.out; have sHGgb11 := HGgb11.out; have sHLgb11 := HLgb11.out; have sHS94 := HS94.out; have sHS100 := HS100.out; have sHS106 := HS106.out; have sHGgb107 := HGgb107.out; have sHLgb107 := HLgb107.out; have sHS111 := HS111.out; have sHS113 := HS113.out; have sHS117 := HS117.out; have sHGgb122 := HGgb122.out; have sHLgb122 := HLgb122.out; have sHS126 := HS126.out; have sHS128 := HS128.out; have sHS130 := HS130.out; have sHS136 := HS136.out; have sHS138 := HS138.out; have sHS140 := HS140.out; have sHS146 := HS146.out; have sHS148 := HS148.out; have sHS150 := HS150.out; have sHS152 := HS152.out; have sHS154 := HS154.out; have sHS156 := HS156.out; have sHS158 := HS158.out; have sHS160 := HS160.out; have sHS242 := HS242.out; have sHGgb161 := HGgb161.out; have sHLgb161 := HLgb161.out; have sHS244 := HS244.out; omega)).trans BK123.out)
  clear BK123
  have BK123 := n0_
  clear n0_
  have n0_ := jA (Kd.R_kept HO240.out hk1.out (fun k_ h1_ (h2_ : k_ = gb161) => h1_.2 h2_))
  clear HO240
  have HO240 := n0_
  clear n0_
  clear hk1
  have HWw_243 := jA HB.out.size
  have n0_ := jA (Kd.R_mono (ok' := fun k_ => w_159.heap.size ≤ k_ ∧ k_ < w_236.heap.size) HO240.out (fun k_ h_ => h_.1))
  clear HO240
  have HO240 := n0_
  clear n0_
  have hczgb1_0 : w_243.cell? ⟨gb1, 0, none⟩ = some (.int .i64 a1_0) := (jD BK2.out 0).trans rfl
  have hfzgb1_0 := jC BK2.out 0
  have hczgb1_1 : w_243.cell? ⟨gb1, 1, none⟩ = some (.slice A1_1 l1_1.length c1_1) := (jD BK2.out 1).trans rfl
  have hfzgb1_1 := jC BK2.out 1
  have hczgb11_0 : w_243.cell? ⟨gb11, 0, none⟩ = some (.int .i64 res_r1) := (jD BK91.out 0).trans rfl
  have hfzgb11_0 := jC BK91.out 0
  have hczgb11_1 : w_243.cell? ⟨gb11, 1, none⟩ = some (.slice Ao88 ws_r2.length co89) := (jD BK91.out 1).trans rfl
  have hfzgb11_1 := jC BK91.out 1
  have hczgb107_0 : w_243.cell? ⟨gb107, 0, none⟩ = some (.int .i64 a1_0) := (jD BK108.out 0).trans rfl
  have hfzgb107_0 := jC BK108.out 0
  have hczgb107_1 : w_243.cell? ⟨gb107, 1, none⟩ = some (.slice Ao103 xs1_1.length co105) := (jD BK108.out 1).trans rfl
  have hfzgb107_1 := jC BK108.out 1
  have hczgb122_0 : w_243.cell? ⟨gb122, 0, none⟩ = some (.int .i64 res_r1) := (jD BK123.out 0).trans rfl
  have hfzgb122_0 := jC BK123.out 0
  have hczgb122_1 : w_243.cell? ⟨gb122, 1, none⟩ = some (.slice Ao119 ml_2.length co120) := (jD BK123.out 1).trans rfl
  have hfzgb122_1 := jC BK123.out 1
  have hczgb161_0 : w_243.cell? ⟨gb161, 0, none⟩ = some (.int .i64 res_r1) := (jD BK241.out 0).trans rfl
  have hfzgb161_0 := jC BK241.out 0
  have hczgb161_1 : w_243.cell? ⟨gb161, 1, none⟩ = some (.slice Ao238 gs_r2.length co239) := (jD BK241.out 1).trans rfl
  have hfzgb161_1 := jC BK241.out 1
  go_wp2_with (fail)
  clear hczgb1_0 hfzgb1_0 hczgb1_1 hfzgb1_1 hczgb11_0 hfzgb11_0 hczgb11_1 hfzgb11_1 hczgb107_0 hfzgb107_0 hczgb107_1 hfzgb107_1 hczgb122_0 hfzgb122_0 hczgb122_1 hfzgb122_1 hczgb161_0 hfzgb161_0 hczgb161_1 hfzgb161_1
  go_at_call 19
  (with_reducible refine (laws_eqMagazine.calls k res_r1 _ _ gs_r2 res_r1 _ _ ws_r2 true _ ?side1 ?side2 ?side3 ?side4 HE_gs_r2_ws_r2.out).mono ?_)
  (case side1 => repeat (first | exact (jb HO240.out).2.2 | (with_reducible refine Kd.C_alloc ?_ _) | (with_reducible refine Kd.C_drewN ?_ _) | (with_reducible refine Kd.C_drew ?_)))
  (case side2 => exact (jb HO240.out).2.1)
  (case side3 => repeat (first | exact (jb HO90.out).2.2 | (with_reducible refine Kd.C_alloc ?_ _) | (with_reducible refine Kd.C_drewN ?_ _) | (with_reducible refine Kd.C_drew ?_)))
  (case side4 => exact (jb HO90.out).2.1)
  rintro e w_245 ⟨rfl, hb⟩
  have HBi := jA (jJ (zy) hb : Below w_243.heap.size w_243 w_245)
  clear hb
  have HBn := jA (jJ HB.out HBi.out)
  clear HB
  have HB := HBn
  clear HBn
  have HS246 := jA HBi.out.size
  have n0_ := jA (jO BK2.out HBi.out)
  clear BK2
  have BK2 := n0_
  clear n0_
  have n0_ := jA (Kd.R_below HO90.out HBi.out)
  clear HO90
  have HO90 := n0_
  clear n0_
  have n0_ := jA (jO BK91.out HBi.out)
  clear BK91
  have BK91 := n0_
  clear n0_
  have n0_ := jA (jO BK108.out HBi.out)
  clear BK108
  have BK108 := n0_
  clear n0_
  have n0_ := jA (Kd.R_below HO118.out HBi.out)
  clear HO118
  have HO118 := n0_
  clear n0_
  have n0_ := jA (jO BK123.out HBi.out)
  clear BK123
  have BK123 := n0_
  clear n0_
  have n0_ := jA (Kd.R_below HO240.out HBi.out)
  clear HO240
  have HO240 := n0_
  clear n0_
  have n0_ := jA (jO BK241.out HBi.out)
  clear BK241
  have BK241 := n0_
  clear n0_
  clear HBi
  have HWw_245 := jA HB.out.size
  have hczgb1_0 : w_245.cell? ⟨gb1, 0, none⟩ = some (.int .i64 a1_0) := (jD BK2.out 0).trans rfl
  have hfzgb1_0 := jC BK2.out 0
  have hczgb1_1 : w_245.cell? ⟨gb1, 1, none⟩ = some (.slice A1_1 l1_1.length c1_1) := (jD BK2.out 1).trans rfl
  have hfzgb1_1 := jC BK2.out 1
  have hczgb11_0 : w_245.cell? ⟨gb11, 0, none⟩ = some (.int .i64 res_r1) := (jD BK91.out 0).trans rfl
  have hfzgb11_0 := jC BK91.out 0
  have hczgb11_1 : w_245.cell? ⟨gb11, 1, none⟩ = some (.slice Ao88 ws_r2.length co89) := (jD BK91.out 1).trans rfl
  have hfzgb11_1 := jC BK91.out 1
  have hczgb107_0 : w_245.cell? ⟨gb107, 0, none⟩ = some (.int .i64 a1_0) := (jD BK108.out 0).trans rfl
  have hfzgb107_0 := jC BK108.out 0
  have hczgb107_1 : w_245.cell? ⟨gb107, 1, none⟩ = some (.slice Ao103 xs1_1.length co105) := (jD BK108.out 1).trans rfl
  have hfzgb107_1 := jC BK108.out 1
  have hczgb122_0 : w_245.cell? ⟨gb122, 0, none⟩ = some (.int .i64 res_r1) := (jD BK123.out 0).trans rfl
  have hfzgb122_0 := jC BK123.out 0
  have hczgb122_1 : w_245.cell? ⟨gb122, 1, none⟩ = some (.slice Ao119 ml_2.length co120) := (jD BK123.out 1).trans rfl
  have hfzgb122_1 := jC BK123.out 1
  have hczgb161_0 : w_245.cell? ⟨gb161, 0, none⟩ = some (.int .i64 res_r1) := (jD BK241.out 0).trans rfl
  have hfzgb161_0 := jC BK241.out 0
  have hczgb161_1 : w_245.cell? ⟨gb161, 1, none⟩ = some (.slice Ao238 gs_r2.length co239) := (jD BK241.out 1).trans rfl
  have hfzgb161_1 := jC BK241.out 1
  go_wp2_with (fail)
  clear hczgb1_0 hfzgb1_0 hczgb1_1 hfzgb1_1 hczgb11_0 hfzgb11_0 hczgb11_1 hfzgb11_1 hczgb107_0 hfzgb107_0 hczgb107_1 hfzgb107_1 hczgb122_0 hfzgb122_0 hczgb122_1 hfzgb122_1 hczgb161_0 hfzgb161_0 hczgb161_1 hfzgb161_1
  go_at_call 24
  (with_reducible refine (laws_heldMagazine.calls k res_r1 _ _ ml_2 101 mk_2 _ ?side1 ?side2 HH_ml_2.out).mono ?_)
  (case side1 => repeat (first | exact (jb HO118.out).2.2 | (with_reducible refine Kd.C_alloc ?_ _) | (with_reducible refine Kd.C_drewN ?_ _) | (with_reducible refine Kd.C_drew ?_)))
  (case side2 => exact (jb HO118.out).2.1)
  rintro e w_247 ⟨rfl, hb⟩
  have HBi := jA (jJ (zy) hb : Below w_245.heap.size w_245 w_247)
  clear hb
  have HBn := jA (jJ HB.out HBi.out)
  clear HB
  have HB := HBn
  clear HBn
  have HS248 := jA HBi.out.size
  have n0_ := jA (jO BK2.out HBi.out)
  clear BK2
  have BK2 := n0_
  clear n0_
  have n0_ := jA (Kd.R_below HO90.out HBi.out)
  clear HO90
  have HO90 := n0_
  clear n0_
  have n0_ := jA (jO BK91.out HBi.out)
  clear BK91
  have BK91 := n0_
  clear n0_
  have n0_ := jA (jO BK108.out HBi.out)
  clear BK108
  have BK108 := n0_
  clear n0_
  have n0_ := jA (Kd.R_below HO118.out HBi.out)
  clear HO118
  have HO118 := n0_
  clear n0_
  have n0_ := jA (jO BK123.out HBi.out)
  clear BK123
  have BK123 := n0_
  clear n0_
  have n0_ := jA (Kd.R_below HO240.out HBi.out)
  clear HO240
  have HO240 := n0_
  clear n0_
  have n0_ := jA (jO BK241.out HBi.out)
  clear BK241
  have BK241 := n0_
  clear n0_
  clear HBi
  have HWw_247 := jA HB.out.size
  have hn_ := HMN2.out
  have hczgb1_0 : w_247.cell? ⟨gb1, 0, none⟩ = some (.int .i64 a1_0) := (jD BK2.out 0).trans rfl
  have hfzgb1_0 := jC BK2.out 0
  have hczgb1_1 : w_247.cell? ⟨gb1, 1, none⟩ = some (.slice A1_1 l1_1.length c1_1) := (jD BK2.out 1).trans rfl
  have hfzgb1_1 := jC BK2.out 1
  have hczgb11_0 : w_247.cell? ⟨gb11, 0, none⟩ = some (.int .i64 res_r1) := (jD BK91.out 0).trans rfl
  have hfzgb11_0 := jC BK91.out 0
  have hczgb11_1 : w_247.cell? ⟨gb11, 1, none⟩ = some (.slice Ao88 ws_r2.length co89) := (jD BK91.out 1).trans rfl
  have hfzgb11_1 := jC BK91.out 1
  have hczgb107_0 : w_247.cell? ⟨gb107, 0, none⟩ = some (.int .i64 a1_0) := (jD BK108.out 0).trans rfl
  have hfzgb107_0 := jC BK108.out 0
  have hczgb107_1 : w_247.cell? ⟨gb107, 1, none⟩ = some (.slice Ao103 xs1_1.length co105) := (jD BK108.out 1).trans rfl
  have hfzgb107_1 := jC BK108.out 1
  have hczgb122_0 : w_247.cell? ⟨gb122, 0, none⟩ = some (.int .i64 res_r1) := (jD BK123.out 0).trans rfl
  have hfzgb122_0 := jC BK123.out 0
  have hczgb122_1 : w_247.cell? ⟨gb122, 1, none⟩ = some (.slice Ao119 ml_2.length co120) := (jD BK123.out 1).trans rfl
  have hfzgb122_1 := jC BK123.out 1
  have hczgb161_0 : w_247.cell? ⟨gb161, 0, none⟩ = some (.int .i64 res_r1) := (jD BK241.out 0).trans rfl
  have hfzgb161_0 := jC BK241.out 0
  have hczgb161_1 : w_247.cell? ⟨gb161, 1, none⟩ = some (.slice Ao238 gs_r2.length co239) := (jD BK241.out 1).trans rfl
  have hfzgb161_1 := jC BK241.out 1
  go_wp2_with (fail)
  clear hczgb1_0 hfzgb1_0 hczgb1_1 hfzgb1_1 hczgb11_0 hfzgb11_0 hczgb11_1 hfzgb11_1 hczgb107_0 hfzgb107_0 hczgb107_1 hfzgb107_1 hczgb122_0 hfzgb122_0 hczgb122_1 hfzgb122_1 hczgb161_0 hfzgb161_0 hczgb161_1 hfzgb161_1
  clear hn_
  go_wp2
  go_ret
  exact ⟨by first | rfl | (simp; done) | (simp [*]; done), zb0 HB⟩

/-- What is to be told of the answers, for the law to tell true. -/
structure laws_FnExactStorePieces.Facts (k : Nat) (l0 : List (S62)) (a1_0 : Int) (l1_1 : List Int) (a2 : ByteArray) (a3 : Int) (xs0 : List (S65)) (ext0 : List (S65)) (extb0 : List (S65)) (rm0 : Int) (xs1_1 : List Int) (ext1_1 : List Int) (extb1_1 : List Int) (rm1_1 : Int) (t_1 : Int) (t_2 : Int) (res_r1 : Int) (ws_r2 : List Int) (res_r3 : Int) (gs_r2 : List Int) (mk_0 : Int) (ml_0 : List (S65)) (mk_1 : Int) (ml_1 : List Int) (mk_2 : Int) (ml_2 : List Int) : Prop where
  hto0 : laws_toArticleSX.f k l0 false = some ext0
  htob0 : laws_toArticleSX.f k l0 true = some extb0
  hxl0 : xs0.length = l0.length
  hnb0 : extb0 = [] → l0.length = 0
  hne0 : ¬ (ext0 = [])
  hxe0 : xs0 = ext0.take xs0.length
  hxb0 : xs0 = extb0.take xs0.length
  hle0 : xs0.length ≤ ext0.length
  hlb0 : xs0.length ≤ extb0.length
  hrm0 : laws_roomBehind.f (xs0.length : Int) = some rm0
  hj0 : wrap64 ((xs0.length : Int) + rm0) = (ext0.length : Int)
  heqx0 : laws_eqArticleS.f k ext0 ext0 = some true
  hto1_1 : laws_toInt64SX.f k l1_1 false = some ext1_1
  htob1_1 : laws_toInt64SX.f k l1_1 true = some extb1_1
  hxl1_1 : xs1_1.length = l1_1.length
  hnb1_1 : extb1_1 = [] → l1_1.length = 0
  hne1_1 : ¬ (ext1_1 = [])
  hxe1_1 : xs1_1 = ext1_1.take xs1_1.length
  hxb1_1 : xs1_1 = extb1_1.take xs1_1.length
  hle1_1 : xs1_1.length ≤ ext1_1.length
  hlb1_1 : xs1_1.length ≤ extb1_1.length
  hrm1_1 : laws_roomBehind.f (xs1_1.length : Int) = some rm1_1
  hj1_1 : wrap64 ((xs1_1.length : Int) + rm1_1) = (ext1_1.length : Int)
  heqx1_1 : laws_eqInt64S.f k ext1_1 ext1_1 = some true
  hz1 : laws_szArticleS.f k l0 (wrap64 (1000000 - ((a2.size : Int)))) = some t_1
  hn1 : decide (t_1 < 0) = false
  hz2 : laws_szMagazine.f a1_0 l1_1 t_1 = some t_2
  hn2 : decide (t_2 < 0) = false
  hfspec : spec_StorePieces.f k xs0 a1_0 xs1_1 a2 a3 = some (res_r1, ws_r2, res_r3)
  hfimpl : impl_StorePieces.f k xs0 a1_0 xs1_1 a2 a3 = some (res_r1, gs_r2, res_r3)
  he_gs_r2_ws_r2 : laws_eqMagazine.f k res_r1 gs_r2 res_r1 ws_r2 = some true
  hm0 : laws_markArticleS.f k xs0 101 = some (mk_0, ml_0)
  hmn0 : decide (mk_0 < 0) = false
  hm1 : laws_markMagazine.f k a1_0 xs1_1 mk_0 = some (mk_1, ml_1)
  hmn1 : decide (mk_1 < 0) = false
  hm2 : laws_markMagazine.f k res_r1 gs_r2 101 = some (mk_2, ml_2)
  hmn2 : decide (mk_2 < 0) = false
  hml2 : gs_r2.length = ml_2.length
  hh_ml_2 : laws_heldMagazine.f k res_r1 ml_2 101 = some mk_2
/-- The statement over numbers and lists. -/
def laws_FnExactStorePieces.Pure : Prop := ∀ (l0 : List (S62)) (a1_0 : Int) (l1_1 : List Int) (a2 : ByteArray) (a3 : Int), (l0.length ≤ 140737488351232) → (l1_1.length ≤ 9223372036854775807) → ((Lit.int .i64 a1_0).wf = true) → (a2.size ≤ 140737488351232) → ((Lit.int .i64 a3).wf = true) → (∀ x ∈ l0, x.f0.size ≤ maxLen) → 
    (∃ k t_1, laws_szArticleS.f k l0 (wrap64 (1000000 - ((a2.size : Int)))) = some t_1 ∧ decide (t_1 < 0) = true) ∨
    (∃ k t_1 t_2, laws_szArticleS.f k l0 (wrap64 (1000000 - ((a2.size : Int)))) = some t_1 ∧ decide (t_1 < 0) = false ∧ laws_szMagazine.f a1_0 l1_1 t_1 = some t_2 ∧ decide (t_2 < 0) = true) ∨
    (∃ k xs0 ext0 extb0 rm0 xs1_1 ext1_1 extb1_1 rm1_1 t_1 t_2 res_r1 ws_r2 res_r3 gs_r2 mk_0 ml_0 mk_1 ml_1 mk_2 ml_2, laws_FnExactStorePieces.Facts k l0 a1_0 l1_1 a2 a3 xs0 ext0 extb0 rm0 xs1_1 ext1_1 extb1_1 rm1_1 t_1 t_2 res_r1 ws_r2 res_r3 gs_r2 mk_0 ml_0 mk_1 ml_1 mk_2 ml_2)

theorem laws_FnExactStorePieces.walk (P_ : laws_FnExactStorePieces.Pure) (A0 : Option Addr) (c0 : Nat) (l0 : List (S62)) (a1_0 : Int) (A1_1 : Option Addr) (c1_1 : Nat) (l1_1 : List Int) (a2 : ByteArray) (a3 : Int) (w : World) (hr0 : Kd.C k62 w A0 l0.length l0) (hc0 : l0.length ≤ c0) (hr1_1 : Kd.C (Kd.int .i64) w A1_1 l1_1.length l1_1) (hc1_1 : l1_1.length ≤ c1_1) (wa1_0 : (Lit.int .i64 a1_0).wf = true) (wa2 : a2.size ≤ 140737488351232) (wa3 : (Lit.int .i64 a3).wf = true) (wsl0 : ∀ x ∈ l0, x.f0.size ≤ maxLen) (wl0 : l0.length ≤ 140737488351232) :
    Calls Try.prog 12 #[.slice A0 l0.length c0, .agg #[.int .i64 a1_0, .slice A1_1 l1_1.length c1_1], .string a2, .int .i64 a3] w fun e w' => e = .returned (.bool true) ∧ Below w.heap.size w w' := by
  rcases P_ l0 a1_0 l1_1 a2 a3 wl0 (Kd.C_max hr1_1) wa1_0 wa2 wa3 wsl0 with ⟨k, t_1, h0_, h1_⟩ | ⟨k, t_1, t_2, h0_, h1_, h2_, h3_⟩ | ⟨k, xs0, ext0, extb0, rm0, xs1_1, ext1_1, extb1_1, rm1_1, t_1, t_2, res_r1, ws_r2, res_r3, gs_r2, mk_0, ml_0, mk_1, ml_1, mk_2, ml_2, F⟩
  · exact laws_FnExactStorePieces.skip1_ _ _ l0 a1_0 _ _ l1_1 a2 a3 w hr0 hc0 hr1_1 hc1_1 k t_1 h0_ h1_
  · exact laws_FnExactStorePieces.skip2_ _ _ l0 a1_0 _ _ l1_1 a2 a3 w hr0 hc0 hr1_1 hc1_1 k t_1 t_2 h0_ h1_ h2_ h3_
  · exact laws_FnExactStorePieces.true_ k _ _ l0 a1_0 _ _ l1_1 a2 a3 w hr0 hc0 hr1_1 hc1_1 xs0 ext0 extb0 rm0 xs1_1 ext1_1 extb1_1 rm1_1 t_1 t_2 res_r1 ws_r2 res_r3 gs_r2 mk_0 ml_0 mk_1 ml_1 mk_2 ml_2 F.hto0 F.htob0 F.hxl0 F.hnb0 F.hne0 F.hxe0 F.hxb0 F.hle0 F.hlb0 F.hrm0 F.hj0 F.heqx0 F.hto1_1 F.htob1_1 F.hxl1_1 F.hnb1_1 F.hne1_1 F.hxe1_1 F.hxb1_1 F.hle1_1 F.hlb1_1 F.hrm1_1 F.hj1_1 F.heqx1_1 F.hz1 F.hn1 F.hz2 F.hn2 F.hfspec F.hfimpl F.he_gs_r2_ws_r2 F.hm0 F.hmn0 F.hm1 F.hmn1 F.hm2 F.hmn2 F.hml2 F.hh_ml_2

end Go.Proofs.Ytdgglhfnlljmeaa.PFnExactStorePieces
