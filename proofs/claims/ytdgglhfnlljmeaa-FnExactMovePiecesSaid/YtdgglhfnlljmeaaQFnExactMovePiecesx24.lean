/- FnExactMovePieces: the parts of the law that look behind a row's length, and its ways aside. -/
import Derived.Test.YtdgglhfnlljmeaaQFnExactMovePiecesx23
namespace Go.Proofs.Ytdgglhfnlljmeaa.PFnExactMovePieces
open Go.RowKit Go.Proofs.YtdgglhfnlljmeaaW.PrintWords Go.Proofs.YtdgglhfnlljmeaaW.PrintLast Go.Proofs.YtdgglhfnlljmeaaW.PrintMore
attribute [local go_sem] max2_int min2_int max_two min_two max_three min_three max_four min_four   -- for this text's walks alone
set_option linter.unusedVariables false
set_option linter.unusedSimpArgs false
open Go.Proofs.YtdgglhfnlljmeaaX

/-! ### laws_intactArticleS, over rows with what lies behind their lengths: function 20 -/
def laws_intactArticleS.T2 : Bool × List (List Nat × List Nat) := (true, [([], []), ([0], [0]), ([], []), ([2], [2]), ([1, 3], [1, 3]), ([4], [4]), ([5], [5]), ([5], [5]), ([6, 7, 5], [5, 6, 7]), ([5], [5]), ([5], [5]), ([9, 10, 5], [5, 9, 10]), ([8, 11, 5, 5], [5, 8, 11]), ([5, 12], [5, 12]), ([13, 12, 0, 1, 2, 3, 4, 5, 6, 7, 8, 9, 10, 11, 12, 13], [13])])
def laws_intactArticleS.B2 : List Nat := [0, 1, 0, 4, 15, 31, 63, 63, 255, 63, 63, 1599, 4095, 8191, 16383]
theorem laws_intactArticleS.tab2 : rtab .any (opsOf Try.f20 2) = laws_intactArticleS.T2 := by kernel_rfl
theorem laws_intactArticleS.bits2 : waitsOk laws_intactArticleS.T2.2 laws_intactArticleS.B2 = true := by kernel_rfl
set_option maxHeartbeats 8000000 in
set_option maxRecDepth 100000 in
theorem laws_intactArticleSX.calls (k : Nat) (A0 : Option Addr) (c0 : Nat) (l0 : List (S65)) (A1 : Option Addr) (c1 : Nat) (l1 : List (S65)) (n0 : Nat) (rm : Int) (r : Bool) (w : World) (hr0 : Kd.C k65 w A0 l0.length l0) (hc0 : l0.length ≤ c0) (hr1 : Kd.C k65 w A1 l1.length l1) (hc1 : l1.length ≤ c1) (hrm : laws_roomBehind.f (n0 : Int) = some rm) (hj : wrap64 ((n0 : Int) + rm) = (l0.length : Int)) (hl : l1.length = l0.length) (h : laws_eqArticleS.f k l0 l1 = some r) :
  Calls Try.prog 20 #[.slice A0 n0 c0, .slice A1 n0 c1] w fun e w' => e = .returned (.bool r) ∧ Below w.heap.size w w' := by
 have HR0 := jA hr0
 have HR1 := jA hr1
 have HC0 := jA hc0
 have HC1 := jA hc1
 have HL := jA hl
 clear hr0 hr1 hc0 hc1 hl
 have HB := jA (Below.refl w.heap.size w)
 obtain ⟨ji5, hji5⟩ : ∃ j_ : Int, j_ = (l0.length : Int) := ⟨_, rfl⟩
 rw [← hji5] at hj
 have HJ := jA hji5
 have hji5w : (IntKind.i64.wrap ((n0 : Int) + rm)) = ji5 := (i64_w _).trans hj
 clear hji5
 have A3 := jA hrm
 have A10 := jA h
 clear hrm h
 go_enter Try.func20, Try.ntmps20
 try go_wp2_with (first | (go_at_call 48; (with_reducible refine (laws_roomBehind.calls (n0 : Int) rm _ A3.out).mono ?_); rintro e w' ⟨rfl, ⟨nd, rfl⟩⟩))
 replace HB := jA (jR (pw_below_drewN HB.out nd))
 obtain ⟨i0, hi0, _, hsz0, _⟩ := info_parts info65
 have hcut0 := cut_cap (P := Try.prog) 31 65 .i64 Try.underlying31 hi0 A0 n0 c0 l0.length ji5 HJ.out HC0.out
 have hcut1 := cut_cap (P := Try.prog) 31 65 .i64 Try.underlying31 hi0 A1 n0 c1 l1.length ji5 (HJ.out.trans (by rw [HL.out])) HC1.out
 clear hi0 hsz0
 refine start_ (n := 15) (S := fun w' => True) (ds := []) #[false, false, false, false, false, false, false, false, false, false, false, false, false, false, false] zr rfl rfl trivial (fun hHeld => ?_); refine with_tabW laws_intactArticleS.tab2 laws_intactArticleS.bits2 (fun HT_ HW_ => ?_)
 try generalize (w.drewN nd).drew = w11 at HB hHeld ⊢
 refine zp HT_ 0 12 #[true, false, false, false, false, false, false, false, false, false, false, false, false, false, false] ?_
 refine zp HT_ 1 13 #[true, true, false, false, false, false, false, false, false, false, false, false, false, false, false] ?_
 refine zp HT_ 2 14 #[true, true, true, false, false, false, false, false, false, false, false, false, false, false, false] ?_
 refine zp HT_ 3 15 #[true, true, true, true, false, false, false, false, false, false, false, false, false, false, false] ?_
 refine zp HT_ 4 16 #[true, true, true, true, true, false, false, false, false, false, false, false, false, false, false] ?_
 refine zp HT_ 5 17 #[true, true, true, true, true, true, false, false, false, false, false, false, false, false, false] ?_
 refine zp HT_ 6 18 #[true, true, true, true, true, true, true, false, false, false, false, false, false, false, false] ?_
 refine zp HT_ 7 19 #[true, true, true, true, true, true, true, true, false, false, false, false, false, false, false] ?_
 refine zp HT_ 8 20 #[true, true, true, true, true, true, true, true, true, false, false, false, false, false, false] ?_
 refine zp HT_ 9 21 #[true, true, true, true, true, true, true, true, true, true, false, false, false, false, false] ?_
 refine zp HT_ 10 22 #[true, true, true, true, true, true, true, true, true, true, true, false, false, false, false] ?_
 refine zp HT_ 11 23 #[true, true, true, true, true, true, true, true, true, true, true, true, false, false, false] ?_
 refine one_ (i := 12) (N := some 24) #[true, true, true, true, true, true, true, true, true, true, true, true, true, false, false] rfl rfl (one_of HT_.out zr) (by decide) (fun K hK => ?_)
 refine goes_ Try.func53 zr rfl #[.slice A0 l0.length c0, .slice A1 l1.length c1] (by rfl) rfl rfl zm ?_
 with_reducible refine (laws_eqArticleS.calls k _ _ l0 _ _ l1 r _ ?side1 ?side2 ?side3 ?side4 A10.out).mono ?_
 (case side1 => exact zs HR0 HB)
 (case side2 => exact HC0.out)
 (case side3 => exact zs HR1 HB)
 (case side4 => exact HC1.out)
 rintro e w14 ⟨rfl, hd⟩
 have hb : Below _ _ w14 := hd
 refine ⟨_, rfl, ?_⟩
 replace HB := jA (below_step (zr4 HB) hb)
 clear hb hd
 refine hK.out _ _ trivial (fun hHeld => ?_)
 clear hK K
 refine norm_ (a' := ?_) ?_ ?_
 rotate_left
 ·show Act.put _ (some 24) _ = _
  simp only [Act.put, jC, jE, jF, i64_w, i32_w]
  rfl
 refine zp HT_ 13 25 #[true, true, true, true, true, true, true, true, true, true, true, true, true, true, false] ?_
 refine zp HT_ 14 4 #[true, true, true, true, true, true, true, true, true, true, true, true, true, true, true] ?_
 refine done_ (done_of HT_.out zr) ?_
 try go_wp2
 go_ret
 exact ⟨ze, zb0 HB⟩
/-! ### laws_intactInt64S, over rows with what lies behind their lengths: function 54 -/
set_option maxHeartbeats 8000000 in
set_option maxRecDepth 100000 in
theorem laws_intactInt64SX.calls (k : Nat) (A0 : Option Addr) (c0 : Nat) (l0 : List Int) (A1 : Option Addr) (c1 : Nat) (l1 : List Int) (n0 : Nat) (rm : Int) (r : Bool) (w : World) (hr0 : Kd.C (Kd.int .i64) w A0 l0.length l0) (hc0 : l0.length ≤ c0) (hr1 : Kd.C (Kd.int .i64) w A1 l1.length l1) (hc1 : l1.length ≤ c1) (hrm : laws_roomBehind.f (n0 : Int) = some rm) (hj : wrap64 ((n0 : Int) + rm) = (l0.length : Int)) (hl : l1.length = l0.length) (h : laws_eqInt64S.f k l0 l1 = some r) :
  Calls Try.prog 54 #[.slice A0 n0 c0, .slice A1 n0 c1] w fun e w' => e = .returned (.bool r) ∧ Below w.heap.size w w' := by
 have HR0 := jA hr0
 have HR1 := jA hr1
 have HC0 := jA hc0
 have HC1 := jA hc1
 have HL := jA hl
 clear hr0 hr1 hc0 hc1 hl
 obtain ⟨ji5, hji5⟩ : ∃ j_ : Int, j_ = (l0.length : Int) := ⟨_, rfl⟩
 rw [← hji5] at hj
 have HJ := jA hji5
 have hji5w : (IntKind.i64.wrap ((n0 : Int) + rm)) = ji5 := (i64_w _).trans hj
 clear hji5
 have A3 := jA hrm
 have A10 := jA h
 clear hrm h
 obtain ⟨i0, hi0, _, hsz0, _⟩ := info_parts info2
 have hcut0 := cut_cap (P := Try.prog) 23 2 .i64 Try.underlying23 hi0 A0 n0 c0 l0.length ji5 HJ.out HC0.out
 have hcut1 := cut_cap (P := Try.prog) 23 2 .i64 Try.underlying23 hi0 A1 n0 c1 l1.length ji5 (HJ.out.trans (by rw [HL.out])) HC1.out
 clear hi0 hsz0
 go_enter Try.func54, Try.ntmps54
 go_wp2_with (first | (go_at_call 48; (with_reducible refine (laws_roomBehind.calls (n0 : Int) rm _ A3.out).mono ?_); rintro e w' ⟨rfl, ⟨nd, rfl⟩⟩; (try first | exact ⟨rfl, _, World.drewN_drewN _ _ _⟩ | exact ⟨rfl, _, Eq.trans (World.drewN_drewN _ _ _) (congrArg (World.drewN _) (Nat.add_assoc _ _ _))⟩)) | (go_at_call 52; (with_reducible refine (laws_eqInt64S.calls k _ _ l0 _ _ l1 r _ ?side1 ?side2 ?side3 ?side4 A10.out).mono ?_); (case side1 => repeat (first | exact HR0.out | (with_reducible refine Kd.C_alloc ?_ _) | (with_reducible refine Kd.C_drewN ?_ _) | (with_reducible refine Kd.C_drew ?_))); (case side2 => exact HC0.out); (case side3 => repeat (first | exact HR1.out | (with_reducible refine Kd.C_alloc ?_ _) | (with_reducible refine Kd.C_drewN ?_ _) | (with_reducible refine Kd.C_drew ?_))); (case side4 => exact HC1.out); rintro e w' ⟨rfl, ⟨nd, rfl⟩⟩; (try first | exact ⟨rfl, _, World.drewN_drewN _ _ _⟩ | exact ⟨rfl, _, Eq.trans (World.drewN_drewN _ _ _) (congrArg (World.drewN _) (Nat.add_assoc _ _ _))⟩)))
 repeat (go_quiet (first | (go_at_call 48; (with_reducible refine (laws_roomBehind.calls (n0 : Int) rm _ A3.out).mono ?_); rintro e w' ⟨rfl, ⟨nd, rfl⟩⟩; (try first | exact ⟨rfl, _, World.drewN_drewN _ _ _⟩ | exact ⟨rfl, _, Eq.trans (World.drewN_drewN _ _ _) (congrArg (World.drewN _) (Nat.add_assoc _ _ _))⟩)) | (go_at_call 52; (with_reducible refine (laws_eqInt64S.calls k _ _ l0 _ _ l1 r _ ?side1 ?side2 ?side3 ?side4 A10.out).mono ?_); (case side1 => repeat (first | exact HR0.out | (with_reducible refine Kd.C_alloc ?_ _) | (with_reducible refine Kd.C_drewN ?_ _) | (with_reducible refine Kd.C_drew ?_))); (case side2 => exact HC0.out); (case side3 => repeat (first | exact HR1.out | (with_reducible refine Kd.C_alloc ?_ _) | (with_reducible refine Kd.C_drewN ?_ _) | (with_reducible refine Kd.C_drew ?_))); (case side4 => exact HC1.out); rintro e w' ⟨rfl, ⟨nd, rfl⟩⟩; (try first | exact ⟨rfl, _, World.drewN_drewN _ _ _⟩ | exact ⟨rfl, _, Eq.trans (World.drewN_drewN _ _ _) (congrArg (World.drewN _) (Nat.add_assoc _ _ _))⟩))); try go_wp2_with (first | (go_at_call 48; (with_reducible refine (laws_roomBehind.calls (n0 : Int) rm _ A3.out).mono ?_); rintro e w' ⟨rfl, ⟨nd, rfl⟩⟩; (try first | exact ⟨rfl, _, World.drewN_drewN _ _ _⟩ | exact ⟨rfl, _, Eq.trans (World.drewN_drewN _ _ _) (congrArg (World.drewN _) (Nat.add_assoc _ _ _))⟩)) | (go_at_call 52; (with_reducible refine (laws_eqInt64S.calls k _ _ l0 _ _ l1 r _ ?side1 ?side2 ?side3 ?side4 A10.out).mono ?_); (case side1 => repeat (first | exact HR0.out | (with_reducible refine Kd.C_alloc ?_ _) | (with_reducible refine Kd.C_drewN ?_ _) | (with_reducible refine Kd.C_drew ?_))); (case side2 => exact HC0.out); (case side3 => repeat (first | exact HR1.out | (with_reducible refine Kd.C_alloc ?_ _) | (with_reducible refine Kd.C_drewN ?_ _) | (with_reducible refine Kd.C_drew ?_))); (case side4 => exact HC1.out); rintro e w' ⟨rfl, ⟨nd, rfl⟩⟩; (try first | exact ⟨rfl, _, World.drewN_drewN _ _ _⟩ | exact ⟨rfl, _, Eq.trans (World.drewN_drewN _ _ _) (congrArg (World.drewN _) (Nat.add_assoc _ _ _))⟩))))
 go_ret
 exact ⟨by first | rfl | (simp; done) | (simp [*]; done), by repeat (first | (with_reducible first | exact Below.refl _ _ | apply below_alloc | apply pw_below_drewN | apply jR) | exact Below.refl _ _)⟩
/-! ### laws_intactMagazine, over the row with what lies behind its length: function 21 -/
set_option maxHeartbeats 8000000 in
set_option maxRecDepth 100000 in
theorem laws_intactMagazineX.calls (k : Nat) (a0_0 : Int) (A0_1 : Option Addr) (c0_1 : Nat) (l0_1 : List Int) (A1_1 : Option Addr) (c1_1 : Nat) (l1_1 : List Int) (n0 : Nat) (rm : Int) (w : World) (hr0_1 : Kd.C (Kd.int .i64) w A0_1 l0_1.length l0_1) (hc0_1 : l0_1.length ≤ c0_1) (hr1_1 : Kd.C (Kd.int .i64) w A1_1 l1_1.length l1_1) (hc1_1 : l1_1.length ≤ c1_1) (hrm : laws_roomBehind.f (n0 : Int) = some rm) (hj : wrap64 ((n0 : Int) + rm) = (l0_1.length : Int)) (hl : l1_1.length = l0_1.length) (h : laws_eqInt64S.f k l0_1 l1_1 = some true) :
  Calls Try.prog 21 #[.agg #[.int .i64 a0_0, .slice A0_1 n0 c0_1], .agg #[.int .i64 a0_0, .slice A1_1 n0 c1_1]] w fun e w' => e = .returned (.bool true) ∧ Below w.heap.size w w' := by
 have hu28 := Try.underlying28
 have HR0_1 := jA hr0_1
 have HC0_1 := jA hc0_1
 have HR1_1 := jA hr1_1
 have HC1_1 := jA hc1_1
 clear hr0_1 hc0_1 hr1_1 hc1_1
 have HRM := jA hrm
 have HJ := jA hj
 have HL := jA hl
 have A4 := jA h
 clear hrm hj hl h
 have HB := jA (Below.refl w.heap.size w)
 have c3b1 : (a0_0 != a0_0) = false := bne_self_eq_false _
 have c3b0 : (a0_0 == a0_0) = true := beq_self_eq_true _
 go_enter Try.func21, Try.ntmps21
 go_wp2_with (first | ((with_reducible refine jJ (N := 2) rfl ?_); refine zE 2 #[.int .i64 a0_0, .slice A0_1 n0 c0_1] 28 ?_; intro gb361 hg w6 hbox hb; have BK361 := jA (hbox); have GW361 := zg0 hg HB; have GE361 := zg0 hg HB; replace HB := zS0 HB hb; clear hb hbox hg) | ((with_reducible refine jJ (N := 3) rfl ?_); refine zE 3 #[.int .i64 a0_0, .slice A1_1 n0 c1_1] 28 ?_; intro gb362 hg w7 hbox hb; have BK362 := jA (hbox); have GW362 := zg1 hg HB GE361; have GE362 := zg1 hg HB GE361; replace HB := zS1 HB GE361 hb; have NB361_362 := zn hg BK361; replace BK361 := zB BK361 hb; have NB362_361 := jA NB361_362.out.symm; clear hb hbox hg; have hnb8 := NB361_362.out; have hnc8 := NB362_361.out; have hcz9 := zc2 BK361; have hcz10 := zc2 BK362) | ((with_reducible refine jK (f := 54) rfl ?_); refine zL (some 14) Try.func54 #[.slice A0_1 n0 c0_1, .slice A1_1 n0 c1_1] ?_; (with_reducible refine (laws_intactInt64SX.calls k _ _ l0_1 _ _ l1_1 n0 rm true _ ?side1 ?side2 ?side3 ?side4 HRM.out HJ.out HL.out A4.out).mono ?_); (case side1 => repeat (first | exact (Kd.C_below HR0_1.out HB.out) | (with_reducible refine Kd.C_alloc ?_ _) | (with_reducible refine Kd.C_drewN ?_ _) | (with_reducible refine Kd.C_drew ?_))); (case side2 => exact HC0_1.out); (case side3 => repeat (first | exact (Kd.C_below HR1_1.out HB.out) | (with_reducible refine Kd.C_alloc ?_ _) | (with_reducible refine Kd.C_drewN ?_ _) | (with_reducible refine Kd.C_drew ?_))); (case side4 => exact HC1_1.out); rintro e w9_ ⟨rfl, hb⟩; refine ⟨_, rfl, ?_⟩; replace HB := zS1 HB GE361 hb; clear hb))
 go_ret
 exact ⟨ze, zb2 HB GE361 GE362⟩

theorem putN {P : Program} {ops : Array Oper} {Q : Exit → Act → World → Prop} {md : Region.Mode} {S : World → Prop} {ds : List Nat} {fuel : Nat} {l : Array Bool} {a a' : Act} {w : World} {v : Value} (N : Tmp) (h : wpAnyLast P md ops Q S ds fuel l a' w) (ha : a.put (some N) v = a' := by simp only [Act.put, jC, jE, jF, i64_w, i32_w]; rfl) : wpAnyLast P md ops Q S ds fuel l (a.put (some N) v) w := norm_ ha h
theorem putsN {P : Program} {ops : Array Oper} {Q : Exit → Act → World → Prop} {md : Region.Mode} {S : World → Prop} {ds : List Nat} {fuel : Nat} {l : Array Bool} {a a' : Act} {w : World} (h : wpAnyLast P md ops Q S ds fuel l a' w) (ha : a = a' := by simp only [putAll, Act.put, jC, jE, jF]; rfl) : wpAnyLast P md ops Q S ds fuel l a w := norm_ ha h
theorem putsJ {P : Program} {ops : Array Oper} {Q : Exit → Act → World → Prop} {md : Region.Mode} {S : World → Prop} {ds : List Nat} {fuel : Nat} {l : Array Bool} {a a' : Act} {w : World} (h : wpAnyLast P md ops Q S ds fuel l a' w) (ha : a = a' := by simp only [putAll, Act.put, jC, jE, jF]) : wpAnyLast P md ops Q S ds fuel l a w := norm_ ha h
theorem boxN {P : Program} {ops : Array Oper} {Q : Exit → Act → World → Prop} {Kc : Act → World → Prop} {o : Oper} {a : Act} {W : World} (N : Tmp) (cs : Array Value) (t : TypeId) (h : ∀ g, g = W.heap.size → ∀ w1, w1.heap[g]? = some (.cells cs t (0, 0)) → Below W.heap.size W w1 → Kc (a.put o.dst (.pointer (some ⟨g, 0, none⟩))) w1) (hd : o.dst = some N := by rfl) (hw : Region.wanted o (yielded ops a.tmps) = true := by rfl) (hrun : (execOp a.eval o).run P W = .ok (.value (.pointer (some ⟨W.heap.size, 0, none⟩))) (W.alloc (.cells cs t (0, 0))) := by first | (go_simp; done) | (go_simp; rfl)) : if Region.wanted o (yielded ops a.tmps) = true then Oper.wp P o a W Kc Q else Kc (a.put o.dst undef) W := box_step hw hd hrun h
theorem joinN {P : Program} {ops : Array Oper} {Q : Exit → Act → World → Prop} {md : Region.Mode} {S : World → Prop} {ds : List Nat} {σ : Type} {fuel : Nat} {l : Array Bool} {a : Act} {w : World} (fuel' : Nat) (l' : Array Bool) (ns : σ → List (Tmp × Value)) (F : σ → World → Prop) (h : (∀ s w', F s w' → wpAnyLast P md ops Q S ds fuel' l' (putAll a (ns s)) w') → wpAnyLast P md ops Q S ds fuel l a w) (hcont : ∀ s w', F s w' → wpAnyLast P md ops Q S ds fuel' l' (putAll a (ns s)) w') : wpAnyLast P md ops Q S ds fuel l a w := join_ fuel' l' ns F hcont h
theorem latT {p q : Prop} (H : Aside0 q) (h : q → p := by intro h_; (with_reducible repeat (first | apply Kd.R_alloc | apply Kd.R_drewN | apply Kd.R_drew)); exact Kd.R_mono h_ (fun _ _ => trivial)) : p := h H.out
theorem latP {p q : Prop} (H : Aside0 q) (h : q → p := by intro h_; (with_reducible repeat (first | apply Kd.R_alloc | apply Kd.R_drewN | apply Kd.R_drew)); refine Kd.R_mono h_ (fun k_ q_ => ⟨?_, q_.2⟩); have r_ := q_.1; (try dsimp only); omega) : p := h H.out
def laws_FnExactMovePieces.T11 : Bool × List (List Nat × List Nat) := (true, [([], []), ([0], [0]), ([], []), ([2, 1], [2]), ([], []), ([4, 3], [4]), ([], []), ([], []), ([1, 3, 5, 6, 7, 5], [1, 3, 5, 6, 7]), ([8], [8]), ([9], [9]), ([9], [9]), ([9], [9]), ([], []), ([], []), ([13, 10, 8, 0, 1, 2, 3, 4, 5, 6, 7, 8, 9, 10, 13, 14], [10, 13]), ([14, 11, 15, 0, 1, 2, 3, 4, 5, 6, 7, 8, 9, 10, 11, 13, 14, 15], [11, 14]), ([12, 16, 0, 1, 2, 3, 4, 5, 6, 7, 8, 9, 10, 11, 12, 13, 14, 15, 16], [12])])
def laws_FnExactMovePieces.B11 : List Nat := [0, 1, 0, 7, 0, 31, 0, 0, 255, 511, 1023, 1023, 1023, 0, 0, 26623, 61439, 131071]
theorem laws_FnExactMovePieces.tab11 : rtab .any (opsOf Try.f3 11) = laws_FnExactMovePieces.T11 := by kernel_rfl
theorem laws_FnExactMovePieces.bits11 : waitsOk laws_FnExactMovePieces.T11.2 laws_FnExactMovePieces.B11 = true := by kernel_rfl
def laws_FnExactMovePieces.T42 : Bool × List (List Nat × List Nat) := (true, [([], []), ([0], [0]), ([], []), ([2, 1], [2]), ([], []), ([4, 3], [4]), ([], []), ([], []), ([1, 3, 5, 6, 7, 5], [1, 3, 5, 6, 7]), ([8], [8]), ([9], [9]), ([9], [9]), ([9], [9]), ([], []), ([], []), ([13, 10, 8, 0, 1, 2, 3, 4, 5, 6, 7, 8, 9, 10, 13, 14], [10, 13]), ([14, 11, 15, 0, 1, 2, 3, 4, 5, 6, 7, 8, 9, 10, 11, 13, 14, 15], [11, 14]), ([12, 16, 0, 1, 2, 3, 4, 5, 6, 7, 8, 9, 10, 11, 12, 13, 14, 15, 16], [12])])
def laws_FnExactMovePieces.B42 : List Nat := [0, 1, 0, 7, 0, 31, 0, 0, 255, 511, 1023, 1023, 1023, 0, 0, 26623, 61439, 131071]
theorem laws_FnExactMovePieces.tab42 : rtab .any (opsOf Try.f3 42) = laws_FnExactMovePieces.T42 := by kernel_rfl
theorem laws_FnExactMovePieces.bits42 : waitsOk laws_FnExactMovePieces.T42.2 laws_FnExactMovePieces.B42 = true := by kernel_rfl
set_option maxHeartbeats 8000000 in
set_option maxRecDepth 100000 in
theorem laws_FnExactMovePieces.skip1_ (A0 : Option Addr) (c0 : Nat) (l0 : List (S62)) (a1_0 : Int) (A1_1 : Option Addr) (c1_1 : Nat) (l1_1 : List Int) (a2_0 : Int) (A2_1 : Option Addr) (c2_1 : Nat) (l2_1 : List Int) (a3 : ByteArray) (a4 : Int) (w : World) (hr0 : Kd.C k62 w A0 l0.length l0) (hc0 : l0.length ≤ c0) (hr1_1 : Kd.C (Kd.int .i64) w A1_1 l1_1.length l1_1) (hc1_1 : l1_1.length ≤ c1_1) (hr2_1 : Kd.C (Kd.int .i64) w A2_1 l2_1.length l2_1) (hc2_1 : l2_1.length ≤ c2_1) (k : Nat) (t_1 : Int) (hz1_ : laws_szArticleS.f k l0 (wrap64 (1000000 - ((a3.size : Int)))) = some t_1) (hn_ : decide (t_1 < 0) = true) :
  Calls Try.prog 3 #[.slice A0 l0.length c0, .agg #[.int .i64 a1_0, .slice A1_1 l1_1.length c1_1], .agg #[.int .i64 a2_0, .slice A2_1 l2_1.length c2_1], .string a3, .int .i64 a4] w fun e w' => e = .returned (.bool true) ∧ Below w.heap.size w w' := by
 have HR0 := jA hr0
 have HC0 := jA hc0
 have HR1_1 := jA hr1_1
 have HC1_1 := jA hc1_1
 have HR2_1 := jA hr2_1
 have HC2_1 := jA hc2_1
 clear hr0 hc0 hr1_1 hc1_1 hr2_1 hc2_1
 have HZ1 := jA hz1_
 have HN := jA hn_
 clear hz1_ hn_
 have HB := jA (Below.refl w.heap.size w)
 go_enter Try.func3, Try.ntmps3
 go_wp2_with (first | ((with_reducible refine jJ (N := 6) rfl ?_); refine zE 6 #[.int .i64 a1_0, .slice A1_1 l1_1.length c1_1] 25 ?_; intro gb1 hg_ w_3 hbox hb; have BK2 := jA hbox; have HGgb1 : Aside0 (gb1 < w_3.heap.size) := ⟨blk_lt hbox⟩; have HLgb1 : Aside0 (w.heap.size ≤ gb1) := ⟨by rw [hg_]; exact Nat.le_refl _⟩; have hbA0_ := jA hb; clear hbox hg_ hb) | ((with_reducible refine jJ (N := 7) rfl ?_); refine zE 7 #[.int .i64 a2_0, .slice A2_1 l2_1.length c2_1] 25 ?_; intro gb4 hg_ w_6 hbox hb; have BK5 := jA hbox; have HGgb4 : Aside0 (gb4 < w_6.heap.size) := ⟨blk_lt hbox⟩; have HLgb4 : Aside0 (w_3.heap.size ≤ gb4) := ⟨by rw [hg_]; exact Nat.le_refl _⟩; have hbA1_ := jA hb; clear hbox hg_ hb))
 have hb := hbA0_.out
 clear hbA0_
 have HBi := jA (below_step (by repeat (first | (with_reducible first | exact Below.refl _ _ | apply below_alloc | apply pw_below_drewN | apply jR) | exact Below.refl _ _)) hb : Below w.heap.size w w_3)
 clear hb
 have HBn := jA (below_step HB.out HBi.out)
 clear HB
 have HB := HBn
 clear HBn
 have HS7 := jA HBi.out.size
 clear HBi
 have HWw_3 := jA HB.out.size
 have hb := hbA1_.out
 clear hbA1_
 have HBi := jA (below_step (by repeat (first | (with_reducible first | exact Below.refl _ _ | apply below_alloc | apply pw_below_drewN | apply jR) | exact Below.refl _ _)) hb : Below w_3.heap.size w_3 w_6)
 clear hb
 have HBn := jA (below_step HB.out HBi.out)
 clear HB
 have HB := HBn
 clear HBn
 have HS8 := jA HBi.out.size
 replace BK2 := jA (jO BK2.out HBi.out)
 clear HBi
 have HWw_6 := jA HB.out.size
 have hcz1 := zc2 BK2
 have hcz4 := zc2 BK5
 go_wp2_with (fail)
 try clear hcz1
 try clear hcz4
 go_at_call 13
 (with_reducible refine (laws_szArticleS.calls k _ _ l0 (wrap64 (1000000 - ((a3.size : Int)))) t_1 _ ?side1 ?side2 HZ1.out).mono ?_)
 (case side1 => exact zs HR0 HB)
 (case side2 => exact HC0.out)
 rintro e w_9 ⟨rfl, hb⟩
 have HBi := jA (below_step (by repeat (first | (with_reducible first | exact Below.refl _ _ | apply below_alloc | apply pw_below_drewN | apply jR) | exact Below.refl _ _)) hb : Below w_6.heap.size w_6 w_9)
 clear hb
 have HBn := jA (below_step HB.out HBi.out)
 clear HB
 have HB := HBn
 clear HBn
 have HS10 := jA HBi.out.size
 replace BK2 := jA (jO BK2.out HBi.out)
 replace BK5 := jA (jO BK5.out HBi.out)
 clear HBi
 have HWw_9 := jA HB.out.size
 have hn_ := HN.out
 go_wp2
 go_ret
 exact ⟨by first | rfl | (simp; done) | (simp [*]; done), zb0 HB⟩

set_option maxHeartbeats 8000000 in
set_option maxRecDepth 100000 in
theorem laws_FnExactMovePieces.skip2_ (A0 : Option Addr) (c0 : Nat) (l0 : List (S62)) (a1_0 : Int) (A1_1 : Option Addr) (c1_1 : Nat) (l1_1 : List Int) (a2_0 : Int) (A2_1 : Option Addr) (c2_1 : Nat) (l2_1 : List Int) (a3 : ByteArray) (a4 : Int) (w : World) (hr0 : Kd.C k62 w A0 l0.length l0) (hc0 : l0.length ≤ c0) (hr1_1 : Kd.C (Kd.int .i64) w A1_1 l1_1.length l1_1) (hc1_1 : l1_1.length ≤ c1_1) (hr2_1 : Kd.C (Kd.int .i64) w A2_1 l2_1.length l2_1) (hc2_1 : l2_1.length ≤ c2_1) (k : Nat) (t_1 : Int) (t_2 : Int) (hz1_ : laws_szArticleS.f k l0 (wrap64 (1000000 - ((a3.size : Int)))) = some t_1) (hn1_ : decide (t_1 < 0) = false) (hz2_ : laws_szMagazine.f a1_0 l1_1 t_1 = some t_2) (hn_ : decide (t_2 < 0) = true) :
  Calls Try.prog 3 #[.slice A0 l0.length c0, .agg #[.int .i64 a1_0, .slice A1_1 l1_1.length c1_1], .agg #[.int .i64 a2_0, .slice A2_1 l2_1.length c2_1], .string a3, .int .i64 a4] w fun e w' => e = .returned (.bool true) ∧ Below w.heap.size w w' := by
 have HR0 := jA hr0
 have HC0 := jA hc0
 have HR1_1 := jA hr1_1
 have HC1_1 := jA hc1_1
 have HR2_1 := jA hr2_1
 have HC2_1 := jA hc2_1
 clear hr0 hc0 hr1_1 hc1_1 hr2_1 hc2_1
 have HZ1 := jA hz1_
 have HN1 := jA hn1_
 have HZ2 := jA hz2_
 have HN := jA hn_
 clear hz1_ hn1_ hz2_ hn_
 have HB := jA (Below.refl w.heap.size w)
 go_enter Try.func3, Try.ntmps3
 go_wp2_with (first | ((with_reducible refine jJ (N := 6) rfl ?_); refine zE 6 #[.int .i64 a1_0, .slice A1_1 l1_1.length c1_1] 25 ?_; intro gb1 hg_ w_3 hbox hb; have BK2 := jA hbox; have HGgb1 : Aside0 (gb1 < w_3.heap.size) := ⟨blk_lt hbox⟩; have HLgb1 : Aside0 (w.heap.size ≤ gb1) := ⟨by rw [hg_]; exact Nat.le_refl _⟩; have hbA0_ := jA hb; clear hbox hg_ hb) | ((with_reducible refine jJ (N := 7) rfl ?_); refine zE 7 #[.int .i64 a2_0, .slice A2_1 l2_1.length c2_1] 25 ?_; intro gb4 hg_ w_6 hbox hb; have BK5 := jA hbox; have HGgb4 : Aside0 (gb4 < w_6.heap.size) := ⟨blk_lt hbox⟩; have HLgb4 : Aside0 (w_3.heap.size ≤ gb4) := ⟨by rw [hg_]; exact Nat.le_refl _⟩; have hbA1_ := jA hb; clear hbox hg_ hb))
 have hb := hbA0_.out
 clear hbA0_
 have HBi := jA (below_step (by repeat (first | (with_reducible first | exact Below.refl _ _ | apply below_alloc | apply pw_below_drewN | apply jR) | exact Below.refl _ _)) hb : Below w.heap.size w w_3)
 clear hb
 have HBn := jA (below_step HB.out HBi.out)
 clear HB
 have HB := HBn
 clear HBn
 have HS7 := jA HBi.out.size
 clear HBi
 have HWw_3 := jA HB.out.size
 have hb := hbA1_.out
 clear hbA1_
 have HBi := jA (below_step (by repeat (first | (with_reducible first | exact Below.refl _ _ | apply below_alloc | apply pw_below_drewN | apply jR) | exact Below.refl _ _)) hb : Below w_3.heap.size w_3 w_6)
 clear hb
 have HBn := jA (below_step HB.out HBi.out)
 clear HB
 have HB := HBn
 clear HBn
 have HS8 := jA HBi.out.size
 replace BK2 := jA (jO BK2.out HBi.out)
 clear HBi
 have HWw_6 := jA HB.out.size
 have hcz1 := zc2 BK2
 have hcz4 := zc2 BK5
 go_wp2_with (fail)
 try clear hcz1
 try clear hcz4
 go_at_call 13
 (with_reducible refine (laws_szArticleS.calls k _ _ l0 (wrap64 (1000000 - ((a3.size : Int)))) t_1 _ ?side1 ?side2 HZ1.out).mono ?_)
 (case side1 => exact zs HR0 HB)
 (case side2 => exact HC0.out)
 rintro e w_9 ⟨rfl, hb⟩
 have HBi := jA (below_step (by repeat (first | (with_reducible first | exact Below.refl _ _ | apply below_alloc | apply pw_below_drewN | apply jR) | exact Below.refl _ _)) hb : Below w_6.heap.size w_6 w_9)
 clear hb
 have HBn := jA (below_step HB.out HBi.out)
 clear HB
 have HB := HBn
 clear HBn
 have HS10 := jA HBi.out.size
 replace BK2 := jA (jO BK2.out HBi.out)
 replace BK5 := jA (jO BK5.out HBi.out)
 clear HBi
 have HWw_9 := jA HB.out.size
 have hn_ := HN1.out
 have hcz1 := zc2 BK2
 have hcz4 := zc2 BK5
 go_wp2_with (fail)
 try clear hcz1
 try clear hcz4
 clear hn_
 have hcz1 := zc2 BK2
 have hcz4 := zc2 BK5
 go_wp2_with (fail)
 try clear hcz1
 try clear hcz4
 go_at_call 14
 (with_reducible refine (laws_szMagazine.calls a1_0 _ _ l1_1 t_1 t_2 _ ?side1 ?side2 HZ2.out).mono ?_)
 (case side1 => exact zs HR1_1 HB)
 (case side2 => exact HC1_1.out)
 rintro e w_11 ⟨rfl, hb⟩
 have HBi := jA (below_step (by repeat (first | (with_reducible first | exact Below.refl _ _ | apply below_alloc | apply pw_below_drewN | apply jR) | exact Below.refl _ _)) hb : Below w_9.heap.size w_9 w_11)
 clear hb
 have HBn := jA (below_step HB.out HBi.out)
 clear HB
 have HB := HBn
 clear HBn
 have HS12 := jA HBi.out.size
 replace BK2 := jA (jO BK2.out HBi.out)
 replace BK5 := jA (jO BK5.out HBi.out)
 clear HBi
 have HWw_11 := jA HB.out.size
 have hn_ := HN.out
 go_wp2
 go_ret
 exact ⟨by first | rfl | (simp; done) | (simp [*]; done), zb0 HB⟩

set_option maxHeartbeats 8000000 in
set_option maxRecDepth 100000 in
theorem laws_FnExactMovePieces.skip3_ (A0 : Option Addr) (c0 : Nat) (l0 : List (S62)) (a1_0 : Int) (A1_1 : Option Addr) (c1_1 : Nat) (l1_1 : List Int) (a2_0 : Int) (A2_1 : Option Addr) (c2_1 : Nat) (l2_1 : List Int) (a3 : ByteArray) (a4 : Int) (w : World) (hr0 : Kd.C k62 w A0 l0.length l0) (hc0 : l0.length ≤ c0) (hr1_1 : Kd.C (Kd.int .i64) w A1_1 l1_1.length l1_1) (hc1_1 : l1_1.length ≤ c1_1) (hr2_1 : Kd.C (Kd.int .i64) w A2_1 l2_1.length l2_1) (hc2_1 : l2_1.length ≤ c2_1) (k : Nat) (t_1 : Int) (t_2 : Int) (t_3 : Int) (hz1_ : laws_szArticleS.f k l0 (wrap64 (1000000 - ((a3.size : Int)))) = some t_1) (hn1_ : decide (t_1 < 0) = false) (hz2_ : laws_szMagazine.f a1_0 l1_1 t_1 = some t_2) (hn2_ : decide (t_2 < 0) = false) (hz3_ : laws_szMagazine.f a2_0 l2_1 t_2 = some t_3) (hn_ : decide (t_3 < 0) = true) :
  Calls Try.prog 3 #[.slice A0 l0.length c0, .agg #[.int .i64 a1_0, .slice A1_1 l1_1.length c1_1], .agg #[.int .i64 a2_0, .slice A2_1 l2_1.length c2_1], .string a3, .int .i64 a4] w fun e w' => e = .returned (.bool true) ∧ Below w.heap.size w w' := by
 have HR0 := jA hr0
 have HC0 := jA hc0
 have HR1_1 := jA hr1_1
 have HC1_1 := jA hc1_1
 have HR2_1 := jA hr2_1
 have HC2_1 := jA hc2_1
 clear hr0 hc0 hr1_1 hc1_1 hr2_1 hc2_1
 have HZ1 := jA hz1_
 have HN1 := jA hn1_
 have HZ2 := jA hz2_
 have HN2 := jA hn2_
 have HZ3 := jA hz3_
 have HN := jA hn_
 clear hz1_ hn1_ hz2_ hn2_ hz3_ hn_
 have HB := jA (Below.refl w.heap.size w)
 go_enter Try.func3, Try.ntmps3
 go_wp2_with (first | ((with_reducible refine jJ (N := 6) rfl ?_); refine zE 6 #[.int .i64 a1_0, .slice A1_1 l1_1.length c1_1] 25 ?_; intro gb1 hg_ w_3 hbox hb; have BK2 := jA hbox; have HGgb1 : Aside0 (gb1 < w_3.heap.size) := ⟨blk_lt hbox⟩; have HLgb1 : Aside0 (w.heap.size ≤ gb1) := ⟨by rw [hg_]; exact Nat.le_refl _⟩; have hbA0_ := jA hb; clear hbox hg_ hb) | ((with_reducible refine jJ (N := 7) rfl ?_); refine zE 7 #[.int .i64 a2_0, .slice A2_1 l2_1.length c2_1] 25 ?_; intro gb4 hg_ w_6 hbox hb; have BK5 := jA hbox; have HGgb4 : Aside0 (gb4 < w_6.heap.size) := ⟨blk_lt hbox⟩; have HLgb4 : Aside0 (w_3.heap.size ≤ gb4) := ⟨by rw [hg_]; exact Nat.le_refl _⟩; have hbA1_ := jA hb; clear hbox hg_ hb))
 have hb := hbA0_.out
 clear hbA0_
 have HBi := jA (below_step (by repeat (first | (with_reducible first | exact Below.refl _ _ | apply below_alloc | apply pw_below_drewN | apply jR) | exact Below.refl _ _)) hb : Below w.heap.size w w_3)
 clear hb
 have HBn := jA (below_step HB.out HBi.out)
 clear HB
 have HB := HBn
 clear HBn
 have HS7 := jA HBi.out.size
 clear HBi
 have HWw_3 := jA HB.out.size
 have hb := hbA1_.out
 clear hbA1_
 have HBi := jA (below_step (by repeat (first | (with_reducible first | exact Below.refl _ _ | apply below_alloc | apply pw_below_drewN | apply jR) | exact Below.refl _ _)) hb : Below w_3.heap.size w_3 w_6)
 clear hb
 have HBn := jA (below_step HB.out HBi.out)
 clear HB
 have HB := HBn
 clear HBn
 have HS8 := jA HBi.out.size
 replace BK2 := jA (jO BK2.out HBi.out)
 clear HBi
 have HWw_6 := jA HB.out.size
 have hcz1 := zc2 BK2
 have hcz4 := zc2 BK5
 go_wp2_with (fail)
 try clear hcz1
 try clear hcz4
 go_at_call 13
 (with_reducible refine (laws_szArticleS.calls k _ _ l0 (wrap64 (1000000 - ((a3.size : Int)))) t_1 _ ?side1 ?side2 HZ1.out).mono ?_)
 (case side1 => exact zs HR0 HB)
 (case side2 => exact HC0.out)
 rintro e w_9 ⟨rfl, hb⟩
 have HBi := jA (below_step (by repeat (first | (with_reducible first | exact Below.refl _ _ | apply below_alloc | apply pw_below_drewN | apply jR) | exact Below.refl _ _)) hb : Below w_6.heap.size w_6 w_9)
 clear hb
 have HBn := jA (below_step HB.out HBi.out)
 clear HB
 have HB := HBn
 clear HBn
 have HS10 := jA HBi.out.size
 replace BK2 := jA (jO BK2.out HBi.out)
 replace BK5 := jA (jO BK5.out HBi.out)
 clear HBi
 have HWw_9 := jA HB.out.size
 have hn_ := HN1.out
 have hcz1 := zc2 BK2
 have hcz4 := zc2 BK5
 go_wp2_with (fail)
 try clear hcz1
 try clear hcz4
 clear hn_
 have hcz1 := zc2 BK2
 have hcz4 := zc2 BK5
 go_wp2_with (fail)
 try clear hcz1
 try clear hcz4
 go_at_call 14
 (with_reducible refine (laws_szMagazine.calls a1_0 _ _ l1_1 t_1 t_2 _ ?side1 ?side2 HZ2.out).mono ?_)
 (case side1 => exact zs HR1_1 HB)
 (case side2 => exact HC1_1.out)
 rintro e w_11 ⟨rfl, hb⟩
 have HBi := jA (below_step (by repeat (first | (with_reducible first | exact Below.refl _ _ | apply below_alloc | apply pw_below_drewN | apply jR) | exact Below.refl _ _)) hb : Below w_9.heap.size w_9 w_11)
 clear hb
 have HBn := jA (below_step HB.out HBi.out)
 clear HB
 have HB := HBn
 clear HBn
 have HS12 := jA HBi.out.size
 replace BK2 := jA (jO BK2.out HBi.out)
 replace BK5 := jA (jO BK5.out HBi.out)
 clear HBi
 have HWw_11 := jA HB.out.size
 have hn_ := HN2.out
 have hcz1 := zc2 BK2
 have hcz4 := zc2 BK5
 go_wp2_with (fail)
 try clear hcz1
 try clear hcz4
 clear hn_
 have hcz1 := zc2 BK2
 have hcz4 := zc2 BK5
 go_wp2_with (fail)
 try clear hcz1
 try clear hcz4
 go_at_call 14
 (with_reducible refine (laws_szMagazine.calls a2_0 _ _ l2_1 t_2 t_3 _ ?side1 ?side2 HZ3.out).mono ?_)
 (case side1 => exact zs HR2_1 HB)
 (case side2 => exact HC2_1.out)
 rintro e w_13 ⟨rfl, hb⟩
 have HBi := jA (below_step (by repeat (first | (with_reducible first | exact Below.refl _ _ | apply below_alloc | apply pw_below_drewN | apply jR) | exact Below.refl _ _)) hb : Below w_11.heap.size w_11 w_13)
 clear hb
 have HBn := jA (below_step HB.out HBi.out)
 clear HB
 have HB := HBn
 clear HBn
 have HS14 := jA HBi.out.size
 replace BK2 := jA (jO BK2.out HBi.out)
 replace BK5 := jA (jO BK5.out HBi.out)
 clear HBi
 have HWw_13 := jA HB.out.size
 have hn_ := HN.out
 go_wp2
 go_ret
 exact ⟨by first | rfl | (simp; done) | (simp [*]; done), zb0 HB⟩

end Go.Proofs.Ytdgglhfnlljmeaa.PFnExactMovePieces
