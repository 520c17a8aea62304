/- Functions and contracts that FnMoved reaches (28 of 29). -/
import Derived.Test.YtdgglhfnlljmeaaQFnMovedx26
namespace Go.Proofs.Ytdgglhfnlljmeaa.PFnMoved
open Go.RowKit Go.Proofs.YtdgglhfnlljmeaaW.PrintWords Go.Proofs.YtdgglhfnlljmeaaW.PrintLast Go.Proofs.YtdgglhfnlljmeaaW.PrintMore
attribute [local go_sem] max2_int min2_int max_two min_two max_three min_three max_four min_four   -- for this text's walks alone
set_option linter.unusedVariables false
set_option linter.unusedSimpArgs false

/-! ### spec_DrawRoomFor: function 44 -/
def spec_DrawRoomFor.f (k : Nat) (l0 : List Int) : Option ((List (S65)) × Int × List Int × ByteArray) := (spec_l01From.f k l0).bind fun bt572 => ((spec_l26Draw.f k bt572.1 bt572.2.1 bt572.2.2).bind fun bt576 => ((spec_l17Name.f k bt572.1 bt576.2.2.2.1 bt576.2.2.2.2 bt576.1).bind fun bt586 => (some (bt576.1, bt576.2.1, bt576.2.2.1, bt586.1))))
theorem spec_DrawRoomFor.mono : ∀ a0 k, LeO (spec_DrawRoomFor.f k a0) (spec_DrawRoomFor.f (k + 1) a0) := by
 intro a0 k
 unfold spec_DrawRoomFor.f
 repeat' first
   | (with_reducible exact spec_l01From.mono _ _)
   | (with_reducible exact spec_l17Name.mono _ _ _ _ _)
   | (with_reducible exact spec_l26Draw.mono _ _ _ _)
   | (with_reducible exact LeO.refl _)
   | (with_reducible exact LeO.none _)
   | (with_reducible refine LeO.ite ?_ ?_)
   | (with_reducible refine LeO.bind ?_ (fun _ => ?_))
   | exact spec_l01From.mono _ _
   | exact spec_l17Name.mono _ _ _ _ _
   | exact spec_l26Draw.mono _ _ _ _
   | exact LeO.none _
   | refine LeO.ite ?_ ?_
   | refine LeO.bind ?_ (fun _ => ?_)
def spec_DrawRoomFor.T3 : Bool × List (List Nat × List Nat) := (true, [([], []), ([], []), ([], []), ([], []), ([2, 3], [2, 3]), ([0, 4, 0], [0]), ([1, 5, 0, 1, 5], [1]), ([4, 6, 0, 1, 2, 3, 4, 5, 6], [4])])
def spec_DrawRoomFor.B3 : List Nat := [0, 0, 0, 0, 12, 29, 63, 127]
theorem spec_DrawRoomFor.tab3 : rtab .any (opsOf Try.f44 3) = spec_DrawRoomFor.T3 := by kernel_rfl
theorem spec_DrawRoomFor.bits3 : waitsOk spec_DrawRoomFor.T3.2 spec_DrawRoomFor.B3 = true := by kernel_rfl
set_option maxHeartbeats 8000000 in
set_option maxRecDepth 100000 in
theorem spec_DrawRoomFor.calls (k : Nat) (A0 : Option Addr) (c0 : Nat) (l0 : List Int) (r1 : List (S65)) (r2 : Int) (r3 : List Int) (r4 : ByteArray) (w : World) (hr0 : Kd.C (Kd.int .u8) w A0 l0.length l0) (hc0 : l0.length ≤ c0) (h : spec_DrawRoomFor.f k l0 = some (r1, r2, r3, r4)) :
  Calls Try.prog 44 #[.slice A0 l0.length c0] w fun e w' => ∃ v0_ v2_ : Value, e = .returned (.tuple #[v0_, .agg #[.int .i64 r2, v2_], .string r4]) ∧ Kd.R k65 65 w' w.heap.size (fun _ => True) v0_ r1 ∧ Kd.R (Kd.int .i64) 2 w' w.heap.size (fun _ => True) v2_ r3 ∧ Below w.heap.size w w' := by
 have hu28 := Try.underlying28
 have HR0 := jA hr0
 have HC0 := jA hc0
 clear hr0 hc0
 have HB := jA (Below.refl w.heap.size w)
 have H := h
 unfold spec_DrawRoomFor.f at H
 clear h
 replace H := jB.mp H
 obtain ⟨⟨t572, t573, t574⟩, A20, H⟩ := H
 try dsimp only at H
 have A2 := jA A20
 clear A20
 replace H := jB.mp H
 obtain ⟨⟨t576, t579, t580, t583, t584⟩, A30, H⟩ := H
 try dsimp only at H
 have A3 := jA A30
 clear A30
 replace H := jB.mp H
 obtain ⟨⟨t586, t587, t588⟩, A40, H⟩ := H
 try dsimp only at H
 have A4 := jA A40
 clear A40
 simp only [jM, jS] at H
 obtain ⟨rfl, rfl, rfl, rfl⟩ := H
 go_enter Try.func44, Try.ntmps44
 try go_wp2_with (first | ((with_reducible refine jJ (N := 3) rfl ?_); refine zE 3 #[.int .i64 0, .slice none 0 0] 28 ?_; intro gb571 hg w5 hbox hb; have BK571 := jA (hbox); have GW571 := zg0 hg HB; have GE571 := zg0 hg HB; replace HB := zS0 HB hb; clear hb hbox hg) | ((with_reducible refine jG (f := 75) rfl ?_); refine zL (some 9) Try.func75 #[.slice A0 l0.length c0] ?_; (with_reducible refine (spec_l01From.calls k _ _ l0 t572 t573 t574 w _ ?side1 ?side2 ?side3 A2.out).mono ?_); (case side1 => exact zr2 HB GE571); (case side2 => exact HR0.out); (case side3 => exact HC0.out); rintro e w6 ⟨g575, rfl, hi, hb, hb2⟩; refine ⟨_, rfl, ?_⟩; replace HB := jA (hb); have HI575 := jA (hi); have NB575_571 := jA (IsS92.ne_blk hi (jT (g := gb571) (o := .cells #[.int .i64 0, .slice none 0 0] 28 (0, 0)) (zk BK571) hb2) (by decide)); have NB571_575 := jA (Ne.symm (IsS92.ne_blk hi (jT (g := gb571) (o := .cells #[.int .i64 0, .slice none 0 0] 28 (0, 0)) (zk BK571) hb2) (by decide))); replace BK571 := zB BK571 hb2; (try clear hb); (try clear hb2); (try clear hk); (try clear hi)) | ((with_reducible refine jG (f := 76) rfl ?_); refine zL (some 12) Try.func76 #[.pointer (some ⟨g575, 0, none⟩)] ?_; (with_reducible refine (spec_l26Draw.calls k g575 t572 t573 t574 t576 t579 t580 t583 t584 w _ ?side1 ?side2 A3.out).mono ?_); (case side1 => exact zr5 HI575 NB575_571); (case side2 => exact zr6 HB HI575 GE571); rintro e w7 ⟨v577, v581, rfl, ho0, ho1, hi, hb, hk⟩; refine ⟨_, rfl, ?_⟩; replace BK571 := zK hk BK571 NB571_575; have HO578 := jA (jU ho0 (jW (zr6 HB HI575 GE571))); have HO582 := jA (jU ho1 (jW (zr6 HB HI575 GE571))); replace HB := jA (hb); replace HI575 := jA (hi); (try clear hb); (try clear hb2); (try clear hk); (try clear hi); (try clear ho0); (try clear ho1)) | ((with_reducible refine jJ (N := 7) rfl ?_); refine zE 7 #[.int .i64 0, .slice none 0 0] 28 ?_; intro gb585 hg w8 hbox hb; replace HO578 := jA (jE (zo HO578) hb); replace HO582 := jA (jE (zo HO582) hb); have BK585 := jA (hbox); have GW585 := jA ((by rw [hg]; exact (jW (zr6 HB HI575 GE571)) : w.heap.size ≤ gb585)); replace HB := jA (jY (zr6 HB HI575 GE571) hb); have GE585 := GW585; have NB571_585 := zn hg BK571; replace BK571 := zB BK571 hb; have NB585_571 := jA NB571_585.out.symm; have NB575_585 := jA ((by rw [hg]; exact Nat.ne_of_lt (IsS92.lt (show IsS92 w _ g575 t572 t583 t584 from zr5 HI575 NB575_571)) : g575 ≠ gb585)); have NB585_575 := jA ((by rw [hg]; exact Nat.ne_of_gt (IsS92.lt (show IsS92 w _ g575 t572 t583 t584 from zr5 HI575 NB575_571)) : gb585 ≠ g575)); replace HI575 := jA (IsS92.below (zr5 HI575 NB575_571) hb); clear hb hbox hg; have hnb9 := NB585_571.out; have hnc9 := NB571_585.out; have hnb10 := NB585_575.out; have hnc10 := NB575_585.out; have hcz11 := zc2 BK585; obtain ⟨Ao12, co12, eo12⟩ := Kd.R_slice HO582.out; subst eo12))
 have n0_ : Aside0 (Kd.R k65 65 ((w8.setCell ⟨gb585, 0, none⟩ (.int .i64 t579)).setCell ⟨gb585, 1, none⟩ (.slice Ao12 t580.length co12)) w.heap.size (fun _ => True) v577 t576) := ⟨zT HO578 BK585⟩
 have n1_ : Aside0 (Kd.R (Kd.int .i64) 2 ((w8.setCell ⟨gb585, 0, none⟩ (.int .i64 t579)).setCell ⟨gb585, 1, none⟩ (.slice Ao12 t580.length co12)) w.heap.size (fun _ => True) (.slice Ao12 t580.length co12) t580) := ⟨zT HO582 BK585⟩
 have n2_ : Aside0 (((w8.setCell ⟨gb585, 0, none⟩ (.int .i64 t579)).setCell ⟨gb585, 1, none⟩ (.slice Ao12 t580.length co12)).heap[gb571]? = some (.cells #[.int .i64 0, .slice none 0 0] 28 (0, 0))) := ⟨zQ1 BK571 NB571_585⟩
 have n3_ : Aside0 (((w8.setCell ⟨gb585, 0, none⟩ (.int .i64 t579)).setCell ⟨gb585, 1, none⟩ (.slice Ao12 t580.length co12)).heap[gb585]? = some (.cells #[.int .i64 t579, .slice Ao12 t580.length co12] 28 (0, 0))) := ⟨zP0 BK585⟩
 have n4_ : Aside0 (IsS92 w ((w8.setCell ⟨gb585, 0, none⟩ (.int .i64 t579)).setCell ⟨gb585, 1, none⟩ (.slice Ao12 t580.length co12)) g575 t572 t583 t584) := ⟨zr7 HI575 NB575_571 NB575_585⟩
 have n5_ : Aside0 (Below w.heap.size w ((w8.setCell ⟨gb585, 0, none⟩ (.int .i64 t579)).setCell ⟨gb585, 1, none⟩ (.slice Ao12 t580.length co12))) := ⟨zr8 HB HI575 GE571 GE585⟩
 (try clear HO578)
 (try clear HO582)
 (try clear BK571)
 (try clear BK585)
 (try clear HI575)
 (try clear HB)
 generalize ((w8.setCell ⟨gb585, 0, none⟩ (.int .i64 t579)).setCell ⟨gb585, 1, none⟩ (.slice Ao12 t580.length co12)) = w13 at n0_ n1_ n2_ n3_ n4_ n5_ ⊢
 have HO578 := n0_
 have HO582 := n1_
 have BK571 := n2_
 have BK585 := n3_
 have HI575 := n4_
 have HB := n5_
 clear n0_ n1_ n2_ n3_ n4_ n5_
 replace HO578 := jA (jP HO578.out)
 replace HO582 := jA (jP HO582.out)
 replace BK571 := jA (blk_drew BK571.out)
 replace BK585 := jA (blk_drew BK585.out)
 replace HI575 := jA (IsS92.drew HI575.out)
 replace HB := jA (below_drew1 HB.out)
 obtain ⟨Ao15, co15, eo15⟩ := Kd.R_slice HO578.out
 (first | subst eo15 | (injection eo15 with f1_ f2_ f3_; have f4_ := f1_.symm; have f5_ := f3_.symm; clear f1_ f2_ f3_; subst f4_; subst f5_))
 refine start_ (n := 8) (S := fun w' => w'.cell? ⟨gb585, 0, none⟩ = some (.int .i64 t579) ∧ w'.cell? ⟨gb585, 1, none⟩ = some (.slice Ao12 t580.length co12)) (ds := []) m8_0 zr rfl rfl ⟨(jF BK585.out 0).trans rfl, (jF BK585.out 1).trans rfl⟩ (fun hHeld => ?_); refine with_tabW spec_DrawRoomFor.tab3 spec_DrawRoomFor.bits3 (fun HT_ HW_ => ?_)
 generalize w13.drew = w14 at HO578 HO582 BK571 BK585 HI575 HB hHeld ⊢
 refine zp HT_ 0 15 m8_80 ?_
 refine zp HT_ 2 17 m8_a0 ?_
 refine zp HT_ 3 18 #[true, false, true, true, false, false, false, false] ?_
 refine zt2 HT_ HW_ hHeld 1 16 m8_f0 ?_
 refine one_ (i := 4) (N := some 19) m8_f8 rfl rfl (one_of HT_.out zr) (by decide) (fun K hK => ?_)
 refine goes_ Try.func77 zr rfl #[.pointer (some ⟨g575, 0, none⟩), .slice Ao15 t576.length co15] (by rfl) rfl rfl zm ?_
 with_reducible refine (spec_l17Name.calls k g575 t572 t583 t584 _ _ t576 t586 t587 t588 w _ ?side1 ?side2 ?side3 ?side4 A4.out).mono ?_
 (case side1 => exact zr7 HI575 NB575_571 NB575_585)
 (case side2 => exact zr8 HB HI575 GE571 GE585)
 (case side3 => exact Kd.C_foot_own (IsS92.apart (show IsS92 w _ g575 t572 t583 t584 from zr7 HI575 NB575_571 NB575_585) (zo HO578) (by decide)) (fun _ h_ => h_.2))
 (case side4 => exact (jO HO578.out).2.1)
 rintro e w16 ⟨rfl, hi, hb, hk⟩
 refine ⟨_, rfl, ?_⟩
 replace BK571 := zK hk BK571 NB571_575
 replace HO578 := jA (Kd.R_mono (Kd.R_keep (IsS92.apart (show IsS92 w _ g575 t572 t583 t584 from zr7 HI575 NB575_571 NB575_585) (zo HO578) (by decide)) hk (fun _ h => h.2)) (fun _ h => h.1))
 replace HO582 := jA (Kd.R_mono (Kd.R_keep (IsS92.apart (show IsS92 w _ g575 t572 t583 t584 from zr7 HI575 NB575_571 NB575_585) (zo HO582) (by decide)) hk (fun _ h => h.2)) (fun _ h => h.1))
 replace BK585 := zK hk BK585 NB585_575
 replace HB := jA (hb)
 replace HI575 := jA (hi)
 (try clear hb)
 (try clear hb2)
 (try clear hk)
 (try clear hi)
 refine hK.out _ _ ⟨(jF BK585.out 0).trans rfl, (jF BK585.out 1).trans rfl⟩ (fun hHeld => ?_)
 clear hK K
 refine norm_ (a' := ?_) ?_ ?_
 rotate_left
 ·show Act.put _ (some 19) _ = _
  simp only [Act.put, jC, jH, jI, i64_w, i32_w]
  rfl
 refine zp HT_ 5 2 m8_fc ?_
 refine one_ (i := 6) (N := none) m8_fe rfl rfl (one_of HT_.out zr) (by decide) (fun K hK => ?_)
 have hs17 : w16.cell? ⟨gb571, 0, none⟩ = some (.int .i64 0) := (jF BK571.out 0).trans rfl
 have hfs17 := blk_frozen BK571.out 0
 have hns17_1 := NB585_571.out
 have hms17_1 := NB571_585.out
 have hs18 : w16.cell? ⟨gb571, 1, none⟩ = some (.slice none 0 0) := (jF BK571.out 1).trans rfl
 have hfs18 := blk_frozen BK571.out 1
 have hns18_1 := NB585_571.out
 have hms18_1 := NB571_585.out
 refine skip_ (w1 := ?_) (by rfl) rfl ?_ ?_
 rotate_left
 ·go_simp
  rfl
 refine hK.out _ _ ⟨((jL (p := ⟨gb571, _, none⟩) NB585_571.out _).trans (((jL (p := ⟨gb571, _, none⟩) NB585_571.out _).trans (hHeld.1)))), ((jL (p := ⟨gb571, _, none⟩) NB585_571.out _).trans (((jL (p := ⟨gb571, _, none⟩) NB585_571.out _).trans (hHeld.2))))⟩ (fun hHeld => ?_)
 clear hK K
 refine zp HT_ 7 4 m8_ff ?_
 refine done_ (done_of HT_.out zr) ?_
 try go_wp2
 refine jX (results_list (rs := [.tmp 2, .cell 3 28, .tmp 4]) rfl (by simp) (.tmp (.cell gb571 28 #[.int .i64 t579, .slice Ao12 t580.length co12] (0, 0) _ rfl (zP0 BK571) Try.underlying28 rfl zr (.tmp .nil)))) rfl ?_
 exact ⟨_, _, by first | rfl | (simp [errW_none, errW_some] <;> rfl) | (simp [*, errW_none, errW_some] <;> rfl), zT HO578 BK571, zT HO582 BK571, zr8 HB HI575 GE571 GE585⟩

/-! ### spec_DrawStorePieces: function 38 -/
def spec_DrawStorePieces.f (k : Nat) (l0 : List Int) : Option ((List (S65)) × Int × List Int × ByteArray × Int) := (spec_l01From.f k l0).bind fun bt590 => ((spec_l26Draw.f k bt590.1 bt590.2.1 bt590.2.2).bind fun bt594 => ((spec_l17Name.f k bt590.1 bt594.2.2.2.1 bt594.2.2.2.2 bt594.1).bind fun bt604 => ((spec_l01Next.f bt590.1 bt604.2.1 bt604.2.2 8).bind fun bt607 => ((spec_l01Next.f bt590.1 bt607.2.1 bt607.2.2 30).bind fun bt610 => ((spec_l01Pick.f bt590.1 bt610.2.1 bt610.2.2 (([bt607.1, 1, 0, 1000, 1001, bt610.1, (-1)] : List Int))).bind fun bt616 => (some (bt594.1, bt594.2.1, bt594.2.2.1, bt604.1, bt616.1)))))))
theorem spec_DrawStorePieces.mono : ∀ a0 k, LeO (spec_DrawStorePieces.f k a0) (spec_DrawStorePieces.f (k + 1) a0) := by
 intro a0 k
 unfold spec_DrawStorePieces.f
 repeat' first
   | (with_reducible exact spec_l01From.mono _ _)
   | (with_reducible exact spec_l17Name.mono _ _ _ _ _)
   | (with_reducible exact spec_l26Draw.mono _ _ _ _)
   | (with_reducible exact LeO.refl _)
   | (with_reducible exact LeO.none _)
   | (with_reducible refine LeO.ite ?_ ?_)
   | (with_reducible refine LeO.bind ?_ (fun _ => ?_))
   | exact spec_l01From.mono _ _
   | exact spec_l17Name.mono _ _ _ _ _
   | exact spec_l26Draw.mono _ _ _ _
   | exact LeO.none _
   | refine LeO.ite ?_ ?_
   | refine LeO.bind ?_ (fun _ => ?_)
def spec_DrawStorePieces.T3 : Bool × List (List Nat × List Nat) := (true, [([], []), ([], []), ([], []), ([], []), ([2, 3], [2, 3]), ([], []), ([], []), ([6, 4], [6]), ([], []), ([8, 7], [8]), ([7, 9], [7, 9]), ([5, 10, 9], [5, 10]), ([0, 11, 0], [0]), ([1, 12, 0, 1, 12], [1]), ([4, 13, 0, 1, 2, 3, 4, 12, 13], [4]), ([11, 14, 0, 1, 2, 3, 4, 5, 6, 7, 8, 9, 10, 11, 12, 13, 14], [11])])
def spec_DrawStorePieces.B3 : List Nat := [0, 0, 0, 0, 12, 0, 0, 92, 0, 476, 988, 2044, 4093, 8191, 16383, 32767]
theorem spec_DrawStorePieces.tab3 : rtab .any (opsOf Try.f38 3) = spec_DrawStorePieces.T3 := by kernel_rfl
theorem spec_DrawStorePieces.bits3 : waitsOk spec_DrawStorePieces.T3.2 spec_DrawStorePieces.B3 = true := by kernel_rfl
set_option maxHeartbeats 8000000 in
set_option maxRecDepth 100000 in
theorem spec_DrawStorePieces.calls (k : Nat) (A0 : Option Addr) (c0 : Nat) (l0 : List Int) (r1 : List (S65)) (r2 : Int) (r3 : List Int) (r4 : ByteArray) (r5 : Int) (w : World) (hr0 : Kd.C (Kd.int .u8) w A0 l0.length l0) (hc0 : l0.length ≤ c0) (h : spec_DrawStorePieces.f k l0 = some (r1, r2, r3, r4, r5)) :
  Calls Try.prog 38 #[.slice A0 l0.length c0] w fun e w' => ∃ v0_ v2_ : Value, e = .returned (.tuple #[v0_, .agg #[.int .i64 r2, v2_], .string r4, .int .i64 r5]) ∧ Kd.R k65 65 w' w.heap.size (fun _ => True) v0_ r1 ∧ Kd.R (Kd.int .i64) 2 w' w.heap.size (fun _ => True) v2_ r3 ∧ Below w.heap.size w w' := by
 have hu28 := Try.underlying28
 have HR0 := jA hr0
 have HC0 := jA hc0
 clear hr0 hc0
 have HB := jA (Below.refl w.heap.size w)
 have H := h
 unfold spec_DrawStorePieces.f at H
 clear h
 replace H := jB.mp H
 obtain ⟨⟨t590, t591, t592⟩, A20, H⟩ := H
 try dsimp only at H
 have A2 := jA A20
 clear A20
 replace H := jB.mp H
 obtain ⟨⟨t594, t597, t598, t601, t602⟩, A30, H⟩ := H
 try dsimp only at H
 have A3 := jA A30
 clear A30
 replace H := jB.mp H
 obtain ⟨⟨t604, t605, t606⟩, A40, H⟩ := H
 try dsimp only at H
 have A4 := jA A40
 clear A40
 replace H := jB.mp H
 obtain ⟨⟨t607, t608, t609⟩, A50, H⟩ := H
 try dsimp only at H
 have A5 := jA A50
 clear A50
 replace H := jB.mp H
 obtain ⟨⟨t610, t611, t612⟩, A60, H⟩ := H
 try dsimp only at H
 have A6 := jA A60
 clear A60
 obtain ⟨y613, hy613⟩ : ∃ y_ : List Int, y_ = (([t607, 1, 0, 1000, 1001, t610, (-1)] : List Int)) := ⟨_, rfl⟩
 replace H : ((spec_l01Pick.f t590 t611 t612 y613).bind fun bt616 => (some (t594, t597, t598, t604, bt616.1))) = some (r1, r2, r3, r4, r5) := by first | (rw [hy613]; with_reducible exact H) | (have H2_ := (Option.bind_some _ _).symm.trans H; rw [hy613]; with_reducible exact H2_) | (have H2_ := (Option.bind_some _ _).symm.trans H; with_reducible exact H2_) | with_reducible exact H | (rw [hy613]; exact H) | exact H
 have Ny613 := jA hy613
 clear hy613
 replace H := jB.mp H
 obtain ⟨⟨t616, t617, t618⟩, A70, H⟩ := H
 try dsimp only at H
 have A7 := jA A70
 clear A70
 simp only [jM, jS] at H
 obtain ⟨rfl, rfl, rfl, rfl, rfl⟩ := H
 go_enter Try.func38, Try.ntmps38
 try go_wp2_with (first | ((with_reducible refine jJ (N := 3) rfl ?_); refine zE 3 #[.int .i64 0, .slice none 0 0] 28 ?_; intro gb589 hg w8 hbox hb; have BK589 := jA (hbox); have GW589 := zg0 hg HB; have GE589 := zg0 hg HB; replace HB := zS0 HB hb; clear hb hbox hg) | ((with_reducible refine jG (f := 75) rfl ?_); refine zL (some 10) Try.func75 #[.slice A0 l0.length c0] ?_; (with_reducible refine (spec_l01From.calls k _ _ l0 t590 t591 t592 w _ ?side1 ?side2 ?side3 A2.out).mono ?_); (case side1 => exact zr2 HB GE589); (case side2 => exact HR0.out); (case side3 => exact HC0.out); rintro e w9 ⟨g593, rfl, hi, hb, hb2⟩; refine ⟨_, rfl, ?_⟩; replace HB := jA (hb); have HI593 := jA (hi); have NB593_589 := jA (IsS92.ne_blk hi (jT (g := gb589) (o := .cells #[.int .i64 0, .slice none 0 0] 28 (0, 0)) (zk BK589) hb2) (by decide)); have NB589_593 := jA (Ne.symm (IsS92.ne_blk hi (jT (g := gb589) (o := .cells #[.int .i64 0, .slice none 0 0] 28 (0, 0)) (zk BK589) hb2) (by decide))); replace BK589 := zB BK589 hb2; (try clear hb); (try clear hb2); (try clear hk); (try clear hi)) | ((with_reducible refine jG (f := 76) rfl ?_); refine zL (some 13) Try.func76 #[.pointer (some ⟨g593, 0, none⟩)] ?_; (with_reducible refine (spec_l26Draw.calls k g593 t590 t591 t592 t594 t597 t598 t601 t602 w _ ?side1 ?side2 A3.out).mono ?_); (case side1 => exact zr5 HI593 NB593_589); (case side2 => exact zr6 HB HI593 GE589); rintro e w10 ⟨v595, v599, rfl, ho0, ho1, hi, hb, hk⟩; refine ⟨_, rfl, ?_⟩; replace BK589 := zK hk BK589 NB589_593; have HO596 := jA (jU ho0 (jW (zr6 HB HI593 GE589))); have HO600 := jA (jU ho1 (jW (zr6 HB HI593 GE589))); replace HB := jA (hb); replace HI593 := jA (hi); (try clear hb); (try clear hb2); (try clear hk); (try clear hi); (try clear ho0); (try clear ho1)) | ((with_reducible refine jJ (N := 8) rfl ?_); refine zE 8 #[.int .i64 0, .slice none 0 0] 28 ?_; intro gb603 hg w11 hbox hb; replace HO596 := jA (jE (zo HO596) hb); replace HO600 := jA (jE (zo HO600) hb); have BK603 := jA (hbox); have GW603 := jA ((by rw [hg]; exact (jW (zr6 HB HI593 GE589)) : w.heap.size ≤ gb603)); replace HB := jA (jY (zr6 HB HI593 GE589) hb); have GE603 := GW603; have NB589_603 := zn hg BK589; replace BK589 := zB BK589 hb; have NB603_589 := jA NB589_603.out.symm; have NB593_603 := jA ((by rw [hg]; exact Nat.ne_of_lt (IsS92.lt (show IsS92 w _ g593 t590 t601 t602 from zr5 HI593 NB593_589)) : g593 ≠ gb603)); have NB603_593 := jA ((by rw [hg]; exact Nat.ne_of_gt (IsS92.lt (show IsS92 w _ g593 t590 t601 t602 from zr5 HI593 NB593_589)) : gb603 ≠ g593)); replace HI593 := jA (IsS92.below (zr5 HI593 NB593_589) hb); clear hb hbox hg; have hnb12 := NB603_589.out; have hnc12 := NB589_603.out; have hnb13 := NB603_593.out; have hnc13 := NB593_603.out; have hcz14 := zc2 BK603; obtain ⟨Ao15, co15, eo15⟩ := Kd.R_slice HO600.out; subst eo15))
 have n0_ : Aside0 (Kd.R k65 65 ((w11.setCell ⟨gb603, 0, none⟩ (.int .i64 t597)).setCell ⟨gb603, 1, none⟩ (.slice Ao15 t598.length co15)) w.heap.size (fun _ => True) v595 t594) := ⟨zT HO596 BK603⟩
 have n1_ : Aside0 (Kd.R (Kd.int .i64) 2 ((w11.setCell ⟨gb603, 0, none⟩ (.int .i64 t597)).setCell ⟨gb603, 1, none⟩ (.slice Ao15 t598.length co15)) w.heap.size (fun _ => True) (.slice Ao15 t598.length co15) t598) := ⟨zT HO600 BK603⟩
 have n2_ : Aside0 (((w11.setCell ⟨gb603, 0, none⟩ (.int .i64 t597)).setCell ⟨gb603, 1, none⟩ (.slice Ao15 t598.length co15)).heap[gb589]? = some (.cells #[.int .i64 0, .slice none 0 0] 28 (0, 0))) := ⟨zQ1 BK589 NB589_603⟩
 have n3_ : Aside0 (((w11.setCell ⟨gb603, 0, none⟩ (.int .i64 t597)).setCell ⟨gb603, 1, none⟩ (.slice Ao15 t598.length co15)).heap[gb603]? = some (.cells #[.int .i64 t597, .slice Ao15 t598.length co15] 28 (0, 0))) := ⟨zP0 BK603⟩
 have n4_ : Aside0 (IsS92 w ((w11.setCell ⟨gb603, 0, none⟩ (.int .i64 t597)).setCell ⟨gb603, 1, none⟩ (.slice Ao15 t598.length co15)) g593 t590 t601 t602) := ⟨zr7 HI593 NB593_589 NB593_603⟩
 have n5_ : Aside0 (Below w.heap.size w ((w11.setCell ⟨gb603, 0, none⟩ (.int .i64 t597)).setCell ⟨gb603, 1, none⟩ (.slice Ao15 t598.length co15))) := ⟨zr8 HB HI593 GE589 GE603⟩
 (try clear HO596)
 (try clear HO600)
 (try clear BK589)
 (try clear BK603)
 (try clear HI593)
 (try clear HB)
 generalize ((w11.setCell ⟨gb603, 0, none⟩ (.int .i64 t597)).setCell ⟨gb603, 1, none⟩ (.slice Ao15 t598.length co15)) = w16 at n0_ n1_ n2_ n3_ n4_ n5_ ⊢
 have HO596 := n0_
 have HO600 := n1_
 have BK589 := n2_
 have BK603 := n3_
 have HI593 := n4_
 have HB := n5_
 clear n0_ n1_ n2_ n3_ n4_ n5_
 replace HO596 := jA (jP HO596.out)
 replace HO600 := jA (jP HO600.out)
 replace BK589 := jA (blk_drew BK589.out)
 replace BK603 := jA (blk_drew BK603.out)
 replace HI593 := jA (IsS92.drew HI593.out)
 replace HB := jA (below_drew1 HB.out)
 obtain ⟨Ao18, co18, eo18⟩ := Kd.R_slice HO596.out
 (first | subst eo18 | (injection eo18 with f1_ f2_ f3_; have f4_ := f1_.symm; have f5_ := f3_.symm; clear f1_ f2_ f3_; subst f4_; subst f5_))
 refine start_ (n := 16) (S := fun w' => w'.cell? ⟨gb603, 0, none⟩ = some (.int .i64 t597) ∧ w'.cell? ⟨gb603, 1, none⟩ = some (.slice Ao15 t598.length co15)) (ds := []) m16_0 zr rfl rfl ⟨(jF BK603.out 0).trans rfl, (jF BK603.out 1).trans rfl⟩ (fun hHeld => ?_); refine with_tabW spec_DrawStorePieces.tab3 spec_DrawStorePieces.bits3 (fun HT_ HW_ => ?_)
 generalize w16.drew = w17 at HO596 HO600 BK589 BK603 HI593 HB hHeld ⊢
 refine zp HT_ 0 16 m16_8000 ?_
 refine zp HT_ 2 18 #[true, false, true, false, false, false, false, false, false, false, false, false, false, false, false, false] ?_
 refine zp HT_ 3 19 #[true, false, true, true, false, false, false, false, false, false, false, false, false, false, false, false] ?_
 refine zp HT_ 5 21 #[true, false, true, true, false, true, false, false, false, false, false, false, false, false, false, false] ?_
 refine zp HT_ 6 22 #[true, false, true, true, false, true, true, false, false, false, false, false, false, false, false, false] ?_
 refine zp HT_ 8 24 #[true, false, true, true, false, true, true, false, true, false, false, false, false, false, false, false] ?_
 refine zt2 HT_ HW_ hHeld 1 17 #[true, true, true, true, false, true, true, false, true, false, false, false, false, false, false, false] ?_
 refine one_ (i := 4) (N := some 20) #[true, true, true, true, true, true, true, false, true, false, false, false, false, false, false, false] rfl rfl (one_of HT_.out zr) (by decide) (fun K hK => ?_)
 refine goes_ Try.func77 zr rfl #[.pointer (some ⟨g593, 0, none⟩), .slice Ao18 t594.length co18] (by rfl) rfl rfl zm ?_
 with_reducible refine (spec_l17Name.calls k g593 t590 t601 t602 _ _ t594 t604 t605 t606 w _ ?side1 ?side2 ?side3 ?side4 A4.out).mono ?_
 (case side1 => exact zr7 HI593 NB593_589 NB593_603)
 (case side2 => exact zr8 HB HI593 GE589 GE603)
 (case side3 => exact Kd.C_foot_own (IsS92.apart (show IsS92 w _ g593 t590 t601 t602 from zr7 HI593 NB593_589 NB593_603) (zo HO596) (by decide)) (fun _ h_ => h_.2))
 (case side4 => exact (jO HO596.out).2.1)
 rintro e w19 ⟨rfl, hi, hb, hk⟩
 refine ⟨_, rfl, ?_⟩
 replace BK589 := zK hk BK589 NB589_593
 replace HO596 := jA (Kd.R_mono (Kd.R_keep (IsS92.apart (show IsS92 w _ g593 t590 t601 t602 from zr7 HI593 NB593_589 NB593_603) (zo HO596) (by decide)) hk (fun _ h => h.2)) (fun _ h => h.1))
 replace HO600 := jA (Kd.R_mono (Kd.R_keep (IsS92.apart (show IsS92 w _ g593 t590 t601 t602 from zr7 HI593 NB593_589 NB593_603) (zo HO600) (by decide)) hk (fun _ h => h.2)) (fun _ h => h.1))
 replace BK603 := zK hk BK603 NB603_593
 replace HB := jA (hb)
 replace HI593 := jA (hi)
 (try clear hb)
 (try clear hb2)
 (try clear hk)
 (try clear hi)
 refine hK.out _ _ ⟨(jF BK603.out 0).trans rfl, (jF BK603.out 1).trans rfl⟩ (fun hHeld => ?_)
 clear hK K
 refine norm_ (a' := ?_) ?_ ?_
 rotate_left
 ·show Act.put _ (some 20) _ = _
  simp only [Act.put, jC, jH, jI, i64_w, i32_w]
  rfl
 refine one_ (i := 7) (N := some 23) m16_ff80 rfl rfl (one_of HT_.out zr) (by decide) (fun K hK => ?_)
 refine goes_ Try.func79 zr rfl #[.pointer (some ⟨g593, 0, none⟩), .int .i64 8] (by rfl) rfl rfl zm ?_
 with_reducible refine (spec_l01Next.calls g593 t590 t605 t606 8 t607 t608 t609 w _ ?side1 ?side2 A5.out).mono ?_
 (case side1 => exact zr7 HI593 NB593_589 NB593_603)
 (case side2 => exact zr8 HB HI593 GE589 GE603)
 rintro e w20 ⟨rfl, hi, hb, hk⟩
 refine ⟨_, rfl, ?_⟩
 replace BK589 := zK hk BK589 NB589_593
 replace HO596 := jA (Kd.R_mono (Kd.R_keep (IsS92.apart (show IsS92 w _ g593 t590 t605 t606 from zr7 HI593 NB593_589 NB593_603) (zo HO596) (by decide)) hk (fun _ h => h.2)) (fun _ h => h.1))
 replace HO600 := jA (Kd.R_mono (Kd.R_keep (IsS92.apart (show IsS92 w _ g593 t590 t605 t606 from zr7 HI593 NB593_589 NB593_603) (zo HO600) (by decide)) hk (fun _ h => h.2)) (fun _ h => h.1))
 replace BK603 := zK hk BK603 NB603_593
 replace HB := jA (hb)
 replace HI593 := jA (hi)
 (try clear hb)
 (try clear hb2)
 (try clear hk)
 (try clear hi)
 refine hK.out _ _ ⟨(jF BK603.out 0).trans rfl, (jF BK603.out 1).trans rfl⟩ (fun hHeld => ?_)
 clear hK K
 refine norm_ (a' := ?_) ?_ ?_
 rotate_left
 ·show Act.put _ (some 23) _ = _
  simp only [Act.put, jC, jH, jI, i64_w, i32_w]
  rfl
 refine one_ (i := 9) (N := some 25) m16_ffc0 rfl rfl (one_of HT_.out zr) (by decide) (fun K hK => ?_)
 refine goes_ Try.func79 zr rfl #[.pointer (some ⟨g593, 0, none⟩), .int .i64 30] (by rfl) rfl rfl zm ?_
 with_reducible refine (spec_l01Next.calls g593 t590 t608 t609 30 t610 t611 t612 w _ ?side1 ?side2 A6.out).mono ?_
 (case side1 => exact zr7 HI593 NB593_589 NB593_603)
 (case side2 => exact zr8 HB HI593 GE589 GE603)
 rintro e w21 ⟨rfl, hi, hb, hk⟩
 refine ⟨_, rfl, ?_⟩
 replace BK589 := zK hk BK589 NB589_593
 replace HO596 := jA (Kd.R_mono (Kd.R_keep (IsS92.apart (show IsS92 w _ g593 t590 t608 t609 from zr7 HI593 NB593_589 NB593_603) (zo HO596) (by decide)) hk (fun _ h => h.2)) (fun _ h => h.1))
 replace HO600 := jA (Kd.R_mono (Kd.R_keep (IsS92.apart (show IsS92 w _ g593 t590 t608 t609 from zr7 HI593 NB593_589 NB593_603) (zo HO600) (by decide)) hk (fun _ h => h.2)) (fun _ h => h.1))
 replace BK603 := zK hk BK603 NB603_593
 replace HB := jA (hb)
 replace HI593 := jA (hi)
 (try clear hb)
 (try clear hb2)
 (try clear hk)
 (try clear hi)
 refine hK.out _ _ ⟨(jF BK603.out 0).trans rfl, (jF BK603.out 1).trans rfl⟩ (fun hHeld => ?_)
 clear hK K
 refine norm_ (a' := ?_) ?_ ?_
 rotate_left
 ·show Act.put _ (some 25) _ = _
  simp only [Act.put, jC, jH, jI, i64_w, i32_w]
  rfl
 refine one_ (i := 10) (N := some 26) m16_ffe0 rfl rfl (one_of HT_.out zr) (by decide) (fun K hK => ?_)
 refine Kd.R_lit_step (Kd.int .i64) _ 2 ?hg (N := 26) ?hd (xs := ([t607, 1, 0, 1000, 1001, t610, (-1)] : List Int)) (inner := [.int .i64 t607, .int .i64 1, .int .i64 0, .int .i64 1000, .int .i64 1001, .int .i64 t610, .int .i64 (-1)]) (ok := fun _ => True) (okp := fun _ => True) ?hr ?hp (fun _ hk => hk) trivial (Below.refl _ _) (Nat.le_refl _) (by simp) ?_; (case hd => rfl); (case hg => rfl); (case hr => first | (go_simp; done) | (go_simp; rfl)); (case hp => exact (Reps.one (show Kd.M (Kd.int .i64) _ _ _ t607 [.int .i64 t607] from rfl) (Reps.one (show Kd.M (Kd.int .i64) _ _ _ 1 [.int .i64 1] from rfl) (Reps.one (show Kd.M (Kd.int .i64) _ _ _ 0 [.int .i64 0] from rfl) (Reps.one (show Kd.M (Kd.int .i64) _ _ _ 1000 [.int .i64 1000] from rfl) (Reps.one (show Kd.M (Kd.int .i64) _ _ _ 1001 [.int .i64 1001] from rfl) (Reps.one (show Kd.M (Kd.int .i64) _ _ _ t610 [.int .i64 t610] from rfl) (Reps.one (show Kd.M (Kd.int .i64) _ _ _ (-1) [.int .i64 (-1)] from rfl) (Reps.none _ _)))))))))
 intro v614 w22 ho23 hb hg_ hnew_
 clear hg_ hnew_
 (first | rw [← Ny613.out] at ho23 | (simp only [Int.reduceToNat] at ho23; rw [← Ny613.out] at ho23))
 replace HO596 := jA (jE (zo HO596) hb)
 have HO615 := jA (jU (Kd.R_new' ho23 (Kd.R_lt (zo HO600))) (jW (zr8 HB HI593 GE589 GE603)))
 replace HO600 := jA (Kd.R_elder' (zo HO600) (Kd.R_base ho23) hb)
 replace BK589 := zB BK589 hb
 replace BK603 := zB BK603 hb
 replace HB := jA (jY (zr8 HB HI593 GE589 GE603) hb)
 replace HI593 := jA (IsS92.below (zr7 HI593 NB593_589 NB593_603) hb)
 clear hb ho23
 obtain ⟨Ao24, co24, eo24⟩ := Kd.R_slice HO615.out
 (first | subst eo24 | (injection eo24 with f1_ f2_ f3_; have f4_ := f1_.symm; have f5_ := f3_.symm; clear f1_ f2_ f3_; subst f4_; subst f5_))
 refine hK.out _ _ ⟨(jF BK603.out 0).trans rfl, (jF BK603.out 1).trans rfl⟩ (fun hHeld => ?_)
 clear hK K
 refine norm_ (a' := ?_) ?_ ?_
 rotate_left
 ·show Act.put _ (some 26) _ = _
  simp only [Act.put, jC, jH, jI, i64_w, i32_w]
  rfl
 refine one_ (i := 11) (N := some 27) m16_fff0 rfl rfl (one_of HT_.out zr) (by decide) (fun K hK => ?_)
 refine goes_ Try.func78 zr rfl #[.pointer (some ⟨g593, 0, none⟩), .slice Ao24 y613.length co24] (by rfl) rfl rfl zm ?_
 with_reducible refine (spec_l01Pick.calls g593 t590 t611 t612 _ _ y613 t616 t617 t618 w _ ?side1 ?side2 ?side3 ?side4 ?side5 A7.out).mono ?_
 (case side1 => exact zr7 HI593 NB593_589 NB593_603)
 (case side2 => exact zr8 HB HI593 GE589 GE603)
 (case side3 => exact zv HO615)
 (case side4 => exact (jO HO615.out).2.1)
 (case side5 => exact far_slice (IsS92.own_ne HI593.out HO615.out (by decide)))
 rintro e w25 ⟨rfl, hi, hb, hk⟩
 refine ⟨_, rfl, ?_⟩
 replace BK589 := zK hk BK589 NB589_593
 replace HO596 := jA (Kd.R_mono (Kd.R_keep (IsS92.apart (show IsS92 w _ g593 t590 t611 t612 from zr7 HI593 NB593_589 NB593_603) (zo HO596) (by decide)) hk (fun _ h => h.2)) (fun _ h => h.1))
 replace HO600 := jA (Kd.R_mono (Kd.R_keep (IsS92.apart (show IsS92 w _ g593 t590 t611 t612 from zr7 HI593 NB593_589 NB593_603) (zo HO600) (by decide)) hk (fun _ h => h.2)) (fun _ h => h.1))
 replace BK603 := zK hk BK603 NB603_593
 replace HO615 := jA (Kd.R_mono (Kd.R_keep (IsS92.apart (show IsS92 w _ g593 t590 t611 t612 from zr7 HI593 NB593_589 NB593_603) (zo HO615) (by decide)) hk (fun _ h => h.2)) (fun _ h => h.1))
 replace HB := jA (hb)
 replace HI593 := jA (hi)
 (try clear hb)
 (try clear hb2)
 (try clear hk)
 (try clear hi)
 refine hK.out _ _ ⟨(jF BK603.out 0).trans rfl, (jF BK603.out 1).trans rfl⟩ (fun hHeld => ?_)
 clear hK K
 refine norm_ (a' := ?_) ?_ ?_
 rotate_left
 ·show Act.put _ (some 27) _ = _
  simp only [Act.put, jC, jH, jI, i64_w, i32_w]
  rfl
 refine zp HT_ 12 2 m16_fff8 ?_
 refine one_ (i := 13) (N := none) m16_fffc rfl rfl (one_of HT_.out zr) (by decide) (fun K hK => ?_)
 have hs26 : w25.cell? ⟨gb589, 0, none⟩ = some (.int .i64 0) := (jF BK589.out 0).trans rfl
 have hfs26 := blk_frozen BK589.out 0
 have hns26_1 := NB603_589.out
 have hms26_1 := NB589_603.out
 have hs27 : w25.cell? ⟨gb589, 1, none⟩ = some (.slice none 0 0) := (jF BK589.out 1).trans rfl
 have hfs27 := blk_frozen BK589.out 1
 have hns27_1 := NB603_589.out
 have hms27_1 := NB589_603.out
 refine skip_ (w1 := ?_) (by rfl) rfl ?_ ?_
 rotate_left
 ·go_simp
  rfl
 refine hK.out _ _ ⟨((jL (p := ⟨gb589, _, none⟩) NB603_589.out _).trans (((jL (p := ⟨gb589, _, none⟩) NB603_589.out _).trans (hHeld.1)))), ((jL (p := ⟨gb589, _, none⟩) NB603_589.out _).trans (((jL (p := ⟨gb589, _, none⟩) NB603_589.out _).trans (hHeld.2))))⟩ (fun hHeld => ?_)
 clear hK K
 refine zp HT_ 14 4 m16_fffe ?_
 refine zp HT_ 15 5 m16_ffff ?_
 refine done_ (done_of HT_.out zr) ?_
 try go_wp2
 refine jX (results_list (rs := [.tmp 2, .cell 3 28, .tmp 4, .tmp 5]) rfl (by simp) (.tmp (.cell gb589 28 #[.int .i64 t597, .slice Ao15 t598.length co15] (0, 0) _ rfl (zP0 BK589) Try.underlying28 rfl zr (.tmp (.tmp .nil))))) rfl ?_
 exact ⟨_, _, by first | rfl | (simp [errW_none, errW_some] <;> rfl) | (simp [*, errW_none, errW_some] <;> rfl), zT HO596 BK589, zT HO600 BK589, zr8 HB HI593 GE589 GE603⟩

/-! ### spec_DrawTakePieces: function 45 -/
def spec_DrawTakePieces.f (k : Nat) (l0 : List Int) : Option ((List (S65)) × Int × List Int × ByteArray × Int) := (spec_DrawStorePieces.f k l0).bind fun bt620 => (some (bt620.1, bt620.2.1, bt620.2.2.1, bt620.2.2.2.1, bt620.2.2.2.2))
theorem spec_DrawTakePieces.mono : ∀ a0 k, LeO (spec_DrawTakePieces.f k a0) (spec_DrawTakePieces.f (k + 1) a0) := by
 intro a0 k
 unfold spec_DrawTakePieces.f
 repeat' first
   | (with_reducible exact spec_DrawStorePieces.mono _ _)
   | (with_reducible exact LeO.refl _)
   | (with_reducible exact LeO.none _)
   | (with_reducible refine LeO.ite ?_ ?_)
   | (with_reducible refine LeO.bind ?_ (fun _ => ?_))
   | exact spec_DrawStorePieces.mono _ _
   | exact LeO.none _
   | refine LeO.ite ?_ ?_
   | refine LeO.bind ?_ (fun _ => ?_)
set_option maxHeartbeats 8000000 in
set_option maxRecDepth 100000 in
theorem spec_DrawTakePieces.calls (k : Nat) (A0 : Option Addr) (c0 : Nat) (l0 : List Int) (r1 : List (S65)) (r2 : Int) (r3 : List Int) (r4 : ByteArray) (r5 : Int) (w : World) (hr0 : Kd.C (Kd.int .u8) w A0 l0.length l0) (hc0 : l0.length ≤ c0) (h : spec_DrawTakePieces.f k l0 = some (r1, r2, r3, r4, r5)) :
  Calls Try.prog 45 #[.slice A0 l0.length c0] w fun e w' => ∃ v0_ v2_ : Value, e = .returned (.tuple #[v0_, .agg #[.int .i64 r2, v2_], .string r4, .int .i64 r5]) ∧ Kd.R k65 65 w' w.heap.size (fun _ => True) v0_ r1 ∧ Kd.R (Kd.int .i64) 2 w' w.heap.size (fun _ => True) v2_ r3 ∧ Below w.heap.size w w' := by
 have hu28 := Try.underlying28
 have HR0 := jA hr0
 have HC0 := jA hc0
 clear hr0 hc0
 have HB := jA (Below.refl w.heap.size w)
 have H := h
 unfold spec_DrawTakePieces.f at H
 clear h
 replace H := jB.mp H
 obtain ⟨⟨t620, t623, t624, t627, t628⟩, A20, H⟩ := H
 try dsimp only at H
 have A2 := jA A20
 clear A20
 simp only [jM, jS] at H
 obtain ⟨rfl, rfl, rfl, rfl, rfl⟩ := H
 go_enter Try.func45, Try.ntmps45
 go_wp2_with (first | ((with_reducible refine jJ (N := 3) rfl ?_); refine zE 3 #[.int .i64 0, .slice none 0 0] 28 ?_; intro gb619 hg w3 hbox hb; have BK619 := jA (hbox); have GW619 := zg0 hg HB; have GE619 := zg0 hg HB; replace HB := zS0 HB hb; clear hb hbox hg) | ((with_reducible refine jG (f := 38) rfl ?_); refine zL (some 7) Try.func38 #[.slice A0 l0.length c0] ?_; (with_reducible refine (spec_DrawStorePieces.calls k _ _ l0 t620 t623 t624 t627 t628 _ ?side1 ?side2 A2.out).mono ?_); (case side1 => exact zs HR0 HB); (case side2 => exact HC0.out); rintro e w4 ⟨v621, v625, rfl, ho0, ho1, hb⟩; refine ⟨_, rfl, ?_⟩; have HO622 := jA (jU ho0 (jW (zb1 HB GE619))); have HO626 := jA (jU ho1 (jW (zb1 HB GE619))); replace BK619 := zB BK619 hb; replace HB := zS1 HB GE619 hb; (try clear hb); (try clear hb2); (try clear hk); (try clear hi); (try clear ho0); (try clear ho1); have hcz5 := zc2 BK619; obtain ⟨Ao6, co6, eo6⟩ := Kd.R_slice HO626.out; subst eo6))
 refine jX (results_list (rs := [.tmp 2, .cell 3 28, .tmp 4, .tmp 5]) rfl (by simp) (.tmp (.cell gb619 28 #[.int .i64 t623, .slice Ao6 t624.length co6] (0, 0) _ rfl (zP0 BK619) Try.underlying28 rfl zr (.tmp (.tmp .nil))))) rfl ?_
 exact ⟨_, _, by first | rfl | (simp [errW_none, errW_some] <;> rfl) | (simp [*, errW_none, errW_some] <;> rfl), zT HO622 BK619, zT HO626 BK619, zb1 HB GE619⟩

end Go.Proofs.Ytdgglhfnlljmeaa.PFnMoved
