/- Functions and contracts that FnMoved reaches (27 of 29). -/
import Derived.Test.YtdgglhfnlljmeaaQFnMovedx25
namespace Go.Proofs.Ytdgglhfnlljmeaa.PFnMoved
open Go.RowKit Go.Proofs.YtdgglhfnlljmeaaW.PrintWords Go.Proofs.YtdgglhfnlljmeaaW.PrintLast Go.Proofs.YtdgglhfnlljmeaaW.PrintMore
attribute [local go_sem] max2_int min2_int max_two min_two max_three min_three max_four min_four   -- for this text's walks alone
set_option linter.unusedVariables false
set_option linter.unusedSimpArgs false

/-! ### spec_DrawMovePieces: function 43 -/
def spec_DrawMovePieces.f (k : Nat) (l0 : List Int) : Option ((List (S65)) × Int × List Int × Int × List Int × ByteArray × Int) := (spec_l01From.f k l0).bind fun bt535 => ((spec_l26Draw.f k bt535.1 bt535.2.1 bt535.2.2).bind fun bt539 => ((spec_l26For.f k bt535.1 bt539.2.2.2.1 bt539.2.2.2.2 bt539.1).bind fun bt549 => ((spec_l17Name.f k bt535.1 bt549.2.2.1 bt549.2.2.2 bt539.1).bind fun bt556 => ((spec_l01Next.f bt535.1 bt556.2.1 bt556.2.2 4).bind fun bt559 => ((spec_l01Next.f bt535.1 bt559.2.1 bt559.2.2 30).bind fun bt562 => ((spec_l01Pick.f bt535.1 bt562.2.1 bt562.2.2 (([bt559.1, 1, 0, bt562.1, 1001] : List Int))).bind fun bt568 => (some (bt539.1, bt539.2.1, bt539.2.2.1, bt549.1, bt549.2.1, bt556.1, bt568.1))))))))
theorem spec_DrawMovePieces.mono : ∀ a0 k, LeO (spec_DrawMovePieces.f k a0) (spec_DrawMovePieces.f (k + 1) a0) := by
 intro a0 k
 unfold spec_DrawMovePieces.f
 repeat' first
   | (with_reducible exact spec_l01From.mono _ _)
   | (with_reducible exact spec_l17Name.mono _ _ _ _ _)
   | (with_reducible exact spec_l26Draw.mono _ _ _ _)
   | (with_reducible exact spec_l26For.mono _ _ _ _ _)
   | (with_reducible exact LeO.refl _)
   | (with_reducible exact LeO.none _)
   | (with_reducible refine LeO.ite ?_ ?_)
   | (with_reducible refine LeO.bind ?_ (fun _ => ?_))
   | exact spec_l01From.mono _ _
   | exact spec_l17Name.mono _ _ _ _ _
   | exact spec_l26Draw.mono _ _ _ _
   | exact spec_l26For.mono _ _ _ _ _
   | exact LeO.none _
   | refine LeO.ite ?_ ?_
   | refine LeO.bind ?_ (fun _ => ?_)
def spec_DrawMovePieces.T4 : Bool × List (List Nat × List Nat) := (true, [([], []), ([], []), ([], []), ([], []), ([], []), ([3, 4], [3, 4]), ([], []), ([], []), ([7, 5], [7]), ([], []), ([9, 8], [9]), ([8, 10], [8, 10]), ([6, 11, 10], [6, 11]), ([0, 12, 0], [0]), ([1, 13, 0, 1, 13], [1]), ([2, 14, 0, 1, 2, 13, 14], [2]), ([5, 15, 0, 1, 2, 3, 4, 5, 13, 14, 15], [5]), ([12, 16, 0, 1, 2, 3, 4, 5, 6, 7, 8, 9, 10, 11, 12, 13, 14, 15, 16], [12])])
def spec_DrawMovePieces.B4 : List Nat := [0, 0, 0, 0, 0, 24, 0, 0, 184, 0, 952, 1976, 4088, 8185, 16379, 32767, 65535, 131071]
theorem spec_DrawMovePieces.tab4 : rtab .any (opsOf Try.f43 4) = spec_DrawMovePieces.T4 := by kernel_rfl
theorem spec_DrawMovePieces.bits4 : waitsOk spec_DrawMovePieces.T4.2 spec_DrawMovePieces.B4 = true := by kernel_rfl
set_option maxHeartbeats 8000000 in
set_option maxRecDepth 100000 in
theorem spec_DrawMovePieces.calls (k : Nat) (A0 : Option Addr) (c0 : Nat) (l0 : List Int) (r1 : List (S65)) (r2 : Int) (r3 : List Int) (r4 : Int) (r5 : List Int) (r6 : ByteArray) (r7 : Int) (w : World) (hr0 : Kd.C (Kd.int .u8) w A0 l0.length l0) (hc0 : l0.length ≤ c0) (h : spec_DrawMovePieces.f k l0 = some (r1, r2, r3, r4, r5, r6, r7)) :
  Calls Try.prog 43 #[.slice A0 l0.length c0] w fun e w' => ∃ v0_ v2_ v4_ : Value, e = .returned (.tuple #[v0_, .agg #[.int .i64 r2, v2_], .agg #[.int .i64 r4, v4_], .string r6, .int .i64 r7]) ∧ Kd.R k65 65 w' w.heap.size (fun _ => True) v0_ r1 ∧ Kd.R (Kd.int .i64) 2 w' w.heap.size (fun k_ => some k_ ≠ (v4_ : Value).ownBlock) v2_ r3 ∧ Kd.R (Kd.int .i64) 2 w' w.heap.size (fun k_ => some k_ ≠ (v2_ : Value).ownBlock) v4_ r5 ∧ Below w.heap.size w w' := by
 have hu28 := Try.underlying28
 have HR0 := jA hr0
 have HC0 := jA hc0
 clear hr0 hc0
 have HB := jA (Below.refl w.heap.size w)
 have H := h
 unfold spec_DrawMovePieces.f at H
 clear h
 replace H := jB.mp H
 obtain ⟨⟨t535, t536, t537⟩, A20, H⟩ := H
 try dsimp only at H
 have A2 := jA A20
 clear A20
 replace H := jB.mp H
 obtain ⟨⟨t539, t542, t543, t546, t547⟩, A30, H⟩ := H
 try dsimp only at H
 have A3 := jA A30
 clear A30
 replace H := jB.mp H
 obtain ⟨⟨t549, t550, t553, t554⟩, A40, H⟩ := H
 try dsimp only at H
 have A4 := jA A40
 clear A40
 replace H := jB.mp H
 obtain ⟨⟨t556, t557, t558⟩, A50, H⟩ := H
 try dsimp only at H
 have A5 := jA A50
 clear A50
 replace H := jB.mp H
 obtain ⟨⟨t559, t560, t561⟩, A60, H⟩ := H
 try dsimp only at H
 have A6 := jA A60
 clear A60
 replace H := jB.mp H
 obtain ⟨⟨t562, t563, t564⟩, A70, H⟩ := H
 try dsimp only at H
 have A7 := jA A70
 clear A70
 obtain ⟨y565, hy565⟩ : ∃ y_ : List Int, y_ = (([t559, 1, 0, t562, 1001] : List Int)) := ⟨_, rfl⟩
 replace H : ((spec_l01Pick.f t535 t563 t564 y565).bind fun bt568 => (some (t539, t542, t543, t549, t550, t556, bt568.1))) = some (r1, r2, r3, r4, r5, r6, r7) := by first | (rw [hy565]; with_reducible exact H) | (have H2_ := (Option.bind_some _ _).symm.trans H; rw [hy565]; with_reducible exact H2_) | (have H2_ := (Option.bind_some _ _).symm.trans H; with_reducible exact H2_) | with_reducible exact H | (rw [hy565]; exact H) | exact H
 have Ny565 := jA hy565
 clear hy565
 replace H := jB.mp H
 obtain ⟨⟨t568, t569, t570⟩, A80, H⟩ := H
 try dsimp only at H
 have A8 := jA A80
 clear A80
 simp only [jM, jS] at H
 obtain ⟨rfl, rfl, rfl, rfl, rfl, rfl, rfl⟩ := H
 go_enter Try.func43, Try.ntmps43
 try go_wp2_with (first | ((with_reducible refine jJ (N := 3) rfl ?_); refine zE 3 #[.int .i64 0, .slice none 0 0] 28 ?_; intro gb533 hg w9 hbox hb; have BK533 := jA (hbox); have GW533 := zg0 hg HB; have GE533 := zg0 hg HB; replace HB := zS0 HB hb; clear hb hbox hg) | ((with_reducible refine jJ (N := 4) rfl ?_); refine zE 4 #[.int .i64 0, .slice none 0 0] 28 ?_; intro gb534 hg w10 hbox hb; have BK534 := jA (hbox); have GW534 := zg1 hg HB GE533; have GE534 := zg1 hg HB GE533; replace HB := zS1 HB GE533 hb; have NB533_534 := zn hg BK533; replace BK533 := zB BK533 hb; have NB534_533 := jA NB533_534.out.symm; clear hb hbox hg) | ((with_reducible refine jG (f := 75) rfl ?_); refine zL (some 12) Try.func75 #[.slice A0 l0.length c0] ?_; (with_reducible refine (spec_l01From.calls k _ _ l0 t535 t536 t537 w _ ?side1 ?side2 ?side3 A2.out).mono ?_); (case side1 => exact zr15 HB GE533 GE534); (case side2 => exact HR0.out); (case side3 => exact HC0.out); rintro e w11 ⟨g538, rfl, hi, hb, hb2⟩; refine ⟨_, rfl, ?_⟩; replace HB := jA (hb); have HI538 := jA (hi); have NB538_533 := jA (IsS92.ne_blk hi (jT (g := gb533) (o := .cells #[.int .i64 0, .slice none 0 0] 28 (0, 0)) (zk BK533) hb2) (by decide)); have NB533_538 := jA (Ne.symm (IsS92.ne_blk hi (jT (g := gb533) (o := .cells #[.int .i64 0, .slice none 0 0] 28 (0, 0)) (zk BK533) hb2) (by decide))); replace BK533 := zB BK533 hb2; have NB538_534 := jA (IsS92.ne_blk hi (jT (g := gb534) (o := .cells #[.int .i64 0, .slice none 0 0] 28 (0, 0)) (zk BK534) hb2) (by decide)); have NB534_538 := jA (Ne.symm (IsS92.ne_blk hi (jT (g := gb534) (o := .cells #[.int .i64 0, .slice none 0 0] 28 (0, 0)) (zk BK534) hb2) (by decide))); replace BK534 := zB BK534 hb2; (try clear hb); (try clear hb2); (try clear hk); (try clear hi)) | ((with_reducible refine jG (f := 76) rfl ?_); refine zL (some 15) Try.func76 #[.pointer (some ⟨g538, 0, none⟩)] ?_; (with_reducible refine (spec_l26Draw.calls k g538 t535 t536 t537 t539 t542 t543 t546 t547 w _ ?side1 ?side2 A3.out).mono ?_); (case side1 => exact zr7 HI538 NB538_533 NB538_534); (case side2 => exact zr8 HB HI538 GE533 GE534); rintro e w12 ⟨v540, v544, rfl, ho0, ho1, hi, hb, hk⟩; refine ⟨_, rfl, ?_⟩; replace BK533 := zK hk BK533 NB533_538; replace BK534 := zK hk BK534 NB534_538; have HO541 := jA (jU ho0 (jW (zr8 HB HI538 GE533 GE534))); have HO545 := jA (jU ho1 (jW (zr8 HB HI538 GE533 GE534))); replace HB := jA (hb); replace HI538 := jA (hi); (try clear hb); (try clear hb2); (try clear hk); (try clear hi); (try clear ho0); (try clear ho1)) | ((with_reducible refine jJ (N := 9) rfl ?_); refine zE 9 #[.int .i64 0, .slice none 0 0] 28 ?_; intro gb548 hg w13 hbox hb; replace HO541 := jA (jE (zo HO541) hb); replace HO545 := jA (jE (zo HO545) hb); have BK548 := jA (hbox); have GW548 := jA ((by rw [hg]; exact (jW (zr8 HB HI538 GE533 GE534)) : w.heap.size ≤ gb548)); replace HB := jA (jY (zr8 HB HI538 GE533 GE534) hb); have GE548 := GW548; have NB533_548 := zn hg BK533; replace BK533 := zB BK533 hb; have NB548_533 := jA NB533_548.out.symm; have NB534_548 := zn hg BK534; replace BK534 := zB BK534 hb; have NB548_534 := jA NB534_548.out.symm; have NB538_548 := jA ((by rw [hg]; exact Nat.ne_of_lt (IsS92.lt (show IsS92 w _ g538 t535 t546 t547 from zr7 HI538 NB538_533 NB538_534)) : g538 ≠ gb548)); have NB548_538 := jA ((by rw [hg]; exact Nat.ne_of_gt (IsS92.lt (show IsS92 w _ g538 t535 t546 t547 from zr7 HI538 NB538_533 NB538_534)) : gb548 ≠ g538)); replace HI538 := jA (IsS92.below (zr7 HI538 NB538_533 NB538_534) hb); clear hb hbox hg; have hnb14 := NB548_533.out; have hnc14 := NB533_548.out; have hnb15 := NB548_534.out; have hnc15 := NB534_548.out; have hnb16 := NB548_538.out; have hnc16 := NB538_548.out; have hcz17 := zc2 BK548; obtain ⟨Ao18, co18, eo18⟩ := Kd.R_slice HO545.out; subst eo18; obtain ⟨Ao19, co19, eo19⟩ := Kd.R_slice HO541.out; subst eo19) | ((with_reducible refine jG (f := 81) rfl ?_); refine zL (some 20) Try.func81 #[.pointer (some ⟨g538, 0, none⟩), .slice Ao19 t539.length co19] ?_; (with_reducible refine (spec_l26For.calls k g538 t535 t546 t547 _ _ t539 t549 t550 t553 t554 w _ ?side1 ?side2 ?side3 ?side4 A4.out).mono ?_); (case side1 => exact zr9 HI538 NB538_533 NB538_534 NB538_548); (case side2 => exact zr12 HB HI538 GE533 GE534 GE548); (case side3 => exact Kd.C_foot_own (IsS92.apart (show IsS92 w _ g538 t535 t546 t547 from zr9 HI538 NB538_533 NB538_534 NB538_548) (zU HO541 BK548) (by decide)) (fun _ h_ => h_.2)); (case side4 => exact (jO HO541.out).2.1); rintro e w20 ⟨v551, rfl, ho0, hi, hb, hk⟩; refine ⟨_, rfl, ?_⟩; replace BK533 := jA (KeepBut.blk hk (g' := gb533) (o := .cells #[.int .i64 0, .slice none 0 0] 28 (0, 0)) (zQ1 BK533 NB533_548) NB533_538.out (by simp)); replace BK534 := jA (KeepBut.blk hk (g' := gb534) (o := .cells #[.int .i64 0, .slice none 0 0] 28 (0, 0)) (zQ1 BK534 NB534_548) NB534_538.out (by simp)); replace HO541 := jA (Kd.R_mono (Kd.R_keep (IsS92.apart (show IsS92 w _ g538 t535 t546 t547 from zr9 HI538 NB538_533 NB538_534 NB538_548) (zU HO541 BK548) (by decide)) hk (fun _ h => h.2)) (fun _ h => h.1)); have HO552 := jA (jU (Kd.R_new' ho0 (Kd.R_lt (zU HO545 BK548))) (jW (zr12 HB HI538 GE533 GE534 GE548))); replace HO545 := jA (Kd.R_mono (Kd.R_told (Kd.R_oldK (IsS92.apart (show IsS92 w _ g538 t535 t546 t547 from zr9 HI538 NB538_533 NB538_534 NB538_548) (zU HO545 BK548) (by decide)) hk) (Kd.R_base ho0)) (fun _ h_ => h_.1)); replace BK548 := jA (KeepBut.blk hk (g' := gb548) (o := .cells #[.int .i64 t542, .slice Ao18 t543.length co18] 28 (0, 0)) (zP0 BK548) NB548_538.out (by simp)); replace HB := jA (hb); replace HI538 := jA (hi); (try clear hb); (try clear hb2); (try clear hk); (try clear hi); (try clear ho0)) | ((with_reducible refine jJ (N := 10) rfl ?_); refine zE 10 #[.int .i64 0, .slice none 0 0] 28 ?_; intro gb555 hg w21 hbox hb; replace HO541 := jA (jE (zo HO541) hb); replace HO545 := jA (jE (zo HO545) hb); replace HO552 := jA (jE (zo HO552) hb); have BK555 := jA (hbox); have GW555 := jA ((by rw [hg]; exact (jW (zr12 HB HI538 GE533 GE534 GE548)) : w.heap.size ≤ gb555)); replace HB := jA (jY (zr12 HB HI538 GE533 GE534 GE548) hb); have GE555 := GW555; have NB533_555 := zn hg BK533; replace BK533 := zB BK533 hb; have NB555_533 := jA NB533_555.out.symm; have NB534_555 := zn hg BK534; replace BK534 := zB BK534 hb; have NB555_534 := jA NB534_555.out.symm; have NB548_555 := zn hg BK548; replace BK548 := zB BK548 hb; have NB555_548 := jA NB548_555.out.symm; have NB538_555 := jA ((by rw [hg]; exact Nat.ne_of_lt (IsS92.lt (show IsS92 w _ g538 t535 t553 t554 from zr9 HI538 NB538_533 NB538_534 NB538_548)) : g538 ≠ gb555)); have NB555_538 := jA ((by rw [hg]; exact Nat.ne_of_gt (IsS92.lt (show IsS92 w _ g538 t535 t553 t554 from zr9 HI538 NB538_533 NB538_534 NB538_548)) : gb555 ≠ g538)); replace HI538 := jA (IsS92.below (zr9 HI538 NB538_533 NB538_534 NB538_548) hb); clear hb hbox hg; have hnb22 := NB555_533.out; have hnc22 := NB533_555.out; have hnb23 := NB555_534.out; have hnc23 := NB534_555.out; have hnb24 := NB555_548.out; have hnc24 := NB548_555.out; have hnb25 := NB555_538.out; have hnc25 := NB538_555.out; have hcz26 := zc2 BK555; obtain ⟨Ao27, co27, eo27⟩ := Kd.R_slice HO552.out; subst eo27))
 have n0_ : Aside0 (Kd.R k65 65 ((w21.setCell ⟨gb555, 0, none⟩ (.int .i64 t549)).setCell ⟨gb555, 1, none⟩ (.slice Ao27 t550.length co27)) w.heap.size (fun _ => True) (.slice Ao19 t539.length co19) t539) := ⟨zT HO541 BK555⟩
 have n1_ : Aside0 (Kd.R (Kd.int .i64) 2 ((w21.setCell ⟨gb555, 0, none⟩ (.int .i64 t549)).setCell ⟨gb555, 1, none⟩ (.slice Ao27 t550.length co27)) w.heap.size (fun k_ => some k_ ≠ (.slice Ao27 t550.length co27 : Value).ownBlock) (.slice Ao18 t543.length co18) t543) := ⟨by (with_reducible repeat (first | apply jR | apply jQ | apply jP)); exact Kd.R_mono (Kd.R_far (p := ⟨gb555, 1, none⟩) (Kd.R_far (p := ⟨gb555, 0, none⟩) (Kd.R_types HO545.out BK555.out (by decide)) (fun _ hk => hk.2) (.int .i64 t549)) (fun _ hk => hk.2) (.slice Ao27 t550.length co27)) (fun _ hk => hk.1.2)⟩
 have n2_ : Aside0 (Kd.R (Kd.int .i64) 2 ((w21.setCell ⟨gb555, 0, none⟩ (.int .i64 t549)).setCell ⟨gb555, 1, none⟩ (.slice Ao27 t550.length co27)) w.heap.size (fun k_ => some k_ ≠ (.slice Ao18 t543.length co18 : Value).ownBlock) (.slice Ao27 t550.length co27) t550) := ⟨by (with_reducible repeat (first | apply jR | apply jQ | apply jP)); exact Kd.R_mono (Kd.R_far (p := ⟨gb555, 1, none⟩) (Kd.R_far (p := ⟨gb555, 0, none⟩) (Kd.R_types HO552.out BK555.out (by decide)) (fun _ hk => hk.2) (.int .i64 t549)) (fun _ hk => hk.2) (.slice Ao27 t550.length co27)) (fun _ hk => hk.1.2)⟩
 have n3_ : Aside0 (((w21.setCell ⟨gb555, 0, none⟩ (.int .i64 t549)).setCell ⟨gb555, 1, none⟩ (.slice Ao27 t550.length co27)).heap[gb533]? = some (.cells #[.int .i64 0, .slice none 0 0] 28 (0, 0))) := ⟨zQ1 BK533 NB533_555⟩
 have n4_ : Aside0 (((w21.setCell ⟨gb555, 0, none⟩ (.int .i64 t549)).setCell ⟨gb555, 1, none⟩ (.slice Ao27 t550.length co27)).heap[gb534]? = some (.cells #[.int .i64 0, .slice none 0 0] 28 (0, 0))) := ⟨zQ1 BK534 NB534_555⟩
 have n5_ : Aside0 (((w21.setCell ⟨gb555, 0, none⟩ (.int .i64 t549)).setCell ⟨gb555, 1, none⟩ (.slice Ao27 t550.length co27)).heap[gb548]? = some (.cells #[.int .i64 t542, .slice Ao18 t543.length co18] 28 (0, 0))) := ⟨zQ1 BK548 NB548_555⟩
 have n6_ : Aside0 (((w21.setCell ⟨gb555, 0, none⟩ (.int .i64 t549)).setCell ⟨gb555, 1, none⟩ (.slice Ao27 t550.length co27)).heap[gb555]? = some (.cells #[.int .i64 t549, .slice Ao27 t550.length co27] 28 (0, 0))) := ⟨zP0 BK555⟩
 have n7_ : Aside0 (IsS92 w ((w21.setCell ⟨gb555, 0, none⟩ (.int .i64 t549)).setCell ⟨gb555, 1, none⟩ (.slice Ao27 t550.length co27)) g538 t535 t553 t554) := ⟨zr13 HI538 NB538_533 NB538_534 NB538_548 NB538_555⟩
 have n8_ : Aside0 (Below w.heap.size w ((w21.setCell ⟨gb555, 0, none⟩ (.int .i64 t549)).setCell ⟨gb555, 1, none⟩ (.slice Ao27 t550.length co27))) := ⟨zr14 HB HI538 GE533 GE534 GE548 GE555⟩
 (try clear HO541)
 (try clear HO545)
 (try clear HO552)
 (try clear BK533)
 (try clear BK534)
 (try clear BK548)
 (try clear BK555)
 (try clear HI538)
 (try clear HB)
 generalize ((w21.setCell ⟨gb555, 0, none⟩ (.int .i64 t549)).setCell ⟨gb555, 1, none⟩ (.slice Ao27 t550.length co27)) = w28 at n0_ n1_ n2_ n3_ n4_ n5_ n6_ n7_ n8_ ⊢
 have HO541 := n0_
 have HO545 := n1_
 have HO552 := n2_
 have BK533 := n3_
 have BK534 := n4_
 have BK548 := n5_
 have BK555 := n6_
 have HI538 := n7_
 have HB := n8_
 clear n0_ n1_ n2_ n3_ n4_ n5_ n6_ n7_ n8_
 replace HO541 := jA (jP HO541.out)
 replace HO545 := jA (jP HO545.out)
 replace HO552 := jA (jP HO552.out)
 replace BK533 := jA (blk_drew BK533.out)
 replace BK534 := jA (blk_drew BK534.out)
 replace BK548 := jA (blk_drew BK548.out)
 replace BK555 := jA (blk_drew BK555.out)
 replace HI538 := jA (IsS92.drew HI538.out)
 replace HB := jA (below_drew1 HB.out)
 refine start_ (n := 18) (S := fun w' => w'.cell? ⟨gb548, 0, none⟩ = some (.int .i64 t542) ∧ w'.cell? ⟨gb548, 1, none⟩ = some (.slice Ao18 t543.length co18) ∧ w'.cell? ⟨gb555, 0, none⟩ = some (.int .i64 t549) ∧ w'.cell? ⟨gb555, 1, none⟩ = some (.slice Ao27 t550.length co27)) (ds := []) m18_0 zr rfl rfl ⟨(jF BK548.out 0).trans rfl, (jF BK548.out 1).trans rfl, (jF BK555.out 0).trans rfl, (jF BK555.out 1).trans rfl⟩ (fun hHeld => ?_); refine with_tabW spec_DrawMovePieces.tab4 spec_DrawMovePieces.bits4 (fun HT_ HW_ => ?_)
 generalize w28.drew = w29 at HO541 HO545 HO552 BK533 BK534 BK548 BK555 HI538 HB hHeld ⊢
 refine zp HT_ 0 21 m18_20000 ?_
 refine zp HT_ 3 24 #[true, false, false, true, false, false, false, false, false, false, false, false, false, false, false, false, false, false] ?_
 refine zp HT_ 4 25 #[true, false, false, true, true, false, false, false, false, false, false, false, false, false, false, false, false, false] ?_
 refine zp HT_ 6 27 #[true, false, false, true, true, false, true, false, false, false, false, false, false, false, false, false, false, false] ?_
 refine zp HT_ 7 28 #[true, false, false, true, true, false, true, true, false, false, false, false, false, false, false, false, false, false] ?_
 refine zp HT_ 9 30 #[true, false, false, true, true, false, true, true, false, true, false, false, false, false, false, false, false, false] ?_
 refine zt4 HT_ HW_ hHeld 1 22 #[true, true, false, true, true, false, true, true, false, true, false, false, false, false, false, false, false, false] ?_
 refine zt4 HT_ HW_ hHeld 2 23 #[true, true, true, true, true, false, true, true, false, true, false, false, false, false, false, false, false, false] ?_
 refine one_ (i := 5) (N := some 26) #[true, true, true, true, true, true, true, true, false, true, false, false, false, false, false, false, false, false] rfl rfl (one_of HT_.out zr) (by decide) (fun K hK => ?_)
 refine goes_ Try.func77 zr rfl #[.pointer (some ⟨g538, 0, none⟩), .slice Ao19 t539.length co19] (by rfl) rfl rfl zm ?_
 with_reducible refine (spec_l17Name.calls k g538 t535 t553 t554 _ _ t539 t556 t557 t558 w _ ?side1 ?side2 ?side3 ?side4 A5.out).mono ?_
 (case side1 => exact zr13 HI538 NB538_533 NB538_534 NB538_548 NB538_555)
 (case side2 => exact zr14 HB HI538 GE533 GE534 GE548 GE555)
 (case side3 => exact Kd.C_foot_own (IsS92.apart (show IsS92 w _ g538 t535 t553 t554 from zr13 HI538 NB538_533 NB538_534 NB538_548 NB538_555) (zo HO541) (by decide)) (fun _ h_ => h_.2))
 (case side4 => exact (jO HO541.out).2.1)
 rintro e w30 ⟨rfl, hi, hb, hk⟩
 refine ⟨_, rfl, ?_⟩
 replace BK533 := zK hk BK533 NB533_538
 replace BK534 := zK hk BK534 NB534_538
 replace HO541 := jA (Kd.R_mono (Kd.R_keep (IsS92.apart (show IsS92 w _ g538 t535 t553 t554 from zr13 HI538 NB538_533 NB538_534 NB538_548 NB538_555) (zo HO541) (by decide)) hk (fun _ h => h.2)) (fun _ h => h.1))
 replace HO545 := jA (Kd.R_mono (Kd.R_keep (IsS92.apart (show IsS92 w _ g538 t535 t553 t554 from zr13 HI538 NB538_533 NB538_534 NB538_548 NB538_555) (zo HO545) (by decide)) hk (fun _ h => h.2)) (fun _ h => h.1))
 replace BK548 := zK hk BK548 NB548_538
 replace HO552 := jA (Kd.R_mono (Kd.R_keep (IsS92.apart (show IsS92 w _ g538 t535 t553 t554 from zr13 HI538 NB538_533 NB538_534 NB538_548 NB538_555) (zo HO552) (by decide)) hk (fun _ h => h.2)) (fun _ h => h.1))
 replace BK555 := zK hk BK555 NB555_538
 replace HB := jA (hb)
 replace HI538 := jA (hi)
 (try clear hb)
 (try clear hb2)
 (try clear hk)
 (try clear hi)
 refine hK.out _ _ ⟨(jF BK548.out 0).trans rfl, (jF BK548.out 1).trans rfl, (jF BK555.out 0).trans rfl, (jF BK555.out 1).trans rfl⟩ (fun hHeld => ?_)
 clear hK K
 refine norm_ (a' := ?_) ?_ ?_
 rotate_left
 ·show Act.put _ (some 26) _ = _
  simp only [Act.put, jC, jH, jI, i64_w, i32_w]
  rfl
 refine one_ (i := 8) (N := some 29) m18_3ff00 rfl rfl (one_of HT_.out zr) (by decide) (fun K hK => ?_)
 refine goes_ Try.func79 zr rfl #[.pointer (some ⟨g538, 0, none⟩), .int .i64 4] (by rfl) rfl rfl zm ?_
 with_reducible refine (spec_l01Next.calls g538 t535 t557 t558 4 t559 t560 t561 w _ ?side1 ?side2 A6.out).mono ?_
 (case side1 => exact zr13 HI538 NB538_533 NB538_534 NB538_548 NB538_555)
 (case side2 => exact zr14 HB HI538 GE533 GE534 GE548 GE555)
 rintro e w31 ⟨rfl, hi, hb, hk⟩
 refine ⟨_, rfl, ?_⟩
 replace BK533 := zK hk BK533 NB533_538
 replace BK534 := zK hk BK534 NB534_538
 replace HO541 := jA (Kd.R_mono (Kd.R_keep (IsS92.apart (show IsS92 w _ g538 t535 t557 t558 from zr13 HI538 NB538_533 NB538_534 NB538_548 NB538_555) (zo HO541) (by decide)) hk (fun _ h => h.2)) (fun _ h => h.1))
 replace HO545 := jA (Kd.R_mono (Kd.R_keep (IsS92.apart (show IsS92 w _ g538 t535 t557 t558 from zr13 HI538 NB538_533 NB538_534 NB538_548 NB538_555) (zo HO545) (by decide)) hk (fun _ h => h.2)) (fun _ h => h.1))
 replace BK548 := zK hk BK548 NB548_538
 replace HO552 := jA (Kd.R_mono (Kd.R_keep (IsS92.apart (show IsS92 w _ g538 t535 t557 t558 from zr13 HI538 NB538_533 NB538_534 NB538_548 NB538_555) (zo HO552) (by decide)) hk (fun _ h => h.2)) (fun _ h => h.1))
 replace BK555 := zK hk BK555 NB555_538
 replace HB := jA (hb)
 replace HI538 := jA (hi)
 (try clear hb)
 (try clear hb2)
 (try clear hk)
 (try clear hi)
 refine hK.out _ _ ⟨(jF BK548.out 0).trans rfl, (jF BK548.out 1).trans rfl, (jF BK555.out 0).trans rfl, (jF BK555.out 1).trans rfl⟩ (fun hHeld => ?_)
 clear hK K
 refine norm_ (a' := ?_) ?_ ?_
 rotate_left
 ·show Act.put _ (some 29) _ = _
  simp only [Act.put, jC, jH, jI, i64_w, i32_w]
  rfl
 refine one_ (i := 10) (N := some 31) m18_3ff80 rfl rfl (one_of HT_.out zr) (by decide) (fun K hK => ?_)
 refine goes_ Try.func79 zr rfl #[.pointer (some ⟨g538, 0, none⟩), .int .i64 30] (by rfl) rfl rfl zm ?_
 with_reducible refine (spec_l01Next.calls g538 t535 t560 t561 30 t562 t563 t564 w _ ?side1 ?side2 A7.out).mono ?_
 (case side1 => exact zr13 HI538 NB538_533 NB538_534 NB538_548 NB538_555)
 (case side2 => exact zr14 HB HI538 GE533 GE534 GE548 GE555)
 rintro e w32 ⟨rfl, hi, hb, hk⟩
 refine ⟨_, rfl, ?_⟩
 replace BK533 := zK hk BK533 NB533_538
 replace BK534 := zK hk BK534 NB534_538
 replace HO541 := jA (Kd.R_mono (Kd.R_keep (IsS92.apart (show IsS92 w _ g538 t535 t560 t561 from zr13 HI538 NB538_533 NB538_534 NB538_548 NB538_555) (zo HO541) (by decide)) hk (fun _ h => h.2)) (fun _ h => h.1))
 replace HO545 := jA (Kd.R_mono (Kd.R_keep (IsS92.apart (show IsS92 w _ g538 t535 t560 t561 from zr13 HI538 NB538_533 NB538_534 NB538_548 NB538_555) (zo HO545) (by decide)) hk (fun _ h => h.2)) (fun _ h => h.1))
 replace BK548 := zK hk BK548 NB548_538
 replace HO552 := jA (Kd.R_mono (Kd.R_keep (IsS92.apart (show IsS92 w _ g538 t535 t560 t561 from zr13 HI538 NB538_533 NB538_534 NB538_548 NB538_555) (zo HO552) (by decide)) hk (fun _ h => h.2)) (fun _ h => h.1))
 replace BK555 := zK hk BK555 NB555_538
 replace HB := jA (hb)
 replace HI538 := jA (hi)
 (try clear hb)
 (try clear hb2)
 (try clear hk)
 (try clear hi)
 refine hK.out _ _ ⟨(jF BK548.out 0).trans rfl, (jF BK548.out 1).trans rfl, (jF BK555.out 0).trans rfl, (jF BK555.out 1).trans rfl⟩ (fun hHeld => ?_)
 clear hK K
 refine norm_ (a' := ?_) ?_ ?_
 rotate_left
 ·show Act.put _ (some 31) _ = _
  simp only [Act.put, jC, jH, jI, i64_w, i32_w]
  rfl
 refine one_ (i := 11) (N := some 32) m18_3ffc0 rfl rfl (one_of HT_.out zr) (by decide) (fun K hK => ?_)
 refine Kd.R_lit_step (Kd.int .i64) _ 2 ?hg (N := 32) ?hd (xs := ([t559, 1, 0, t562, 1001] : List Int)) (inner := [.int .i64 t559, .int .i64 1, .int .i64 0, .int .i64 t562, .int .i64 1001]) (ok := fun _ => True) (okp := fun _ => True) ?hr ?hp (fun _ hk => hk) trivial (Below.refl _ _) (Nat.le_refl _) (by simp) ?_; (case hd => rfl); (case hg => rfl); (case hr => first | (go_simp; done) | (go_simp; rfl)); (case hp => exact (Reps.one (show Kd.M (Kd.int .i64) _ _ _ t559 [.int .i64 t559] from rfl) (Reps.one (show Kd.M (Kd.int .i64) _ _ _ 1 [.int .i64 1] from rfl) (Reps.one (show Kd.M (Kd.int .i64) _ _ _ 0 [.int .i64 0] from rfl) (Reps.one (show Kd.M (Kd.int .i64) _ _ _ t562 [.int .i64 t562] from rfl) (Reps.one (show Kd.M (Kd.int .i64) _ _ _ 1001 [.int .i64 1001] from rfl) (Reps.none _ _)))))))
 intro v566 w33 ho34 hb hg_ hnew_
 clear hg_ hnew_
 (first | rw [← Ny565.out] at ho34 | (simp only [Int.reduceToNat] at ho34; rw [← Ny565.out] at ho34))
 replace HO541 := jA (jE (zo HO541) hb)
 have HO567 := jA (jU (Kd.R_new' (Kd.R_new' ho34 (Kd.R_lt (zo HO545))) (Kd.R_lt (zo HO552))) (jW (zr14 HB HI538 GE533 GE534 GE548 GE555)))
 replace HO545 := jA (Kd.R_elder' (zo HO545) (Kd.R_base ho34) hb)
 replace HO552 := jA (Kd.R_elder' (zo HO552) (Kd.R_base ho34) hb)
 replace BK533 := zB BK533 hb
 replace BK534 := zB BK534 hb
 replace BK548 := zB BK548 hb
 replace BK555 := zB BK555 hb
 replace HB := jA (jY (zr14 HB HI538 GE533 GE534 GE548 GE555) hb)
 replace HI538 := jA (IsS92.below (zr13 HI538 NB538_533 NB538_534 NB538_548 NB538_555) hb)
 clear hb ho34
 obtain ⟨Ao35, co35, eo35⟩ := Kd.R_slice HO567.out
 (first | subst eo35 | (injection eo35 with f1_ f2_ f3_; have f4_ := f1_.symm; have f5_ := f3_.symm; clear f1_ f2_ f3_; subst f4_; subst f5_))
 refine hK.out _ _ ⟨(jF BK548.out 0).trans rfl, (jF BK548.out 1).trans rfl, (jF BK555.out 0).trans rfl, (jF BK555.out 1).trans rfl⟩ (fun hHeld => ?_)
 clear hK K
 refine norm_ (a' := ?_) ?_ ?_
 rotate_left
 ·show Act.put _ (some 32) _ = _
  simp only [Act.put, jC, jH, jI, i64_w, i32_w]
  rfl
 refine one_ (i := 12) (N := some 33) m18_3ffe0 rfl rfl (one_of HT_.out zr) (by decide) (fun K hK => ?_)
 refine goes_ Try.func78 zr rfl #[.pointer (some ⟨g538, 0, none⟩), .slice Ao35 y565.length co35] (by rfl) rfl rfl zm ?_
 with_reducible refine (spec_l01Pick.calls g538 t535 t563 t564 _ _ y565 t568 t569 t570 w _ ?side1 ?side2 ?side3 ?side4 ?side5 A8.out).mono ?_
 (case side1 => exact zr13 HI538 NB538_533 NB538_534 NB538_548 NB538_555)
 (case side2 => exact zr14 HB HI538 GE533 GE534 GE548 GE555)
 (case side3 => exact zv HO567)
 (case side4 => exact (jO HO567.out).2.1)
 (case side5 => exact far_slice (IsS92.own_ne HI538.out HO567.out (by decide)))
 rintro e w36 ⟨rfl, hi, hb, hk⟩
 refine ⟨_, rfl, ?_⟩
 replace BK533 := zK hk BK533 NB533_538
 replace BK534 := zK hk BK534 NB534_538
 replace HO541 := jA (Kd.R_mono (Kd.R_keep (IsS92.apart (show IsS92 w _ g538 t535 t563 t564 from zr13 HI538 NB538_533 NB538_534 NB538_548 NB538_555) (zo HO541) (by decide)) hk (fun _ h => h.2)) (fun _ h => h.1))
 replace HO545 := jA (Kd.R_mono (Kd.R_keep (IsS92.apart (show IsS92 w _ g538 t535 t563 t564 from zr13 HI538 NB538_533 NB538_534 NB538_548 NB538_555) (zo HO545) (by decide)) hk (fun _ h => h.2)) (fun _ h => h.1))
 replace BK548 := zK hk BK548 NB548_538
 replace HO552 := jA (Kd.R_mono (Kd.R_keep (IsS92.apart (show IsS92 w _ g538 t535 t563 t564 from zr13 HI538 NB538_533 NB538_534 NB538_548 NB538_555) (zo HO552) (by decide)) hk (fun _ h => h.2)) (fun _ h => h.1))
 replace BK555 := zK hk BK555 NB555_538
 replace HO567 := jA (Kd.R_mono (Kd.R_keep (IsS92.apart (show IsS92 w _ g538 t535 t563 t564 from zr13 HI538 NB538_533 NB538_534 NB538_548 NB538_555) (zo HO567) (by decide)) hk (fun _ h => h.2)) (fun _ h => h.1))
 replace HB := jA (hb)
 replace HI538 := jA (hi)
 (try clear hb)
 (try clear hb2)
 (try clear hk)
 (try clear hi)
 refine hK.out _ _ ⟨(jF BK548.out 0).trans rfl, (jF BK548.out 1).trans rfl, (jF BK555.out 0).trans rfl, (jF BK555.out 1).trans rfl⟩ (fun hHeld => ?_)
 clear hK K
 refine norm_ (a' := ?_) ?_ ?_
 rotate_left
 ·show Act.put _ (some 33) _ = _
  simp only [Act.put, jC, jH, jI, i64_w, i32_w]
  rfl
 refine zp HT_ 13 2 m18_3fff0 ?_
 refine one_ (i := 14) (N := none) m18_3fff8 rfl rfl (one_of HT_.out zr) (by decide) (fun K hK => ?_)
 have hs37 : w36.cell? ⟨gb533, 0, none⟩ = some (.int .i64 0) := (jF BK533.out 0).trans rfl
 have hfs37 := blk_frozen BK533.out 0
 have hns37_1 := NB534_533.out
 have hns37_2 := NB548_533.out
 have hns37_3 := NB555_533.out
 have hms37_1 := NB533_534.out
 have hms37_2 := NB533_548.out
 have hms37_3 := NB533_555.out
 have hs38 : w36.cell? ⟨gb533, 1, none⟩ = some (.slice none 0 0) := (jF BK533.out 1).trans rfl
 have hfs38 := blk_frozen BK533.out 1
 have hns38_1 := NB534_533.out
 have hns38_2 := NB548_533.out
 have hns38_3 := NB555_533.out
 have hms38_1 := NB533_534.out
 have hms38_2 := NB533_548.out
 have hms38_3 := NB533_555.out
 refine skip_ (w1 := ?_) (by rfl) rfl ?_ ?_
 rotate_left
 ·go_simp
  rfl
 refine hK.out _ _ ⟨((jL (p := ⟨gb533, _, none⟩) NB548_533.out _).trans (((jL (p := ⟨gb533, _, none⟩) NB548_533.out _).trans (hHeld.1)))), ((jL (p := ⟨gb533, _, none⟩) NB548_533.out _).trans (((jL (p := ⟨gb533, _, none⟩) NB548_533.out _).trans (hHeld.2.1)))), ((jL (p := ⟨gb533, _, none⟩) NB555_533.out _).trans (((jL (p := ⟨gb533, _, none⟩) NB555_533.out _).trans (hHeld.2.2.1)))), ((jL (p := ⟨gb533, _, none⟩) NB555_533.out _).trans (((jL (p := ⟨gb533, _, none⟩) NB555_533.out _).trans (hHeld.2.2.2))))⟩ (fun hHeld => ?_)
 clear hK K
 refine one_ (i := 15) (N := none) m18_3fffc rfl rfl (one_of HT_.out zr) (by decide) (fun K hK => ?_)
 have hs39 : w36.cell? ⟨gb534, 0, none⟩ = some (.int .i64 0) := (jF BK534.out 0).trans rfl
 have hfs39 := blk_frozen BK534.out 0
 have hns39_0 := NB533_534.out
 have hns39_2 := NB548_534.out
 have hns39_3 := NB555_534.out
 have hms39_0 := NB534_533.out
 have hms39_2 := NB534_548.out
 have hms39_3 := NB534_555.out
 have hs40 : w36.cell? ⟨gb534, 1, none⟩ = some (.slice none 0 0) := (jF BK534.out 1).trans rfl
 have hfs40 := blk_frozen BK534.out 1
 have hns40_0 := NB533_534.out
 have hns40_2 := NB548_534.out
 have hns40_3 := NB555_534.out
 have hms40_0 := NB534_533.out
 have hms40_2 := NB534_548.out
 have hms40_3 := NB534_555.out
 refine skip_ (w1 := ?_) (by rfl) rfl ?_ ?_
 rotate_left
 ·go_simp
  rfl
 refine hK.out _ _ ⟨((jL (p := ⟨gb534, _, none⟩) NB548_534.out _).trans (((jL (p := ⟨gb534, _, none⟩) NB548_534.out _).trans (hHeld.1)))), ((jL (p := ⟨gb534, _, none⟩) NB548_534.out _).trans (((jL (p := ⟨gb534, _, none⟩) NB548_534.out _).trans (hHeld.2.1)))), ((jL (p := ⟨gb534, _, none⟩) NB555_534.out _).trans (((jL (p := ⟨gb534, _, none⟩) NB555_534.out _).trans (hHeld.2.2.1)))), ((jL (p := ⟨gb534, _, none⟩) NB555_534.out _).trans (((jL (p := ⟨gb534, _, none⟩) NB555_534.out _).trans (hHeld.2.2.2))))⟩ (fun hHeld => ?_)
 clear hK K
 refine zp HT_ 16 5 m18_3fffe ?_
 refine zp HT_ 17 6 m18_3ffff ?_
 refine done_ (done_of HT_.out zr) ?_
 try go_wp2
 refine jX (results_list (rs := [.tmp 2, .cell 3 28, .cell 4 28, .tmp 5, .tmp 6]) rfl (by simp) (.tmp (.cell gb533 28 #[.int .i64 t542, .slice Ao18 t543.length co18] (0, 0) _ rfl (zP1 BK533 NB533_534) Try.underlying28 rfl zr (.cell gb534 28 #[.int .i64 t549, .slice Ao27 t550.length co27] (0, 0) _ rfl (zP1 BK534 NB534_533) Try.underlying28 rfl zr (.tmp (.tmp .nil)))))) rfl ?_
 exact ⟨_, _, _, by first | rfl | (simp [errW_none, errW_some] <;> rfl) | (simp [*, errW_none, errW_some] <;> rfl), by (with_reducible repeat (first | apply jR | apply jQ | apply jP)); exact Kd.R_mono (Kd.R_far (p := ⟨gb534, 1, none⟩) (Kd.R_far (p := ⟨gb534, 0, none⟩) (Kd.R_far (p := ⟨gb533, 1, none⟩) (Kd.R_far (p := ⟨gb533, 0, none⟩) (Kd.R_types (Kd.R_types HO541.out BK533.out (by decide)) BK534.out (by decide)) (fun _ hk => hk.1.2) (.int .i64 t542)) (fun _ hk => hk.1.2) (.slice Ao18 t543.length co18)) (fun _ hk => hk.2) (.int .i64 t549)) (fun _ hk => hk.2) (.slice Ao27 t550.length co27)) (fun _ hk => trivial), by (with_reducible repeat (first | apply jR | apply jQ | apply jP)); exact Kd.R_mono (Kd.R_far (p := ⟨gb534, 1, none⟩) (Kd.R_far (p := ⟨gb534, 0, none⟩) (Kd.R_far (p := ⟨gb533, 1, none⟩) (Kd.R_far (p := ⟨gb533, 0, none⟩) (Kd.R_types (Kd.R_types HO545.out BK533.out (by decide)) BK534.out (by decide)) (fun _ hk => hk.1.2) (.int .i64 t542)) (fun _ hk => hk.1.2) (.slice Ao18 t543.length co18)) (fun _ hk => hk.2) (.int .i64 t549)) (fun _ hk => hk.2) (.slice Ao27 t550.length co27)) (fun _ hk => hk.1.1.1), by (with_reducible repeat (first | apply jR | apply jQ | apply jP)); exact Kd.R_mono (Kd.R_far (p := ⟨gb534, 1, none⟩) (Kd.R_far (p := ⟨gb534, 0, none⟩) (Kd.R_far (p := ⟨gb533, 1, none⟩) (Kd.R_far (p := ⟨gb533, 0, none⟩) (Kd.R_types (Kd.R_types HO552.out BK533.out (by decide)) BK534.out (by decide)) (fun _ hk => hk.1.2) (.int .i64 t542)) (fun _ hk => hk.1.2) (.slice Ao18 t543.length co18)) (fun _ hk => hk.2) (.int .i64 t549)) (fun _ hk => hk.2) (.slice Ao27 t550.length co27)) (fun _ hk => hk.1.1.1), zr14 HB HI538 GE533 GE534 GE548 GE555⟩

end Go.Proofs.Ytdgglhfnlljmeaa.PFnMoved
