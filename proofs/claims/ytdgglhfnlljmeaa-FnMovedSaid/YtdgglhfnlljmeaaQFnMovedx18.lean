/- Functions and contracts that FnMoved reaches (19 of 29). -/
import Derived.Test.YtdgglhfnlljmeaaQFnMovedx17
namespace Go.Proofs.Ytdgglhfnlljmeaa.PFnMoved
open Go.RowKit Go.Proofs.YtdgglhfnlljmeaaW.PrintWords Go.Proofs.YtdgglhfnlljmeaaW.PrintLast Go.Proofs.YtdgglhfnlljmeaaW.PrintMore
attribute [local go_sem] max2_int min2_int max_two min_two max_three min_three max_four min_four   -- for this text's walks alone
set_option linter.unusedVariables false
set_option linter.unusedSimpArgs false

/-! ### spec_l01From: function 75 -/
def spec_l01From.l0 : Nat → List Int → Int → List Int → Int → Int → Option (List Int × Int × Int)
 | 0, _, _, _, _, _ => none
 | k + 1, x0, x4, x305000, x305001, x305002 => if x4 < (x0.length : Int) then (if x4 < 64 then (if 0 ≤ x4 then (spec_l01From.l0 k x0 (wrap64 (x4 + 1)) x305000 x305001 (Int.tmod (wrap64 ((wrap64 (x305002 * 83)) + (wrap64 (rd x0 x4)))) 2147483647)) else (none)) else (some (x305000, x305001, x305002))) else (some (x305000, x305001, x305002))
def spec_l01From.f (k : Nat) (l0 : List Int) : Option (List Int × Int × Int) := spec_l01From.l0 k l0 0 l0 0 61043
theorem spec_l01From.mono_l : ∀ k, (∀ y0 y1 y2 y3 y4, LeO (spec_l01From.l0 k y0 y1 y2 y3 y4) (spec_l01From.l0 (k + 1) y0 y1 y2 y3 y4))
 | 0 => fun _ _ _ _ _ r h => by simp [spec_l01From.l0] at h
 | k + 1 => by
  have ih0 := spec_l01From.mono_l k
  ·intro y0 y1 y2 y3 y4
   unfold spec_l01From.l0
   repeat' first
   | (with_reducible exact ih0 _ _ _ _ _)
   | (with_reducible exact LeO.refl _)
   | (with_reducible exact LeO.none _)
   | (with_reducible refine LeO.ite ?_ ?_)
   | (with_reducible refine LeO.bind ?_ (fun _ => ?_))
   | exact ih0 _ _ _ _ _
   | exact LeO.none _
   | refine LeO.ite ?_ ?_
   | refine LeO.bind ?_ (fun _ => ?_)
theorem spec_l01From.mono : ∀ a0 k, LeO (spec_l01From.f k a0) (spec_l01From.f (k + 1) a0) := by
 intro a0 k
 have ih0 := spec_l01From.mono_l k
 unfold spec_l01From.f
 repeat' first
   | (with_reducible exact ih0 _ _ _ _ _)
   | (with_reducible exact LeO.refl _)
   | (with_reducible exact LeO.none _)
   | (with_reducible refine LeO.ite ?_ ?_)
   | (with_reducible refine LeO.bind ?_ (fun _ => ?_))
   | exact ih0 _ _ _ _ _
   | exact LeO.none _
   | refine LeO.ite ?_ ?_
   | refine LeO.bind ?_ (fun _ => ?_)
def spec_l01From.T5 : Bool × List (List Nat × List Nat) := (true, [([], []), ([], []), ([1], [1]), ([2], [2]), ([3], [3]), ([4], [4]), ([], []), ([], []), ([6, 7], [6, 7]), ([8], [8]), ([9], [9]), ([5, 10], [5, 10]), ([11], [11]), ([0, 0, 1, 2, 3, 4, 5, 6, 7, 8, 9, 10, 11, 12], [0]), ([13, 0, 1, 2, 3, 4, 5, 6, 7, 8, 9, 10, 11, 12], [13]), ([14, 12, 0, 1, 2, 3, 4, 5, 6, 7, 8, 9, 10, 11, 12], [12, 14])])
def spec_l01From.B5 : List Nat := [0, 0, 2, 6, 14, 30, 0, 0, 192, 448, 960, 2046, 4094, 8191, 16383, 32767]
theorem spec_l01From.tab5 : rtab .any (opsOf Try.f75 5) = spec_l01From.T5 := by kernel_rfl
theorem spec_l01From.bits5 : waitsOk spec_l01From.T5.2 spec_l01From.B5 = true := by kernel_rfl
set_option maxHeartbeats 8000000 in
set_option maxRecDepth 100000 in
theorem spec_l01From.calls (k : Nat) (A0 : Option Addr) (c0 : Nat) (l0 : List Int) (r1 : List Int) (r2 : Int) (r3 : Int) (w0 w : World) (hB : Below w0.heap.size w0 w) (hr0 : Kd.C (Kd.int .u8) w0 A0 l0.length l0) (hc0 : l0.length ≤ c0) (h : spec_l01From.f k l0 = some (r1, r2, r3)) :
  Calls Try.prog 75 #[.slice A0 l0.length c0] w fun e w' => ∃ g_ : Nat, e = .returned (.pointer (some ⟨g_, 0, none⟩)) ∧ IsS92 w0 w' g_ r1 r2 r3 ∧ Below w0.heap.size w0 w' ∧ Below w.heap.size w w' := by
 have hu92 := Try.underlying92
 have HR0 := jA hr0
 have HC0 := jA hc0
 clear hr0 hc0
 have HBW := jA (Below.refl w.heap.size w)
 have HW0 := jA hB.size
 have HB := jA hB
 clear hB
 have H : (spec_l01From.l0 k l0 0 l0 0 61043) = some (r1, r2, r3) := h
 clear h
 have H' := jA H
 clear H
 go_enter Try.func75, Try.ntmps75
 go_wp2_with (first | ((with_reducible refine jJ (N := 7) rfl ?_); refine zE 7 #[.slice A0 l0.length c0, .int .i64 0, .int .i64 61043] 92 ?_; intro gb304 hg w2 hbox hb; replace HB := zS0 HB hb; have BK304 := jA (hbox); have GW304 := jA ((by rw [hg]; exact (jW (zr1 HBW)) : w.heap.size ≤ gb304)); have GE304 := jA ((Nat.le_trans HW0.out (by rw [hg]; exact (jW (zr1 HBW)) : w.heap.size ≤ gb304) : w0.heap.size ≤ gb304)); replace HBW := jA (jY HBW.out hb); clear hb hbox hg))
 go_loopg [4] k (fun kq v4 w' => ∃ (x4_1 : Int) (x305002_1 : Int), v4 = .int .i64 x4_1 ∧ Aside0 (spec_l01From.l0 kq l0 x4_1 l0 0 x305002_1 = some (r1, r2, r3)) ∧ Aside0 (kq ≤ k) ∧ Aside0 (w'.heap[gb304]? = some (.cells #[(.slice A0 l0.length c0), .int .i64 0, .int .i64 x305002_1] 92 (0, 0))) ∧ Aside0 (Below w0.heap.size w0 w') ∧ Aside0 (Below w.heap.size w w'))
 case atStart => exact ⟨(0), (61043), zz, H', ⟨Nat.le_refl _⟩, ⟨zk BK304⟩, ⟨zb1 HB GE304⟩, ⟨zr2 HBW GW304⟩⟩
 case round =>
  clear H'
  try clear p2
  obtain ⟨x4_1, x305002_1, rfl, HA, HK1, BK304, HB, HBW⟩ := hrel
  cases gk with
  | zero => exact absurd HA.out (by simp [spec_l01From.l0])
  | succ k1 =>
   have H := HA.out
   clear HA
   simp only [spec_l01From.l0] at H
   by_cases c3 : x4_1 < (l0.length : Int)
   ·rw [if_pos c3] at H
    have c3b0 : decide (x4_1 < (l0.length : Int)) = true := jK c3
    clear c3
    by_cases c4 : x4_1 < 64
    ·rw [if_pos c4] at H
     have c4b0 : decide (x4_1 < 64) = true := jK c4
     clear c4
     by_cases c5 : 0 ≤ x4_1
     ·rw [if_pos c5] at H
      have c5b0 : decide (0 ≤ x4_1) = true := jK c5
      clear c5
      have H' := jA H
      clear H
      try go_wp2
      have n0_ := jA (blk_drew BK304.out)
      have n1_ := jA (below_drew1 HB.out)
      have n2_ := jA (below_drew1 HBW.out)
      clear HBW
      have HBW := n2_
      clear n2_
      clear BK304
      clear HB
      have BK304 := n0_
      have HB := n1_
      clear n0_ n1_
      have p305 : 0 ≤ (x4_1 : Int) := jD za
      have q305 : x4_1 < (l0.length : Int) := jD za
      obtain ⟨ad305, e305, hx305_0⟩ := Kd.at_int HR0.out x4_1 p305 q305
      have hw305_0 := hx305_0
      cases e305
      replace hx305_0 := pw_cell_below HB.out hx305_0
      replace p305 := eq_true p305
      replace q305 := eq_true q305
      refine start_ (n := 16) (S := fun w' => w'.cell? ⟨gb304, 0, none⟩ = some (.slice (some ad305) l0.length c0) ∧ w'.cell? ⟨gb304, 1, none⟩ = some (.int .i64 0) ∧ w'.cell? ⟨gb304, 2, none⟩ = some (.int .i64 x305002_1) ∧ w'.cell? (ad305.add (x4_1).toNat) = some (.int .u8 (rd l0 x4_1))) (ds := [15]) m16_0 zr rfl rfl ⟨(jF BK304.out 0).trans rfl, (jF BK304.out 1).trans rfl, (jF BK304.out 2).trans rfl, ((HB.out.cell (World.block_lt_of_cell? _ _ hw305_0)).trans hw305_0)⟩ (fun hHeld => ?_); refine with_tabW spec_l01From.tab5 spec_l01From.bits5 (fun HT_ HW_ => ?_)
      generalize wr.drew = w6 at BK304 HB HBW hx305_0 hHeld ⊢
      refine zp HT_ 0 18 m16_8000 ?_
      refine zp HT_ 1 19 #[true, true, false, false, false, false, false, false, false, false, false, false, false, false, false, false] ?_
      refine zp HT_ 2 20 #[true, true, true, false, false, false, false, false, false, false, false, false, false, false, false, false] ?_
      refine zp HT_ 3 21 #[true, true, true, true, false, false, false, false, false, false, false, false, false, false, false, false] ?_
      refine zp HT_ 6 24 #[true, true, true, true, false, false, true, false, false, false, false, false, false, false, false, false] ?_
      refine zp HT_ 7 25 #[true, true, true, true, false, false, true, true, false, false, false, false, false, false, false, false] ?_
      refine zp HT_ 8 26 #[true, true, true, true, false, false, true, true, true, false, false, false, false, false, false, false] ?_
      refine zt4 HT_ HW_ hHeld 4 22 #[true, true, true, true, true, false, true, true, true, false, false, false, false, false, false, false] ?_
      refine zp HT_ 5 23 m16_ff80 ?_
      refine zt4 HT_ HW_ hHeld 9 27 m16_ffc0 ?_
      refine zp HT_ 10 28 m16_ffe0 ?_
      refine zp HT_ 11 29 m16_fff0 ?_
      refine zp HT_ 12 30 m16_fff8 ?_
      refine zp HT_ 13 31 m16_fffc ?_
      refine zp HT_ 14 32 m16_fffe ?_
      refine last_ (i := 15) (N := none) m16_ffff rfl rfl (one_of HT_.out zr) (by decide) (fun K hK => ?_)
      have hs7 : w6.cell? ⟨gb304, 2, none⟩ = some (.int .i64 x305002_1) := (jF BK304.out 2).trans rfl
      have hfs7 := blk_frozen BK304.out 2
      refine skip_ (w1 := ?_) (by rfl) rfl ?_ ?_
      rotate_left
      ·go_simp
       rfl
      refine hK.out _ _ ?_
      clear hK K
      refine done_ (done_of HT_.out zr) ?_
      try go_wp2
      go_roundg k1
      case measure => have := HK1.out; omega
      case rel => exact ⟨(wrap64 (x4_1 + 1)), (Int.tmod (wrap64 ((wrap64 (x305002_1 * 83)) + (wrap64 (rd l0 x4_1)))) 2147483647), zz, H', ⟨by have := HK1.out; omega⟩, ⟨zP0 BK304⟩, ⟨zb1 HB GE304⟩, ⟨zr2 HBW GW304⟩⟩
     ·rw [if_neg c5] at H
      exact absurd H (by simp)
    ·rw [if_neg c4] at H
     have c4b0 : decide (x4_1 < 64) = false := jV c4
     clear c4
     simp only [jM, jS] at H
     obtain ⟨rfl, rfl, rfl⟩ := H
     go_wp2
     go_ret
     exact ⟨_, rfl, (show IsS92 w0 _ gb304 l0 0 x305002_1 from ⟨_, _, zk BK304, GE304.out, HR0.out⟩), zb1 HB GE304, zr2 HBW GW304⟩
   ·rw [if_neg c3] at H
    have c3b0 : decide (x4_1 < (l0.length : Int)) = false := jV c3
    clear c3
    simp only [jM, jS] at H
    obtain ⟨rfl, rfl, rfl⟩ := H
    go_wp2
    go_ret
    exact ⟨_, rfl, (show IsS92 w0 _ gb304 l0 0 x305002_1 from ⟨_, _, zk BK304, GE304.out, HR0.out⟩), zb1 HB GE304, zr2 HBW GW304⟩

/-! ### spec_l01Next: function 79 -/
def spec_l01Next.f (s0_0 : List Int) (s0_1 : Int) (s0_2 : Int) (a1 : Int) : Option (Int × Int × Int) := if a1 ≤ 1 then (some (0, s0_1, s0_2)) else (if s0_1 < (s0_0.length : Int) then (if 0 ≤ s0_1 then (if a1 ≤ 256 then (if (Int.tmod (wrap64 (s0_1 + 1)) 2) = 0 then (if 0 ≤ (wrap64 ((wrap64 (s0_1 + 1)) - 1)) then (if (wrap64 ((wrap64 (s0_1 + 1)) - 1)) < (s0_0.length : Int) then (if a1 = 0 then (none) else (some (Int.tmod (wrap64 (rd s0_0 (wrap64 ((wrap64 (s0_1 + 1)) - 1)))) a1, wrap64 (s0_1 + 1), Int.tmod (wrap64 ((wrap64 (s0_2 * 48271)) + 29)) 2147483647))) else (none)) else (none)) else (if a1 = 0 then (none) else (some (Int.tmod (wrap64 ((wrap64 (Int.tdiv (Int.tmod (wrap64 ((wrap64 (s0_2 * 48271)) + 29)) 2147483647) 31)) + (wrap64 (rd s0_0 s0_1)))) a1, wrap64 (s0_1 + 1), Int.tmod (wrap64 ((wrap64 (s0_2 * 48271)) + 29)) 2147483647)))) else (if a1 = 0 then (none) else (some (Int.tmod (wrap64 ((wrap64 (Int.tdiv (Int.tmod (wrap64 ((wrap64 (s0_2 * 48271)) + 29)) 2147483647) 31)) + (wrap64 (rd s0_0 s0_1)))) a1, wrap64 (s0_1 + 1), Int.tmod (wrap64 ((wrap64 (s0_2 * 48271)) + 29)) 2147483647)))) else (none)) else (if a1 = 0 then (none) else (some (Int.tmod (wrap64 (Int.tdiv (Int.tmod (wrap64 ((wrap64 (s0_2 * 48271)) + 29)) 2147483647) 31)) a1, s0_1, Int.tmod (wrap64 ((wrap64 (s0_2 * 48271)) + 29)) 2147483647))))
set_option maxHeartbeats 8000000 in
set_option maxRecDepth 100000 in
theorem spec_l01Next.calls (g : Nat) (s0_0 : List Int) (s0_1 : Int) (s0_2 : Int) (a1 : Int) (r1 : Int) (r2 : Int) (r3 : Int) (w0 w : World) (hI : IsS92 w0 w g s0_0 s0_1 s0_2) (hB : Below w0.heap.size w0 w) (h : spec_l01Next.f s0_0 s0_1 s0_2 a1 = some (r1, r2, r3)) :
  Calls Try.prog 79 #[.pointer (some ⟨g, 0, none⟩), .int .i64 a1] w fun e w' => e = .returned (.int .i64 r1) ∧ IsS92 w0 w' g s0_0 r2 r3 ∧ Below w0.heap.size w0 w' ∧ KeepBut w w' g none := by
 have HI0 := jA hI
 have HK := jA (KeepBut.refl w g none)
 have HL := jA hB.size
 clear hI
 have HW0 := jA hB.size
 have HB := jA hB
 clear hB
 have H := h
 unfold spec_l01Next.f at H
 clear h
 by_cases c3 : a1 ≤ 1
 ·rw [if_pos c3] at H
  have c3b0 : decide (a1 ≤ 1) = true := jK c3
  clear c3
  simp only [jM, jS] at H
  obtain ⟨rfl, rfl, rfl⟩ := H
  go_enter Try.func79, Try.ntmps79
  go_wp2
  repeat (go_quiet (fail); try go_wp2)
  go_ret
  exact ⟨ze, zr3 HI0, zr4 HB HI0, zh0 HK⟩
 ·rw [if_neg c3] at H
  have c3b0 : decide (a1 ≤ 1) = false := jV c3
  clear c3
  by_cases c4 : s0_1 < (s0_0.length : Int)
  ·rw [if_pos c4] at H
   have c4b0 : decide (s0_1 < (s0_0.length : Int)) = true := jK c4
   clear c4
   by_cases c5 : 0 ≤ s0_1
   ·rw [if_pos c5] at H
    have c5b0 : decide (0 ≤ s0_1) = true := jK c5
    clear c5
    by_cases c6 : a1 ≤ 256
    ·rw [if_pos c6] at H
     have c6b0 : decide (a1 ≤ 256) = true := jK c6
     clear c6
     by_cases c7 : (Int.tmod (wrap64 (s0_1 + 1)) 2) = 0
     ·rw [if_pos c7] at H
      have c7b0 : ((Int.tmod (wrap64 (s0_1 + 1)) 2) == 0) = true := beq_iff_eq.mpr c7
      have c7b1 : ((Int.tmod (wrap64 (s0_1 + 1)) 2) != 0) = false := bne_eq_false_iff_eq.mpr c7
      clear c7
      obtain ⟨ji8, hji8⟩ : ∃ j_ : Int, (wrap64 ((wrap64 (s0_1 + 1)) - 1)) = j_ := ⟨_, rfl⟩
      replace H : (if 0 ≤ (ji8) then (if (ji8) < (s0_0.length : Int) then (if a1 = 0 then (none) else (some (Int.tmod (wrap64 (rd s0_0 (ji8))) a1, wrap64 (s0_1 + 1), Int.tmod (wrap64 ((wrap64 (s0_2 * 48271)) + 29)) 2147483647))) else (none)) else (none)) = some (r1, r2, r3) := by first | (rw [hji8] at H; exact H) | (simp only [hji8] at H ⊢; exact H)
      have hji8w : (IntKind.i64.wrap ((wrap64 (s0_1 + 1)) - 1)) = ji8 := (i64_w _).trans hji8
      by_cases c9 : 0 ≤ (ji8)
      ·rw [if_pos c9] at H
       have c9b0 : decide (0 ≤ (ji8)) = true := jK c9
       clear c9
       by_cases c10 : (ji8) < (s0_0.length : Int)
       ·rw [if_pos c10] at H
        have c10b0 : decide ((ji8) < (s0_0.length : Int)) = true := jK c10
        clear c10
        by_cases c11 : a1 = 0
        ·rw [if_pos c11] at H
         exact absurd H (by simp)
        ·rw [if_neg c11] at H
         have c11b0 : (a1 == 0) = false := beq_eq_false_iff_ne.mpr c11
         have c11b1 : (a1 != 0) = true := bne_iff_ne.mpr c11
         simp only [jM, jS] at H
         obtain ⟨rfl, rfl, rfl⟩ := H
         obtain ⟨ASz12_0, cSz12_0, HGz12, hgz12, HSz12_0⟩ := HI0.out
         have hcz12_0 := cellS92_0 HGz12
         have hcz12_1 := cellS92_1 HGz12
         have hcz12_2 := cellS92_2 HGz12
         have hfz12_1 := blk_frozen HGz12 1
         have hfz12_2 := blk_frozen HGz12 2
         clear HGz12 hgz12
         have p306 : 0 ≤ (s0_1 : Int) := jD za
         have q306 : s0_1 < (s0_0.length : Int) := jD za
         obtain ⟨ad306, e306, hx306_0⟩ := Kd.at_int HSz12_0 s0_1 p306 q306
         cases e306
         have hn306_0 : ad306.block ≠ g := Nat.ne_of_lt (Nat.lt_of_lt_of_le (by have := World.block_lt_of_cell? _ _ hx306_0; first | rwa [add_block] at this | exact this) (IsS92.ge HI0.out))
         replace hx306_0 := pw_cell_below HB.out hx306_0
         replace hx306_0 := (jL (p := ⟨g, 2, none⟩) (zf hn306_0) (.int .i64 (Int.tmod (wrap64 ((wrap64 (s0_2 * 48271)) + 29)) 2147483647))).trans hx306_0
         (try have hy306_0 := fun (n_ : Nat) => (show (((w.drewN n_).setCell ⟨g, 2, none⟩ (.int .i64 (Int.tmod (wrap64 ((wrap64 (s0_2 * 48271)) + 29)) 2147483647)))).cell? _ = some _ from hx306_0))
         clear hn306_0
         replace p306 := eq_true p306
         replace q306 := eq_true q306
         have p307 : 0 ≤ ((ji8) : Int) := jD za
         have q307 : (ji8) < (s0_0.length : Int) := jD za
         obtain ⟨ad307, e307, hx307_0⟩ := Kd.at_int HSz12_0 (ji8) p307 q307
         obtain rfl : ad306 = ad307 := (by injection e307)
         have hn307_0 : ad306.block ≠ g := Nat.ne_of_lt (Nat.lt_of_lt_of_le (by have := World.block_lt_of_cell? _ _ hx307_0; first | rwa [add_block] at this | exact this) (IsS92.ge HI0.out))
         have hn307_1 : ad306.block ≠ g := Nat.ne_of_lt (Nat.lt_of_lt_of_le (by have := World.block_lt_of_cell? _ _ hx307_0; first | rwa [add_block] at this | exact this) (IsS92.ge HI0.out))
         replace hx307_0 := pw_cell_below HB.out hx307_0
         replace hx307_0 := (jL (p := ⟨g, 2, none⟩) (zf hn307_0) (.int .i64 (Int.tmod (wrap64 ((wrap64 (s0_2 * 48271)) + 29)) 2147483647))).trans hx307_0
         replace hx307_0 := (jL (p := ⟨g, 1, none⟩) (zf hn307_1) (.int .i64 (wrap64 (s0_1 + 1)))).trans hx307_0
         (try have hy307_0 := fun (n_ : Nat) => (show ((((w.drewN n_).setCell ⟨g, 2, none⟩ (.int .i64 (Int.tmod (wrap64 ((wrap64 (s0_2 * 48271)) + 29)) 2147483647))).setCell ⟨g, 1, none⟩ (.int .i64 (wrap64 (s0_1 + 1))))).cell? _ = some _ from hx307_0))
         (try have hv307_0 := fun (n_ : Nat) => (show ((((w.setCell ⟨g, 2, none⟩ (.int .i64 (Int.tmod (wrap64 ((wrap64 (s0_2 * 48271)) + 29)) 2147483647))).drewN n_).setCell ⟨g, 1, none⟩ (.int .i64 (wrap64 (s0_1 + 1))))).cell? _ = some _ from hx307_0))
         clear hn307_0
         clear hn307_1
         replace p307 := eq_true p307
         replace q307 := eq_true q307
         go_enter Try.func79, Try.ntmps79
         go_wp2
         repeat (go_quiet (fail); try go_wp2)
         go_ret
         exact ⟨by first | rfl | (simp [errW_none, errW_some] <;> rfl) | (simp only [← hji8]; first | rfl | (simp [errW_none, errW_some] <;> rfl)) | (simp [*, errW_none, errW_some] <;> rfl), zr3 HI0, zr4 HB HI0, zh0 HK⟩
       ·rw [if_neg c10] at H
        exact absurd H (by simp)
      ·rw [if_neg c9] at H
       exact absurd H (by simp)
     ·rw [if_neg c7] at H
      have c7b0 : ((Int.tmod (wrap64 (s0_1 + 1)) 2) == 0) = false := beq_eq_false_iff_ne.mpr c7
      have c7b1 : ((Int.tmod (wrap64 (s0_1 + 1)) 2) != 0) = true := bne_iff_ne.mpr c7
      by_cases c13 : a1 = 0
      ·rw [if_pos c13] at H
       exact absurd H (by simp)
      ·rw [if_neg c13] at H
       have c13b0 : (a1 == 0) = false := beq_eq_false_iff_ne.mpr c13
       have c13b1 : (a1 != 0) = true := bne_iff_ne.mpr c13
       simp only [jM, jS] at H
       obtain ⟨rfl, rfl, rfl⟩ := H
       obtain ⟨ASz14_0, cSz14_0, HGz14, hgz14, HSz14_0⟩ := HI0.out
       have hcz14_0 := cellS92_0 HGz14
       have hcz14_1 := cellS92_1 HGz14
       have hcz14_2 := cellS92_2 HGz14
       have hfz14_1 := blk_frozen HGz14 1
       have hfz14_2 := blk_frozen HGz14 2
       clear HGz14 hgz14
       have p306 : 0 ≤ (s0_1 : Int) := jD za
       have q306 : s0_1 < (s0_0.length : Int) := jD za
       obtain ⟨ad306, e306, hx306_0⟩ := Kd.at_int HSz14_0 s0_1 p306 q306
       cases e306
       have hn306_0 : ad306.block ≠ g := Nat.ne_of_lt (Nat.lt_of_lt_of_le (by have := World.block_lt_of_cell? _ _ hx306_0; first | rwa [add_block] at this | exact this) (IsS92.ge HI0.out))
       replace hx306_0 := pw_cell_below HB.out hx306_0
       replace hx306_0 := (jL (p := ⟨g, 2, none⟩) (zf hn306_0) (.int .i64 (Int.tmod (wrap64 ((wrap64 (s0_2 * 48271)) + 29)) 2147483647))).trans hx306_0
       (try have hy306_0 := fun (n_ : Nat) => (show (((w.drewN n_).setCell ⟨g, 2, none⟩ (.int .i64 (Int.tmod (wrap64 ((wrap64 (s0_2 * 48271)) + 29)) 2147483647)))).cell? _ = some _ from hx306_0))
       clear hn306_0
       replace p306 := eq_true p306
       replace q306 := eq_true q306
       go_enter Try.func79, Try.ntmps79
       go_wp2
       repeat (go_quiet (fail); try go_wp2)
       go_ret
       exact ⟨ze, zr3 HI0, zr4 HB HI0, zh0 HK⟩
    ·rw [if_neg c6] at H
     have c6b0 : decide (a1 ≤ 256) = false := jV c6
     clear c6
     by_cases c15 : a1 = 0
     ·rw [if_pos c15] at H
      exact absurd H (by simp)
     ·rw [if_neg c15] at H
      have c15b0 : (a1 == 0) = false := beq_eq_false_iff_ne.mpr c15
      have c15b1 : (a1 != 0) = true := bne_iff_ne.mpr c15
      simp only [jM, jS] at H
      obtain ⟨rfl, rfl, rfl⟩ := H
      obtain ⟨ASz16_0, cSz16_0, HGz16, hgz16, HSz16_0⟩ := HI0.out
      have hcz16_0 := cellS92_0 HGz16
      have hcz16_1 := cellS92_1 HGz16
      have hcz16_2 := cellS92_2 HGz16
      have hfz16_1 := blk_frozen HGz16 1
      have hfz16_2 := blk_frozen HGz16 2
      clear HGz16 hgz16
      have p306 : 0 ≤ (s0_1 : Int) := jD za
      have q306 : s0_1 < (s0_0.length : Int) := jD za
      obtain ⟨ad306, e306, hx306_0⟩ := Kd.at_int HSz16_0 s0_1 p306 q306
      cases e306
      have hn306_0 : ad306.block ≠ g := Nat.ne_of_lt (Nat.lt_of_lt_of_le (by have := World.block_lt_of_cell? _ _ hx306_0; first | rwa [add_block] at this | exact this) (IsS92.ge HI0.out))
      replace hx306_0 := pw_cell_below HB.out hx306_0
      replace hx306_0 := (jL (p := ⟨g, 2, none⟩) (zf hn306_0) (.int .i64 (Int.tmod (wrap64 ((wrap64 (s0_2 * 48271)) + 29)) 2147483647))).trans hx306_0
      (try have hy306_0 := fun (n_ : Nat) => (show (((w.drewN n_).setCell ⟨g, 2, none⟩ (.int .i64 (Int.tmod (wrap64 ((wrap64 (s0_2 * 48271)) + 29)) 2147483647)))).cell? _ = some _ from hx306_0))
      clear hn306_0
      replace p306 := eq_true p306
      replace q306 := eq_true q306
      go_enter Try.func79, Try.ntmps79
      go_wp2
      repeat (go_quiet (fail); try go_wp2)
      go_ret
      exact ⟨ze, zr3 HI0, zr4 HB HI0, zh0 HK⟩
   ·rw [if_neg c5] at H
    exact absurd H (by simp)
  ·rw [if_neg c4] at H
   have c4b0 : decide (s0_1 < (s0_0.length : Int)) = false := jV c4
   clear c4
   by_cases c17 : a1 = 0
   ·rw [if_pos c17] at H
    exact absurd H (by simp)
   ·rw [if_neg c17] at H
    have c17b0 : (a1 == 0) = false := beq_eq_false_iff_ne.mpr c17
    have c17b1 : (a1 != 0) = true := bne_iff_ne.mpr c17
    simp only [jM, jS] at H
    obtain ⟨rfl, rfl, rfl⟩ := H
    obtain ⟨ASz18_0, cSz18_0, HGz18, hgz18, HSz18_0⟩ := HI0.out
    have hcz18_0 := cellS92_0 HGz18
    have hcz18_1 := cellS92_1 HGz18
    have hcz18_2 := cellS92_2 HGz18
    have hfz18_1 := blk_frozen HGz18 1
    have hfz18_2 := blk_frozen HGz18 2
    clear HGz18 hgz18
    go_enter Try.func79, Try.ntmps79
    go_wp2
    repeat (go_quiet (fail); try go_wp2)
    go_ret
    exact ⟨ze, zr3 HI0, zr4 HB HI0, zh0 HK⟩

/-! ### spec_l01Pick: function 78 -/
def spec_l01Pick.f (s0_0 : List Int) (s0_1 : Int) (s0_2 : Int) (l1 : List Int) : Option (Int × Int × Int) := (spec_l01Next.f s0_0 s0_1 s0_2 (l1.length : Int)).bind fun bt308 => (if 0 ≤ bt308.1 then (if bt308.1 < (l1.length : Int) then (some (rd l1 bt308.1, bt308.2.1, bt308.2.2)) else (none)) else (none))
set_option maxHeartbeats 8000000 in
set_option maxRecDepth 100000 in
theorem spec_l01Pick.calls (g : Nat) (s0_0 : List Int) (s0_1 : Int) (s0_2 : Int) (A1 : Option Addr) (c1 : Nat) (l1 : List Int) (r1 : Int) (r2 : Int) (r3 : Int) (w0 w : World) (hI : IsS92 w0 w g s0_0 s0_1 s0_2) (hB : Below w0.heap.size w0 w) (hr1 : Kd.C (Kd.int .i64) w A1 l1.length l1) (hc1 : l1.length ≤ c1) (hf1 : ∀ ad, A1 = some ad → 0 < l1.length → ad.block ≠ g) (h : spec_l01Pick.f s0_0 s0_1 s0_2 l1 = some (r1, r2, r3)) :
  Calls Try.prog 78 #[.pointer (some ⟨g, 0, none⟩), .slice A1 l1.length c1] w fun e w' => e = .returned (.int .i64 r1) ∧ IsS92 w0 w' g s0_0 r2 r3 ∧ Below w0.heap.size w0 w' ∧ KeepBut w w' g none := by
 have HR1 := jA hr1
 have HC1 := jA hc1
 clear hr1 hc1
 have HI0 := jA hI
 have HK := jA (KeepBut.refl w g none)
 have HL := jA hB.size
 clear hI
 have HW0 := jA hB.size
 have HB := jA hB
 clear hB
 have H := h
 unfold spec_l01Pick.f at H
 clear h
 replace H := jB.mp H
 obtain ⟨⟨t308, t309, t310⟩, A30, H⟩ := H
 try dsimp only at H
 have A3 := jA A30
 clear A30
 by_cases c4 : 0 ≤ t308
 ·rw [if_pos c4] at H
  have c4b0 : decide (0 ≤ t308) = true := jK c4
  clear c4
  by_cases c5 : t308 < (l1.length : Int)
  ·rw [if_pos c5] at H
   have c5b0 : decide (t308 < (l1.length : Int)) = true := jK c5
   clear c5
   simp only [jM, jS] at H
   obtain ⟨rfl, rfl, rfl⟩ := H
   go_enter Try.func78, Try.ntmps78
   go_wp2_with (first | ((with_reducible refine jG (f := 79) rfl ?_); refine zL (some 9) Try.func79 #[.pointer (some ⟨g, 0, none⟩), .int .i64 (l1.length : Int)] ?_; (with_reducible refine (spec_l01Next.calls g s0_0 s0_1 s0_2 (l1.length : Int) t308 t309 t310 w0 _ ?side1 ?side2 A3.out).mono ?_); (case side1 => exact zr3 HI0); (case side2 => exact zr4 HB HI0); rintro e w6 ⟨rfl, hi, hb, hk⟩; refine ⟨_, rfl, ?_⟩; replace HK := jA (KeepBut.trans (zh0 HK) hk (.inl rfl)); replace HB := jA (hb); replace HI0 := jA (hi); (try clear hb); (try clear hb2); (try clear hk); (try clear hi); have p311 : 0 ≤ (t308 : Int) := jD za; have q311 : t308 < (l1.length : Int) := jD za; obtain ⟨ad311, e311, hx311_0⟩ := Kd.at_int HR1.out t308 p311 q311; cases e311; replace hx311_0 := keep_cell HK.out hx311_0 (by first | (rw [add_block]; exact hf1 _ rfl (by omega)) | exact hf1 _ rfl (by omega) | exact hf1 ad311 rfl (by omega)); replace p311 := eq_true p311; replace q311 := eq_true q311))
   go_ret
   exact ⟨ze, zr3 HI0, zr4 HB HI0, zh0 HK⟩
  ·rw [if_neg c5] at H
   exact absurd H (by simp)
 ·rw [if_neg c4] at H
  exact absurd H (by simp)

end Go.Proofs.Ytdgglhfnlljmeaa.PFnMoved
