/- Functions and contracts that FnTries reaches (8 of 13). -/
import Derived.Test.YthnpffomoaeeoaaQFnTriesx6
namespace Go.Proofs.Ythnpffomoaeeoaa.PFnTries
open Go.RowKit Go.Proofs.YthnpffomoaeeoaaW.PrintWords Go.Proofs.YthnpffomoaeeoaaW.PrintLast Go.Proofs.YthnpffomoaeeoaaW.PrintMore
attribute [local go_sem] max2_int min2_int max_two min_two max_three min_three max_four min_four   -- for this text's walks alone
set_option linter.unusedVariables false
set_option linter.unusedSimpArgs false

/-! ### spec_l01From: function 61 -/
def spec_l01From.l0 : Nat → List Int → Int → List Int → Int → Int → Option (List Int × Int × Int)
 | 0, _, _, _, _, _ => none
 | k + 1, x0, x4, x225000, x225001, x225002 => if x4 < (x0.length : Int) then (if x4 < 64 then (if 0 ≤ x4 then (spec_l01From.l0 k x0 (wrap64 (x4 + 1)) x225000 x225001 (Int.tmod (wrap64 ((wrap64 (x225002 * 83)) + (wrap64 (rd x0 x4)))) 2147483647)) else (none)) else (some (x225000, x225001, x225002))) else (some (x225000, x225001, x225002))
def spec_l01From.f (k : Nat) (l0 : List Int) : Option (List Int × Int × Int) := spec_l01From.l0 k l0 0 l0 0 61043
theorem spec_l01From.mono_l : ∀ k, (∀ y0 y1 y2 y3 y4, LeO (spec_l01From.l0 k y0 y1 y2 y3 y4) (spec_l01From.l0 (k + 1) y0 y1 y2 y3 y4))
 | 0 => fun _ _ _ _ _ r h => by simp [spec_l01From.l0] at h
 | k + 1 => by
  have ih0 := spec_l01From.mono_l k
  ·intro y0 y1 y2 y3 y4
   unfold spec_l01From.l0
   repeat' first
   | (with_reducible exact ih0 _ _ _ _ _)
   | (with_reducible exact LeO.refl _)
   | (with_reducible exact LeO.none _)
   | (with_reducible refine LeO.ite ?_ ?_)
   | (with_reducible refine LeO.bind ?_ (fun _ => ?_))
   | exact ih0 _ _ _ _ _
   | exact LeO.none _
   | refine LeO.ite ?_ ?_
   | refine LeO.bind ?_ (fun _ => ?_)
theorem spec_l01From.mono : ∀ a0 k, LeO (spec_l01From.f k a0) (spec_l01From.f (k + 1) a0) := by
 intro a0 k
 have ih0 := spec_l01From.mono_l k
 unfold spec_l01From.f
 repeat' first
   | (with_reducible exact ih0 _ _ _ _ _)
   | (with_reducible exact LeO.refl _)
   | (with_reducible exact LeO.none _)
   | (with_reducible refine LeO.ite ?_ ?_)
   | (with_reducible refine LeO.bind ?_ (fun _ => ?_))
   | exact ih0 _ _ _ _ _
   | exact LeO.none _
   | refine LeO.ite ?_ ?_
   | refine LeO.bind ?_ (fun _ => ?_)
def spec_l01From.T5 : Bool × List (List Nat × List Nat) := (true, [([], []), ([], []), ([1], [1]), ([2], [2]), ([3], [3]), ([4], [4]), ([], []), ([], []), ([6, 7], [6, 7]), ([8], [8]), ([9], [9]), ([5, 10], [5, 10]), ([11], [11]), ([0, 0, 1, 2, 3, 4, 5, 6, 7, 8, 9, 10, 11, 12], [0]), ([13, 0, 1, 2, 3, 4, 5, 6, 7, 8, 9, 10, 11, 12], [13]), ([14, 12, 0, 1, 2, 3, 4, 5, 6, 7, 8, 9, 10, 11, 12], [12, 14])])
def spec_l01From.B5 : List Nat := [0, 0, 2, 6, 14, 30, 0, 0, 192, 448, 960, 2046, 4094, 8191, 16383, 32767]
theorem spec_l01From.tab5 : rtab .any (opsOf Try.f61 5) = spec_l01From.T5 := by kernel_rfl
theorem spec_l01From.bits5 : waitsOk spec_l01From.T5.2 spec_l01From.B5 = true := by kernel_rfl
set_option maxHeartbeats 8000000 in
set_option maxRecDepth 100000 in
theorem spec_l01From.calls (k : Nat) (A0 : Option Addr) (c0 : Nat) (l0 : List Int) (r1 : List Int) (r2 : Int) (r3 : Int) (w0 w : World) (hB : Below w0.heap.size w0 w) (hr0 : Kd.C (Kd.int .u8) w0 A0 l0.length l0) (hc0 : l0.length ≤ c0) (h : spec_l01From.f k l0 = some (r1, r2, r3)) :
  Calls Try.prog 61 #[.slice A0 l0.length c0] w fun e w' => ∃ g_ : Nat, e = .returned (.pointer (some ⟨g_, 0, none⟩)) ∧ IsS67 w0 w' g_ r1 r2 r3 ∧ Below w0.heap.size w0 w' ∧ Below w.heap.size w w' := by
 have hu67 := Try.underlying67
 have HR0 := jA hr0
 have HC0 := jA hc0
 clear hr0 hc0
 have HBW := jA (Below.refl w.heap.size w)
 have HW0 := jA hB.size
 have HB := jA hB
 clear hB
 have H : (spec_l01From.l0 k l0 0 l0 0 61043) = some (r1, r2, r3) := h
 clear h
 have H' := jA H
 clear H
 go_enter Try.func61, Try.ntmps61
 go_wp2_with (first | ((with_reducible refine gate_dst (N := 7) rfl ?_); refine box_event ?hg (N := 7) ?hd (cs := #[.slice A0 l0.length c0, .int .i64 0, .int .i64 61043]) (t := 67) ?hr ?_; (case hd => rfl); (case hg => rfl); (case hr => first | (go_simp; done) | (go_simp; rfl)); intro gb224 hg w2 hbox hb; have n0_ := jA (jH HBW.out hb); have n1_ := jA (jH (zb0 HB) hb); have n2_ := jA (hbox); have n3_ := jA ((by rw [hg]; exact (jP (by repeat (first | (with_reducible first | exact HBW.out | apply jV | apply jJ | apply jL) | exact HBW.out))) : w.heap.size ≤ gb224)); have n4_ := jA ((Nat.le_trans HW0.out (by rw [hg]; exact (jP (by repeat (first | (with_reducible first | exact HBW.out | apply jV | apply jJ | apply jL) | exact HBW.out))) : w.heap.size ≤ gb224) : w0.heap.size ≤ gb224)); clear HBW; clear HB; have HBW := n0_; have HB := n1_; have BK224 := n2_; have GW224 := n3_; have GE224 := n4_; clear n0_ n1_ n2_ n3_ n4_; clear hb hbox hg))
 go_loopg [4] k (fun kq v4 w' => ∃ (x4_1 : Int) (x225002_1 : Int), v4 = .int .i64 x4_1 ∧ Aside0 (spec_l01From.l0 kq l0 x4_1 l0 0 x225002_1 = some (r1, r2, r3)) ∧ Aside0 (kq ≤ k) ∧ Aside0 (w'.heap[gb224]? = some (.cells #[(.slice A0 l0.length c0), .int .i64 0, .int .i64 x225002_1] 67 (0, 0))) ∧ Aside0 (Below w0.heap.size w0 w') ∧ Aside0 (Below w.heap.size w w'))
 case atStart => exact ⟨(0), (61043), zz, H', ⟨Nat.le_refl _⟩, ⟨by (with_reducible repeat (first | refine jX ?_ _ | refine jW ?_ | refine jY ?_ _)); exact BK224.out⟩, ⟨zb1 HB GE224⟩, ⟨by repeat (first | (with_reducible first | exact HBW.out | apply jV | apply jJ | apply jL | refine jO ?_ GW224.out) | exact HBW.out)⟩⟩
 case round =>
  clear H'
  try clear p2
  obtain ⟨x4_1, x225002_1, rfl, HA, HK1, BK224, HB, HBW⟩ := hrel
  cases gk with
  | zero => exact absurd HA.out (by simp [spec_l01From.l0])
  | succ k1 =>
   have H := HA.out
   clear HA
   simp only [spec_l01From.l0] at H
   by_cases c3 : x4_1 < (l0.length : Int)
   ·rw [if_pos c3] at H
    have c3b0 : decide (x4_1 < (l0.length : Int)) = true := jZ c3
    clear c3
    by_cases c4 : x4_1 < 64
    ·rw [if_pos c4] at H
     have c4b0 : decide (x4_1 < 64) = true := jZ c4
     clear c4
     by_cases c5 : 0 ≤ x4_1
     ·rw [if_pos c5] at H
      have c5b0 : decide (0 ≤ x4_1) = true := jZ c5
      clear c5
      have H' := jA H
      clear H
      try go_wp2
      have n0_ := jA (jW BK224.out)
      have n1_ := jA (jL HB.out)
      have n2_ := jA (jL HBW.out)
      clear HBW
      have HBW := n2_
      clear n2_
      clear BK224
      clear HB
      have BK224 := n0_
      have HB := n1_
      clear n0_ n1_
      have p225 : 0 ≤ (x4_1 : Int) := jI za
      have q225 : x4_1 < (l0.length : Int) := jI za
      obtain ⟨ad225, e225, hx225_0⟩ := Kd.at_int HR0.out x4_1 p225 q225
      have hw225_0 := hx225_0
      cases e225
      replace hx225_0 := pw_cell_below HB.out hx225_0
      replace p225 := eq_true p225
      replace q225 := eq_true q225
      refine start_ (n := 16) (S := fun w' => w'.cell? ⟨gb224, 0, none⟩ = some (.slice (some ad225) l0.length c0) ∧ w'.cell? ⟨gb224, 1, none⟩ = some (.int .i64 0) ∧ w'.cell? ⟨gb224, 2, none⟩ = some (.int .i64 x225002_1) ∧ w'.cell? (ad225.add (x4_1).toNat) = some (.int .u8 (rd l0 x4_1))) (ds := [15]) #[false, false, false, false, false, false, false, false, false, false, false, false, false, false, false, false] zr rfl rfl ⟨(jC BK224.out 0).trans rfl, (jC BK224.out 1).trans rfl, (jC BK224.out 2).trans rfl, ((HB.out.cell (ja _ _ hw225_0)).trans hw225_0)⟩ (fun hHeld => ?_); refine with_tabW spec_l01From.tab5 spec_l01From.bits5 (fun HT_ HW_ => ?_)
      generalize wr.drew = w6 at BK224 HB HBW hx225_0 hHeld ⊢
      refine zp HT_ 0 18 #[true, false, false, false, false, false, false, false, false, false, false, false, false, false, false, false] ?_
      refine zp HT_ 1 19 #[true, true, false, false, false, false, false, false, false, false, false, false, false, false, false, false] ?_
      refine zp HT_ 2 20 #[true, true, true, false, false, false, false, false, false, false, false, false, false, false, false, false] ?_
      refine zp HT_ 3 21 #[true, true, true, true, false, false, false, false, false, false, false, false, false, false, false, false] ?_
      refine zp HT_ 6 24 #[true, true, true, true, false, false, true, false, false, false, false, false, false, false, false, false] ?_
      refine zp HT_ 7 25 #[true, true, true, true, false, false, true, true, false, false, false, false, false, false, false, false] ?_
      refine zp HT_ 8 26 #[true, true, true, true, false, false, true, true, true, false, false, false, false, false, false, false] ?_
      refine zt4 HT_ HW_ hHeld 4 22 #[true, true, true, true, true, false, true, true, true, false, false, false, false, false, false, false] ?_
      refine zp HT_ 5 23 #[true, true, true, true, true, true, true, true, true, false, false, false, false, false, false, false] ?_
      refine zt4 HT_ HW_ hHeld 9 27 #[true, true, true, true, true, true, true, true, true, true, false, false, false, false, false, false] ?_
      refine zp HT_ 10 28 #[true, true, true, true, true, true, true, true, true, true, true, false, false, false, false, false] ?_
      refine zp HT_ 11 29 #[true, true, true, true, true, true, true, true, true, true, true, true, false, false, false, false] ?_
      refine zp HT_ 12 30 #[true, true, true, true, true, true, true, true, true, true, true, true, true, false, false, false] ?_
      refine zp HT_ 13 31 #[true, true, true, true, true, true, true, true, true, true, true, true, true, true, false, false] ?_
      refine zp HT_ 14 32 #[true, true, true, true, true, true, true, true, true, true, true, true, true, true, true, false] ?_
      refine last_ (i := 15) (N := none) #[true, true, true, true, true, true, true, true, true, true, true, true, true, true, true, true] rfl rfl (one_of HT_.out zr) (by decide) (fun K hK => ?_)
      have hs7 : w6.cell? ⟨gb224, 2, none⟩ = some (.int .i64 x225002_1) := (jC BK224.out 2).trans rfl
      have hfs7 := jd BK224.out 2
      refine skip_ (w1 := ?_) (by rfl) rfl ?_ ?_
      rotate_left
      ·go_simp
       rfl
      refine hK.out _ _ ?_
      clear hK K
      refine done_ (done_of HT_.out zr) ?_
      try go_wp2
      go_roundg k1
      case measure => have := HK1.out; omega
      case rel => exact ⟨(wrap64 (x4_1 + 1)), (Int.tmod (wrap64 ((wrap64 (x225002_1 * 83)) + (wrap64 (rd l0 x4_1)))) 2147483647), zz, H', ⟨by have := HK1.out; omega⟩, ⟨by (with_reducible repeat (first | refine jX ?_ _ | refine jW ?_ | refine jY ?_ _)); refine blk_put (cs := #[.slice (some ad225) l0.length c0, .int .i64 0, .int .i64 x225002_1]) ?_ 2 _ rfl; (with_reducible repeat (first | refine jX ?_ _ | refine jW ?_ | refine jY ?_ _)); exact BK224.out⟩, ⟨zb1 HB GE224⟩, ⟨by repeat (first | (with_reducible first | exact HBW.out | apply jV | apply jJ | apply jL | refine jO ?_ GW224.out) | exact HBW.out)⟩⟩
     ·rw [if_neg c5] at H
      exact absurd H (by simp)
    ·rw [if_neg c4] at H
     have c4b0 : decide (x4_1 < 64) = false := jg c4
     clear c4
     simp only [jf, jh] at H
     obtain ⟨rfl, rfl, rfl⟩ := H
     go_wp2
     go_ret
     exact ⟨_, rfl, (show IsS67 w0 _ gb224 l0 0 x225002_1 from ⟨_, _, by (with_reducible repeat (first | refine jX ?_ _ | refine jW ?_ | refine jY ?_ _)); exact BK224.out, GE224.out, HR0.out⟩), zb1 HB GE224, by repeat (first | (with_reducible first | exact HBW.out | apply jV | apply jJ | apply jL | refine jO ?_ GW224.out) | exact HBW.out)⟩
   ·rw [if_neg c3] at H
    have c3b0 : decide (x4_1 < (l0.length : Int)) = false := jg c3
    clear c3
    simp only [jf, jh] at H
    obtain ⟨rfl, rfl, rfl⟩ := H
    go_wp2
    go_ret
    exact ⟨_, rfl, (show IsS67 w0 _ gb224 l0 0 x225002_1 from ⟨_, _, by (with_reducible repeat (first | refine jX ?_ _ | refine jW ?_ | refine jY ?_ _)); exact BK224.out, GE224.out, HR0.out⟩), zb1 HB GE224, by repeat (first | (with_reducible first | exact HBW.out | apply jV | apply jJ | apply jL | refine jO ?_ GW224.out) | exact HBW.out)⟩

/-! ### spec_l01Next: function 62 -/
def spec_l01Next.f (s0_0 : List Int) (s0_1 : Int) (s0_2 : Int) (a1 : Int) : Option (Int × Int × Int) := if a1 ≤ 1 then (some (0, s0_1, s0_2)) else (if s0_1 < (s0_0.length : Int) then (if 0 ≤ s0_1 then (if a1 ≤ 256 then (if (Int.tmod (wrap64 (s0_1 + 1)) 2) = 0 then (if 0 ≤ (wrap64 ((wrap64 (s0_1 + 1)) - 1)) then (if (wrap64 ((wrap64 (s0_1 + 1)) - 1)) < (s0_0.length : Int) then (if a1 = 0 then (none) else (some (Int.tmod (wrap64 (rd s0_0 (wrap64 ((wrap64 (s0_1 + 1)) - 1)))) a1, wrap64 (s0_1 + 1), Int.tmod (wrap64 ((wrap64 (s0_2 * 48271)) + 29)) 2147483647))) else (none)) else (none)) else (if a1 = 0 then (none) else (some (Int.tmod (wrap64 ((wrap64 (Int.tdiv (Int.tmod (wrap64 ((wrap64 (s0_2 * 48271)) + 29)) 2147483647) 31)) + (wrap64 (rd s0_0 s0_1)))) a1, wrap64 (s0_1 + 1), Int.tmod (wrap64 ((wrap64 (s0_2 * 48271)) + 29)) 2147483647)))) else (if a1 = 0 then (none) else (some (Int.tmod (wrap64 ((wrap64 (Int.tdiv (Int.tmod (wrap64 ((wrap64 (s0_2 * 48271)) + 29)) 2147483647) 31)) + (wrap64 (rd s0_0 s0_1)))) a1, wrap64 (s0_1 + 1), Int.tmod (wrap64 ((wrap64 (s0_2 * 48271)) + 29)) 2147483647)))) else (none)) else (if a1 = 0 then (none) else (some (Int.tmod (wrap64 (Int.tdiv (Int.tmod (wrap64 ((wrap64 (s0_2 * 48271)) + 29)) 2147483647) 31)) a1, s0_1, Int.tmod (wrap64 ((wrap64 (s0_2 * 48271)) + 29)) 2147483647))))
set_option maxHeartbeats 8000000 in
set_option maxRecDepth 100000 in
theorem spec_l01Next.calls (g : Nat) (s0_0 : List Int) (s0_1 : Int) (s0_2 : Int) (a1 : Int) (r1 : Int) (r2 : Int) (r3 : Int) (w0 w : World) (hI : IsS67 w0 w g s0_0 s0_1 s0_2) (hB : Below w0.heap.size w0 w) (h : spec_l01Next.f s0_0 s0_1 s0_2 a1 = some (r1, r2, r3)) :
  Calls Try.prog 62 #[.pointer (some ⟨g, 0, none⟩), .int .i64 a1] w fun e w' => e = .returned (.int .i64 r1) ∧ IsS67 w0 w' g s0_0 r2 r3 ∧ Below w0.heap.size w0 w' ∧ KeepBut w w' g none := by
 have HI0 := jA hI
 have HK := jA (KeepBut.refl w g none)
 have HL := jA hB.size
 clear hI
 have HW0 := jA hB.size
 have HB := jA hB
 clear hB
 have H : (if a1 ≤ 1 then (some (0, s0_1, s0_2)) else (if s0_1 < (s0_0.length : Int) then (if 0 ≤ s0_1 then (if a1 ≤ 256 then (if (Int.tmod (wrap64 (s0_1 + 1)) 2) = 0 then (if 0 ≤ (wrap64 ((wrap64 (s0_1 + 1)) - 1)) then (if (wrap64 ((wrap64 (s0_1 + 1)) - 1)) < (s0_0.length : Int) then (if a1 = 0 then (none) else (some (Int.tmod (wrap64 (rd s0_0 (wrap64 ((wrap64 (s0_1 + 1)) - 1)))) a1, wrap64 (s0_1 + 1), Int.tmod (wrap64 ((wrap64 (s0_2 * 48271)) + 29)) 2147483647))) else (none)) else (none)) else (if a1 = 0 then (none) else (some (Int.tmod (wrap64 ((wrap64 (Int.tdiv (Int.tmod (wrap64 ((wrap64 (s0_2 * 48271)) + 29)) 2147483647) 31)) + (wrap64 (rd s0_0 s0_1)))) a1, wrap64 (s0_1 + 1), Int.tmod (wrap64 ((wrap64 (s0_2 * 48271)) + 29)) 2147483647)))) else (if a1 = 0 then (none) else (some (Int.tmod (wrap64 ((wrap64 (Int.tdiv (Int.tmod (wrap64 ((wrap64 (s0_2 * 48271)) + 29)) 2147483647) 31)) + (wrap64 (rd s0_0 s0_1)))) a1, wrap64 (s0_1 + 1), Int.tmod (wrap64 ((wrap64 (s0_2 * 48271)) + 29)) 2147483647)))) else (none)) else (if a1 = 0 then (none) else (some (Int.tmod (wrap64 (Int.tdiv (Int.tmod (wrap64 ((wrap64 (s0_2 * 48271)) + 29)) 2147483647) 31)) a1, s0_1, Int.tmod (wrap64 ((wrap64 (s0_2 * 48271)) + 29)) 2147483647))))) = some (r1, r2, r3) := h
 clear h
 by_cases c3 : a1 ≤ 1
 ·rw [if_pos c3] at H
  have c3b0 : decide (a1 ≤ 1) = true := jZ c3
  clear c3
  simp only [jf, jh] at H
  obtain ⟨rfl, rfl, rfl⟩ := H
  go_enter Try.func62, Try.ntmps62
  go_wp2
  repeat (go_quiet (fail); try go_wp2)
  go_ret
  exact ⟨by first | rfl | (simp [errW_none, errW_some] <;> rfl) | (simp [*, errW_none, errW_some] <;> rfl), by repeat (first | (with_reducible first | exact HI0.out | apply IsS67.alloc | apply IsS67.drewN | apply IsS67.drew | apply IsS67.set_1 | apply IsS67.set_2) | exact HI0.out), by repeat (first | (with_reducible first | exact HB.out | apply jV | apply jJ | apply jL | refine jO ?_ (IsS67.ge HI0.out)) | exact HB.out), zh0 HK⟩
 ·rw [if_neg c3] at H
  have c3b0 : decide (a1 ≤ 1) = false := jg c3
  clear c3
  by_cases c4 : s0_1 < (s0_0.length : Int)
  ·rw [if_pos c4] at H
   have c4b0 : decide (s0_1 < (s0_0.length : Int)) = true := jZ c4
   clear c4
   by_cases c5 : 0 ≤ s0_1
   ·rw [if_pos c5] at H
    have c5b0 : decide (0 ≤ s0_1) = true := jZ c5
    clear c5
    by_cases c6 : a1 ≤ 256
    ·rw [if_pos c6] at H
     have c6b0 : decide (a1 ≤ 256) = true := jZ c6
     clear c6
     by_cases c7 : (Int.tmod (wrap64 (s0_1 + 1)) 2) = 0
     ·rw [if_pos c7] at H
      have c7b0 : ((Int.tmod (wrap64 (s0_1 + 1)) 2) == 0) = true := beq_iff_eq.mpr c7
      have c7b1 : ((Int.tmod (wrap64 (s0_1 + 1)) 2) != 0) = false := bne_eq_false_iff_eq.mpr c7
      clear c7
      obtain ⟨ji8, hji8⟩ : ∃ j_ : Int, (wrap64 ((wrap64 (s0_1 + 1)) - 1)) = j_ := ⟨_, rfl⟩
      replace H : (if 0 ≤ (ji8) then (if (ji8) < (s0_0.length : Int) then (if a1 = 0 then (none) else (some (Int.tmod (wrap64 (rd s0_0 (ji8))) a1, wrap64 (s0_1 + 1), Int.tmod (wrap64 ((wrap64 (s0_2 * 48271)) + 29)) 2147483647))) else (none)) else (none)) = some (r1, r2, r3) := by first | (rw [hji8] at H; exact H) | (simp only [hji8] at H ⊢; exact H)
      have hji8w : (IntKind.i64.wrap ((wrap64 (s0_1 + 1)) - 1)) = ji8 := (i64_w _).trans hji8
      by_cases c9 : 0 ≤ (ji8)
      ·rw [if_pos c9] at H
       have c9b0 : decide (0 ≤ (ji8)) = true := jZ c9
       clear c9
       by_cases c10 : (ji8) < (s0_0.length : Int)
       ·rw [if_pos c10] at H
        have c10b0 : decide ((ji8) < (s0_0.length : Int)) = true := jZ c10
        clear c10
        by_cases c11 : a1 = 0
        ·rw [if_pos c11] at H
         exact absurd H (by simp)
        ·rw [if_neg c11] at H
         have c11b0 : (a1 == 0) = false := beq_eq_false_iff_ne.mpr c11
         have c11b1 : (a1 != 0) = true := bne_iff_ne.mpr c11
         simp only [jf, jh] at H
         obtain ⟨rfl, rfl, rfl⟩ := H
         obtain ⟨ASz12_0, cSz12_0, HGz12, hgz12, HSz12_0⟩ := HI0.out
         have hcz12_0 := cellS67_0 HGz12
         have hcz12_1 := cellS67_1 HGz12
         have hcz12_2 := cellS67_2 HGz12
         have hfz12_1 := jd HGz12 1
         have hfz12_2 := jd HGz12 2
         clear HGz12 hgz12
         have p226 : 0 ≤ (s0_1 : Int) := jI za
         have q226 : s0_1 < (s0_0.length : Int) := jI za
         obtain ⟨ad226, e226, hx226_0⟩ := Kd.at_int HSz12_0 s0_1 p226 q226
         cases e226
         have hn226_0 : ad226.block ≠ g := Nat.ne_of_lt (Nat.lt_of_lt_of_le (by have := ja _ _ hx226_0; first | rwa [add_block] at this | exact this) (IsS67.ge HI0.out))
         replace hx226_0 := pw_cell_below HB.out hx226_0
         replace hx226_0 := (cell_far (p := ⟨g, 2, none⟩) (by first | (rw [add_block]; exact hn226_0) | (show (Addr.add _ _).block ≠ _; rw [add_block]; exact hn226_0) | exact hn226_0) (.int .i64 (Int.tmod (wrap64 ((wrap64 (s0_2 * 48271)) + 29)) 2147483647))).trans hx226_0
         (try have hy226_0 := fun (n_ : Nat) => (show (((w.drewN n_).setCell ⟨g, 2, none⟩ (.int .i64 (Int.tmod (wrap64 ((wrap64 (s0_2 * 48271)) + 29)) 2147483647)))).cell? _ = some _ from hx226_0))
         clear hn226_0
         replace p226 := eq_true p226
         replace q226 := eq_true q226
         have p227 : 0 ≤ ((ji8) : Int) := jI za
         have q227 : (ji8) < (s0_0.length : Int) := jI za
         obtain ⟨ad227, e227, hx227_0⟩ := Kd.at_int HSz12_0 (ji8) p227 q227
         obtain rfl : ad226 = ad227 := (by injection e227)
         have hn227_0 : ad226.block ≠ g := Nat.ne_of_lt (Nat.lt_of_lt_of_le (by have := ja _ _ hx227_0; first | rwa [add_block] at this | exact this) (IsS67.ge HI0.out))
         have hn227_1 : ad226.block ≠ g := Nat.ne_of_lt (Nat.lt_of_lt_of_le (by have := ja _ _ hx227_0; first | rwa [add_block] at this | exact this) (IsS67.ge HI0.out))
         replace hx227_0 := pw_cell_below HB.out hx227_0
         replace hx227_0 := (cell_far (p := ⟨g, 2, none⟩) (by first | (rw [add_block]; exact hn227_0) | (show (Addr.add _ _).block ≠ _; rw [add_block]; exact hn227_0) | exact hn227_0) (.int .i64 (Int.tmod (wrap64 ((wrap64 (s0_2 * 48271)) + 29)) 2147483647))).trans hx227_0
         replace hx227_0 := (cell_far (p := ⟨g, 1, none⟩) (by first | (rw [add_block]; exact hn227_1) | (show (Addr.add _ _).block ≠ _; rw [add_block]; exact hn227_1) | exact hn227_1) (.int .i64 (wrap64 (s0_1 + 1)))).trans hx227_0
         (try have hy227_0 := fun (n_ : Nat) => (show ((((w.drewN n_).setCell ⟨g, 2, none⟩ (.int .i64 (Int.tmod (wrap64 ((wrap64 (s0_2 * 48271)) + 29)) 2147483647))).setCell ⟨g, 1, none⟩ (.int .i64 (wrap64 (s0_1 + 1))))).cell? _ = some _ from hx227_0))
         (try have hv227_0 := fun (n_ : Nat) => (show ((((w.setCell ⟨g, 2, none⟩ (.int .i64 (Int.tmod (wrap64 ((wrap64 (s0_2 * 48271)) + 29)) 2147483647))).drewN n_).setCell ⟨g, 1, none⟩ (.int .i64 (wrap64 (s0_1 + 1))))).cell? _ = some _ from hx227_0))
         clear hn227_0
         clear hn227_1
         replace p227 := eq_true p227
         replace q227 := eq_true q227
         go_enter Try.func62, Try.ntmps62
         go_wp2
         repeat (go_quiet (fail); try go_wp2)
         go_ret
         exact ⟨by first | rfl | (simp [errW_none, errW_some] <;> rfl) | (simp only [← hji8]; first | rfl | (simp [errW_none, errW_some] <;> rfl)) | (simp [*, errW_none, errW_some] <;> rfl), by repeat (first | (with_reducible first | exact HI0.out | apply IsS67.alloc | apply IsS67.drewN | apply IsS67.drew | apply IsS67.set_1 | apply IsS67.set_2) | exact HI0.out), by repeat (first | (with_reducible first | exact HB.out | apply jV | apply jJ | apply jL | refine jO ?_ (IsS67.ge HI0.out)) | exact HB.out), zh0 HK⟩
       ·rw [if_neg c10] at H
        exact absurd H (by simp)
      ·rw [if_neg c9] at H
       exact absurd H (by simp)
     ·rw [if_neg c7] at H
      have c7b0 : ((Int.tmod (wrap64 (s0_1 + 1)) 2) == 0) = false := beq_eq_false_iff_ne.mpr c7
      have c7b1 : ((Int.tmod (wrap64 (s0_1 + 1)) 2) != 0) = true := bne_iff_ne.mpr c7
      by_cases c13 : a1 = 0
      ·rw [if_pos c13] at H
       exact absurd H (by simp)
      ·rw [if_neg c13] at H
       have c13b0 : (a1 == 0) = false := beq_eq_false_iff_ne.mpr c13
       have c13b1 : (a1 != 0) = true := bne_iff_ne.mpr c13
       simp only [jf, jh] at H
       obtain ⟨rfl, rfl, rfl⟩ := H
       obtain ⟨ASz14_0, cSz14_0, HGz14, hgz14, HSz14_0⟩ := HI0.out
       have hcz14_0 := cellS67_0 HGz14
       have hcz14_1 := cellS67_1 HGz14
       have hcz14_2 := cellS67_2 HGz14
       have hfz14_1 := jd HGz14 1
       have hfz14_2 := jd HGz14 2
       clear HGz14 hgz14
       have p226 : 0 ≤ (s0_1 : Int) := jI za
       have q226 : s0_1 < (s0_0.length : Int) := jI za
       obtain ⟨ad226, e226, hx226_0⟩ := Kd.at_int HSz14_0 s0_1 p226 q226
       cases e226
       have hn226_0 : ad226.block ≠ g := Nat.ne_of_lt (Nat.lt_of_lt_of_le (by have := ja _ _ hx226_0; first | rwa [add_block] at this | exact this) (IsS67.ge HI0.out))
       replace hx226_0 := pw_cell_below HB.out hx226_0
       replace hx226_0 := (cell_far (p := ⟨g, 2, none⟩) (by first | (rw [add_block]; exact hn226_0) | (show (Addr.add _ _).block ≠ _; rw [add_block]; exact hn226_0) | exact hn226_0) (.int .i64 (Int.tmod (wrap64 ((wrap64 (s0_2 * 48271)) + 29)) 2147483647))).trans hx226_0
       (try have hy226_0 := fun (n_ : Nat) => (show (((w.drewN n_).setCell ⟨g, 2, none⟩ (.int .i64 (Int.tmod (wrap64 ((wrap64 (s0_2 * 48271)) + 29)) 2147483647)))).cell? _ = some _ from hx226_0))
       clear hn226_0
       replace p226 := eq_true p226
       replace q226 := eq_true q226
       go_enter Try.func62, Try.ntmps62
       go_wp2
       repeat (go_quiet (fail); try go_wp2)
       go_ret
       exact ⟨by first | rfl | (simp [errW_none, errW_some] <;> rfl) | (simp [*, errW_none, errW_some] <;> rfl), by repeat (first | (with_reducible first | exact HI0.out | apply IsS67.alloc | apply IsS67.drewN | apply IsS67.drew | apply IsS67.set_1 | apply IsS67.set_2) | exact HI0.out), by repeat (first | (with_reducible first | exact HB.out | apply jV | apply jJ | apply jL | refine jO ?_ (IsS67.ge HI0.out)) | exact HB.out), zh0 HK⟩
    ·rw [if_neg c6] at H
     have c6b0 : decide (a1 ≤ 256) = false := jg c6
     clear c6
     by_cases c15 : a1 = 0
     ·rw [if_pos c15] at H
      exact absurd H (by simp)
     ·rw [if_neg c15] at H
      have c15b0 : (a1 == 0) = false := beq_eq_false_iff_ne.mpr c15
      have c15b1 : (a1 != 0) = true := bne_iff_ne.mpr c15
      simp only [jf, jh] at H
      obtain ⟨rfl, rfl, rfl⟩ := H
      obtain ⟨ASz16_0, cSz16_0, HGz16, hgz16, HSz16_0⟩ := HI0.out
      have hcz16_0 := cellS67_0 HGz16
      have hcz16_1 := cellS67_1 HGz16
      have hcz16_2 := cellS67_2 HGz16
      have hfz16_1 := jd HGz16 1
      have hfz16_2 := jd HGz16 2
      clear HGz16 hgz16
      have p226 : 0 ≤ (s0_1 : Int) := jI za
      have q226 : s0_1 < (s0_0.length : Int) := jI za
      obtain ⟨ad226, e226, hx226_0⟩ := Kd.at_int HSz16_0 s0_1 p226 q226
      cases e226
      have hn226_0 : ad226.block ≠ g := Nat.ne_of_lt (Nat.lt_of_lt_of_le (by have := ja _ _ hx226_0; first | rwa [add_block] at this | exact this) (IsS67.ge HI0.out))
      replace hx226_0 := pw_cell_below HB.out hx226_0
      replace hx226_0 := (cell_far (p := ⟨g, 2, none⟩) (by first | (rw [add_block]; exact hn226_0) | (show (Addr.add _ _).block ≠ _; rw [add_block]; exact hn226_0) | exact hn226_0) (.int .i64 (Int.tmod (wrap64 ((wrap64 (s0_2 * 48271)) + 29)) 2147483647))).trans hx226_0
      (try have hy226_0 := fun (n_ : Nat) => (show (((w.drewN n_).setCell ⟨g, 2, none⟩ (.int .i64 (Int.tmod (wrap64 ((wrap64 (s0_2 * 48271)) + 29)) 2147483647)))).cell? _ = some _ from hx226_0))
      clear hn226_0
      replace p226 := eq_true p226
      replace q226 := eq_true q226
      go_enter Try.func62, Try.ntmps62
      go_wp2
      repeat (go_quiet (fail); try go_wp2)
      go_ret
      exact ⟨by first | rfl | (simp [errW_none, errW_some] <;> rfl) | (simp [*, errW_none, errW_some] <;> rfl), by repeat (first | (with_reducible first | exact HI0.out | apply IsS67.alloc | apply IsS67.drewN | apply IsS67.drew | apply IsS67.set_1 | apply IsS67.set_2) | exact HI0.out), by repeat (first | (with_reducible first | exact HB.out | apply jV | apply jJ | apply jL | refine jO ?_ (IsS67.ge HI0.out)) | exact HB.out), zh0 HK⟩
   ·rw [if_neg c5] at H
    exact absurd H (by simp)
  ·rw [if_neg c4] at H
   have c4b0 : decide (s0_1 < (s0_0.length : Int)) = false := jg c4
   clear c4
   by_cases c17 : a1 = 0
   ·rw [if_pos c17] at H
    exact absurd H (by simp)
   ·rw [if_neg c17] at H
    have c17b0 : (a1 == 0) = false := beq_eq_false_iff_ne.mpr c17
    have c17b1 : (a1 != 0) = true := bne_iff_ne.mpr c17
    simp only [jf, jh] at H
    obtain ⟨rfl, rfl, rfl⟩ := H
    obtain ⟨ASz18_0, cSz18_0, HGz18, hgz18, HSz18_0⟩ := HI0.out
    have hcz18_0 := cellS67_0 HGz18
    have hcz18_1 := cellS67_1 HGz18
    have hcz18_2 := cellS67_2 HGz18
    have hfz18_1 := jd HGz18 1
    have hfz18_2 := jd HGz18 2
    clear HGz18 hgz18
    go_enter Try.func62, Try.ntmps62
    go_wp2
    repeat (go_quiet (fail); try go_wp2)
    go_ret
    exact ⟨by first | rfl | (simp [errW_none, errW_some] <;> rfl) | (simp [*, errW_none, errW_some] <;> rfl), by repeat (first | (with_reducible first | exact HI0.out | apply IsS67.alloc | apply IsS67.drewN | apply IsS67.drew | apply IsS67.set_1 | apply IsS67.set_2) | exact HI0.out), by repeat (first | (with_reducible first | exact HB.out | apply jV | apply jJ | apply jL | refine jO ?_ (IsS67.ge HI0.out)) | exact HB.out), zh0 HK⟩

/-! ### spec_l01Pick: function 64 -/
def spec_l01Pick.f (s0_0 : List Int) (s0_1 : Int) (s0_2 : Int) (l1 : List Int) : Option (Int × Int × Int) := (spec_l01Next.f s0_0 s0_1 s0_2 (l1.length : Int)).bind fun bt228 => (if 0 ≤ bt228.1 then (if bt228.1 < (l1.length : Int) then (some (rd l1 bt228.1, bt228.2.1, bt228.2.2)) else (none)) else (none))
set_option maxHeartbeats 8000000 in
set_option maxRecDepth 100000 in
theorem spec_l01Pick.calls (g : Nat) (s0_0 : List Int) (s0_1 : Int) (s0_2 : Int) (A1 : Option Addr) (c1 : Nat) (l1 : List Int) (r1 : Int) (r2 : Int) (r3 : Int) (w0 w : World) (hI : IsS67 w0 w g s0_0 s0_1 s0_2) (hB : Below w0.heap.size w0 w) (hr1 : Kd.C (Kd.int .i64) w A1 l1.length l1) (hc1 : l1.length ≤ c1) (hf1 : ∀ ad, A1 = some ad → 0 < l1.length → ad.block ≠ g) (h : spec_l01Pick.f s0_0 s0_1 s0_2 l1 = some (r1, r2, r3)) :
  Calls Try.prog 64 #[.pointer (some ⟨g, 0, none⟩), .slice A1 l1.length c1] w fun e w' => e = .returned (.int .i64 r1) ∧ IsS67 w0 w' g s0_0 r2 r3 ∧ Below w0.heap.size w0 w' ∧ KeepBut w w' g none := by
 have HR1 := jA hr1
 have HC1 := jA hc1
 clear hr1 hc1
 have HI0 := jA hI
 have HK := jA (KeepBut.refl w g none)
 have HL := jA hB.size
 clear hI
 have HW0 := jA hB.size
 have HB := jA hB
 clear hB
 have H : ((spec_l01Next.f s0_0 s0_1 s0_2 (l1.length : Int)).bind fun bt228 => (if 0 ≤ bt228.1 then (if bt228.1 < (l1.length : Int) then (some (rd l1 bt228.1, bt228.2.1, bt228.2.2)) else (none)) else (none))) = some (r1, r2, r3) := h
 clear h
 replace H := jG.mp H
 obtain ⟨⟨t228, t229, t230⟩, A30, H⟩ := H
 replace H : (if 0 ≤ t228 then (if t228 < (l1.length : Int) then (some (rd l1 t228, t229, t230)) else (none)) else (none)) = some (r1, r2, r3) := H
 have A3 := jA A30
 clear A30
 by_cases c4 : 0 ≤ t228
 ·rw [if_pos c4] at H
  have c4b0 : decide (0 ≤ t228) = true := jZ c4
  clear c4
  by_cases c5 : t228 < (l1.length : Int)
  ·rw [if_pos c5] at H
   have c5b0 : decide (t228 < (l1.length : Int)) = true := jZ c5
   clear c5
   simp only [jf, jh] at H
   obtain ⟨rfl, rfl, rfl⟩ := H
   go_enter Try.func64, Try.ntmps64
   go_wp2_with (first | ((with_reducible refine jU (f := 62) rfl ?_); refine goesL_ (some 9) rfl rfl Try.func62 zr rfl #[.pointer (some ⟨g, 0, none⟩), .int .i64 (l1.length : Int)] rfl zm ?_; (with_reducible refine (spec_l01Next.calls g s0_0 s0_1 s0_2 (l1.length : Int) t228 t229 t230 w0 _ ?side1 ?side2 A3.out).mono ?_); (case side1 => repeat (first | (with_reducible first | exact HI0.out | apply IsS67.alloc | apply IsS67.drewN | apply IsS67.drew | apply IsS67.set_1 | apply IsS67.set_2) | exact HI0.out)); (case side2 => repeat (first | (with_reducible first | exact HB.out | apply jV | apply jJ | apply jL | refine jO ?_ (IsS67.ge HI0.out)) | exact HB.out)); rintro e w6 ⟨rfl, hi, hb, hk⟩; refine ⟨_, rfl, ?_⟩; have n0_ := jA (KeepBut.trans (zh0 HK) hk (.inl rfl)); have n1_ := jA (hb); have n2_ := jA (hi); clear HK; clear HB; clear HI0; have HK := n0_; have HB := n1_; have HI0 := n2_; clear n0_ n1_ n2_; (try clear hb); (try clear hb2); (try clear hk); (try clear hi); have p231 : 0 ≤ (t228 : Int) := jI za; have q231 : t228 < (l1.length : Int) := jI za; obtain ⟨ad231, e231, hx231_0⟩ := Kd.at_int HR1.out t228 p231 q231; cases e231; replace hx231_0 := keep_cell HK.out hx231_0 (by first | (rw [add_block]; exact hf1 _ rfl (by omega)) | exact hf1 _ rfl (by omega) | exact hf1 ad231 rfl (by omega)); replace p231 := eq_true p231; replace q231 := eq_true q231))
   go_ret
   exact ⟨by first | rfl | (simp [errW_none, errW_some] <;> rfl) | (simp [*, errW_none, errW_some] <;> rfl), by repeat (first | (with_reducible first | exact HI0.out | apply IsS67.alloc | apply IsS67.drewN | apply IsS67.drew | apply IsS67.set_1 | apply IsS67.set_2) | exact HI0.out), by repeat (first | (with_reducible first | exact HB.out | apply jV | apply jJ | apply jL | refine jO ?_ (IsS67.ge HI0.out)) | exact HB.out), zh0 HK⟩
  ·rw [if_neg c5] at H
   exact absurd H (by simp)
 ·rw [if_neg c4] at H
  exact absurd H (by simp)

end Go.Proofs.Ythnpffomoaeeoaa.PFnTries
