/- Functions and contracts that FnProofs reaches (16 of 22). -/
import Derived.Test.YthieppjmjgijfaaQFnProofsx14
namespace Go.Proofs.Ythieppjmjgijfaa.PFnProofs
open Go.RowKit Go.Proofs.YthieppjmjgijfaaW.PrintWords Go.Proofs.YthieppjmjgijfaaW.PrintLast Go.Proofs.YthieppjmjgijfaaW.PrintMore
attribute [local go_sem] max2_int min2_int max_two min_two max_three min_three max_four min_four   -- for this text's walks alone
set_option linter.unusedVariables false
set_option linter.unusedSimpArgs false

/-! ### impl_firstLeak: function 57 -/
mutual
def impl_firstLeak.l0 : Nat → List Int → List Int → List Bool → List Int → Int → Int → Option (Int × Int × Bool)
 | 0, _, _, _, _, _, _ => none
 | k + 1, x0, x1, x7, x16, x17, x18 => if x18 < x17 then (if 0 ≤ x18 then (if x18 < (x16.length : Int) then (if 0 ≤ (rd x16 x18) then (if (rd x16 x18) < (x7.length : Int) then (impl_firstLeak.l0 k x0 x1 (x7.set ((rd x16 x18) : Int).toNat true) x16 x17 (wrap64 (x18 + 1))) else (none)) else (none)) else (none)) else (none)) else (impl_firstLeak.l1 k x1 x7 x0 (x0.length : Int) 0)
def impl_firstLeak.l1 : Nat → List Int → List Bool → List Int → Int → Int → Option (Int × Int × Bool)
 | 0, _, _, _, _, _ => none
 | k + 1, x1, x7, x25, x26, x27 => if x27 < x26 then (if 0 ≤ x27 then (if x27 < (x25.length : Int) then (impl_firstLeak.l2 k x1 x7 (rd x25 x27) x25 x26 x27 x1 (x1.length : Int) 0) else (none)) else (none)) else (some (0, 0, false))
def impl_firstLeak.l2 : Nat → List Int → List Bool → Int → List Int → Int → Int → List Int → Int → Int → Option (Int × Int × Bool)
 | 0, _, _, _, _, _, _, _, _, _ => none
 | k + 1, x1, x7, x11, x25, x26, x27, x31, x32, x33 => if x33 < x32 then (if 0 ≤ x33 then (if x33 < (x31.length : Int) then ((impl_controllerWith.f x11).bind fun bt167 => ((impl_giveInput.f bt167.1 bt167.2.1 bt167.2.2.1 bt167.2.2.2.1 bt167.2.2.2.2.1 bt167.2.2.2.2.2 (rd x31 x33)).bind fun bt173 => (if bt173.2.2.2.2.2.2 = 0 then ((impl_numberOf.f bt173.1 bt173.2.1 bt173.2.2.1 bt173.2.2.2.1 bt173.2.2.2.2.1 bt173.2.2.2.2.2.1).bind fun t181 => (if 0 ≤ t181 then (if t181 < (x7.length : Int) then (if rdOf false x7 t181 = true then (impl_firstLeak.l2 k x1 x7 x11 x25 x26 x27 x31 x32 (wrap64 (x33 + 1))) else (some (x11, rd x31 x33, true))) else (none)) else (none))) else (impl_firstLeak.l2 k x1 x7 x11 x25 x26 x27 x31 x32 (wrap64 (x33 + 1)))))) else (none)) else (none)) else (impl_firstLeak.l1 k x1 x7 x25 x26 (wrap64 (x27 + 1)))
end
def impl_firstLeak.f (k : Nat) (l0 : List Int) (l1 : List Int) : Option (Int × Int × Bool) := if 160 ≤ 281474976710656 then (impl_firstLeak.l0 k l0 l1 (List.replicate 160 false) l0 (l0.length : Int) 0) else (none)
theorem impl_firstLeak.mono_l : ∀ k, (∀ y0 y1 y2 y3 y4 y5, LeO (impl_firstLeak.l0 k y0 y1 y2 y3 y4 y5) (impl_firstLeak.l0 (k + 1) y0 y1 y2 y3 y4 y5)) ∧ (∀ y0 y1 y2 y3 y4, LeO (impl_firstLeak.l1 k y0 y1 y2 y3 y4) (impl_firstLeak.l1 (k + 1) y0 y1 y2 y3 y4)) ∧ (∀ y0 y1 y2 y3 y4 y5 y6 y7 y8, LeO (impl_firstLeak.l2 k y0 y1 y2 y3 y4 y5 y6 y7 y8) (impl_firstLeak.l2 (k + 1) y0 y1 y2 y3 y4 y5 y6 y7 y8))
 | 0 => ⟨fun _ _ _ _ _ _ r h => by simp [impl_firstLeak.l0] at h, fun _ _ _ _ _ r h => by simp [impl_firstLeak.l1] at h, fun _ _ _ _ _ _ _ _ _ r h => by simp [impl_firstLeak.l2] at h⟩
 | k + 1 => by
  obtain ⟨ih0, ih1, ih2⟩ := impl_firstLeak.mono_l k
  refine ⟨?_, ?_, ?_⟩
  ·intro y0 y1 y2 y3 y4 y5
   unfold impl_firstLeak.l0
   repeat' first
   | (with_reducible exact ih0 _ _ _ _ _ _)
   | (with_reducible exact ih1 _ _ _ _ _)
   | (with_reducible exact ih2 _ _ _ _ _ _ _ _ _)
   | (with_reducible exact LeO.refl _)
   | (with_reducible exact LeO.none _)
   | (with_reducible refine LeO.ite ?_ ?_)
   | (with_reducible refine LeO.bind ?_ (fun _ => ?_))
   | exact ih0 _ _ _ _ _ _
   | exact ih1 _ _ _ _ _
   | exact ih2 _ _ _ _ _ _ _ _ _
   | exact LeO.none _
   | refine LeO.ite ?_ ?_
   | refine LeO.bind ?_ (fun _ => ?_)
  ·intro y0 y1 y2 y3 y4
   unfold impl_firstLeak.l1
   repeat' first
   | (with_reducible exact ih0 _ _ _ _ _ _)
   | (with_reducible exact ih1 _ _ _ _ _)
   | (with_reducible exact ih2 _ _ _ _ _ _ _ _ _)
   | (with_reducible exact LeO.refl _)
   | (with_reducible exact LeO.none _)
   | (with_reducible refine LeO.ite ?_ ?_)
   | (with_reducible refine LeO.bind ?_ (fun _ => ?_))
   | exact ih0 _ _ _ _ _ _
   | exact ih1 _ _ _ _ _
   | exact ih2 _ _ _ _ _ _ _ _ _
   | exact LeO.none _
   | refine LeO.ite ?_ ?_
   | refine LeO.bind ?_ (fun _ => ?_)
  ·intro y0 y1 y2 y3 y4 y5 y6 y7 y8
   unfold impl_firstLeak.l2
   repeat' first
   | (with_reducible exact ih0 _ _ _ _ _ _)
   | (with_reducible exact ih1 _ _ _ _ _)
   | (with_reducible exact ih2 _ _ _ _ _ _ _ _ _)
   | (with_reducible exact LeO.refl _)
   | (with_reducible exact LeO.none _)
   | (with_reducible refine LeO.ite ?_ ?_)
   | (with_reducible refine LeO.bind ?_ (fun _ => ?_))
   | exact ih0 _ _ _ _ _ _
   | exact ih1 _ _ _ _ _
   | exact ih2 _ _ _ _ _ _ _ _ _
   | exact LeO.none _
   | refine LeO.ite ?_ ?_
   | refine LeO.bind ?_ (fun _ => ?_)
theorem impl_firstLeak.mono : ∀ a0 a1 k, LeO (impl_firstLeak.f k a0 a1) (impl_firstLeak.f (k + 1) a0 a1) := by
 intro a0 a1 k
 obtain ⟨ih0, ih1, ih2⟩ := impl_firstLeak.mono_l k
 unfold impl_firstLeak.f
 repeat' first
   | (with_reducible exact ih0 _ _ _ _ _ _)
   | (with_reducible exact ih1 _ _ _ _ _)
   | (with_reducible exact ih2 _ _ _ _ _ _ _ _ _)
   | (with_reducible exact LeO.refl _)
   | (with_reducible exact LeO.none _)
   | (with_reducible refine LeO.ite ?_ ?_)
   | (with_reducible refine LeO.bind ?_ (fun _ => ?_))
   | exact ih0 _ _ _ _ _ _
   | exact ih1 _ _ _ _ _
   | exact ih2 _ _ _ _ _ _ _ _ _
   | exact LeO.none _
   | refine LeO.ite ?_ ?_
   | refine LeO.bind ?_ (fun _ => ?_)
/-- The cells of a row of bools that lies in an array. -/
def boolCells (s : List Bool) : Array Value := (s.map Value.bool).toArray
theorem boolCells_at (s : List Bool) {i : Int} (h0 : 0 ≤ i) (h1 : i < s.length) : (boolCells s)[i.toNat]? = some (.bool (rdOf false s i)) := by
 simp [boolCells, rdOf, List.getD_eq_getElem?_getD, List.getElem?_eq_getElem (show i.toNat < s.length by omega)]
theorem boolCells_set (s : List Bool) (i : Nat) (v : Bool) : (boolCells s).setIfInBounds i (.bool v) = boolCells (s.set i v) := by
 simp [boolCells, List.map_set]
set_option maxHeartbeats 8000000 in
set_option maxRecDepth 100000 in
theorem impl_firstLeak.calls (k : Nat) (A0 : Option Addr) (c0 : Nat) (l0 : List Int) (A1 : Option Addr) (c1 : Nat) (l1 : List Int) (r1 : Int) (r2 : Int) (r3 : Bool) (w : World) (hr0 : Kd.C (Kd.int .i64) w A0 l0.length l0) (hc0 : l0.length ≤ c0) (hr1 : Kd.C (Kd.int .i64) w A1 l1.length l1) (hc1 : l1.length ≤ c1) (h : impl_firstLeak.f k l0 l1 = some (r1, r2, r3)) :
  Calls Try.prog 57 #[.slice A0 l0.length c0, .slice A1 l1.length c1] w fun e w' => e = .returned (.tuple #[.int .i64 r1, .int .i64 r2, .bool r3]) ∧ Below w.heap.size w w' := by
 have hu23 := Try.underlying23
 have HR0 := jA hr0
 have HC0 := jA hc0
 clear hr0 hc0
 have HR1 := jA hr1
 have HC1 := jA hc1
 clear hr1 hc1
 have HB := jA (Below.refl w.heap.size w)
 have H := h
 unfold impl_firstLeak.f at H
 clear h
 by_cases c3 : 160 ≤ 281474976710656
 ·rw [if_pos c3] at H
  have c3b0 := eq_true c3
  have c3b1 : decide (160 ≤ 281474976710656) = true := jI c3
  clear c3
  obtain ⟨y160, hy160⟩ : ∃ y_ : List Bool, y_ = (List.replicate 160 false) := ⟨_, rfl⟩
  replace H : (impl_firstLeak.l0 k l0 l1 y160 l0 (l0.length : Int) 0) = some (r1, r2, r3) := by first | (rw [hy160]; with_reducible exact H) | (have H2_ := (Option.bind_some _ _).symm.trans H; rw [hy160]; with_reducible exact H2_) | (have H2_ := (Option.bind_some _ _).symm.trans H; with_reducible exact H2_) | with_reducible exact H | (rw [hy160]; exact H) | exact H
  have Ny160 := jA hy160
  clear hy160
  have H' := jA H
  clear H
  go_enter Try.func57, Try.ntmps57
  go_wp2_with (first | ((with_reducible refine jJ (N := 7) rfl ?_); refine box_event ?hg (N := 7) ?hd (cs := boolCells (List.replicate 160 false)) (t := 93) ?hr ?_; (case hd => rfl); (case hg => rfl); (case hr => first | (go_simp; done) | (go_simp; rfl)); intro gA hg w4 hbox hb; have n0_ := zS0 HB hb; have n1_ := jA hbox; have n3_ := jA ((by rw [hg]; exact (jT (zb0 HB))) : w.heap.size ≤ gA); clear HB; have HB := n0_; have HO162 := n1_; have GEA := n3_; clear n0_ n1_ n3_; clear hb hbox hg))
  go_loopg [18] k (fun kq v18 w' => ∃ (x7_1 : List Bool) (x18_1 : Int), v18 = .int .i64 x18_1 ∧ Aside0 (impl_firstLeak.l0 kq l0 l1 x7_1 l0 (l0.length : Int) x18_1 = some (r1, r2, r3)) ∧ Aside0 (kq ≤ k) ∧ Aside0 (x7_1.length = 160) ∧ Aside0 (w'.heap[gA]? = some (.cells (boolCells x7_1) 93 (0, 0))) ∧ Aside0 (Below w.heap.size w w'))
  case atStart => exact ⟨(y160), (0), zz, H', ⟨Nat.le_refl _⟩, ⟨by rw [Ny160.out]; rfl⟩, ⟨by rw [Ny160.out]; exact HO162.out⟩, ⟨zb0 HB⟩⟩
  case round =>
   clear H'
   try clear c1
   try clear p2
   try clear c3
   try clear c3b0
   try clear c3b1
   try clear c5
   obtain ⟨x7_1, x18_1, rfl, HA, HK1, HL7, HO_7, HB⟩ := hrel
   cases gk with
   | zero => exact absurd HA.out (by simp [impl_firstLeak.l0])
   | succ k1 =>
    have H := HA.out
    clear HA
    simp only [impl_firstLeak.l0] at H
    by_cases c6 : x18_1 < (l0.length : Int)
    ·rw [if_pos c6] at H
     have c6b0 : decide (x18_1 < (l0.length : Int)) = true := jI c6
     clear c6
     by_cases c7 : 0 ≤ x18_1
     ·rw [if_pos c7] at H
      have c7b0 : decide (0 ≤ x18_1) = true := jI c7
      clear c7
      by_cases c8 : x18_1 < (l0.length : Int)
      ·rw [if_pos c8] at H
       have c8b0 : decide (x18_1 < (l0.length : Int)) = true := jI c8
       clear c8
       by_cases c9 : 0 ≤ (rd l0 x18_1)
       ·rw [if_pos c9] at H
        have c9b0 : decide (0 ≤ (rd l0 x18_1)) = true := jI c9
        clear c9
        by_cases c10 : (rd l0 x18_1) < (x7_1.length : Int)
        ·rw [if_pos c10] at H
         have c10b0 : decide ((rd l0 x18_1) < (x7_1.length : Int)) = true := jI c10
         clear c10
         obtain ⟨y164, hy164⟩ : ∃ y_ : List Bool, y_ = (x7_1.set ((rd l0 x18_1) : Int).toNat true) := ⟨_, rfl⟩
         replace H : (impl_firstLeak.l0 k1 l0 l1 y164 l0 (l0.length : Int) (wrap64 (x18_1 + 1))) = some (r1, r2, r3) := by first | (rw [hy164]; with_reducible exact H) | (have H2_ := (Option.bind_some _ _).symm.trans H; rw [hy164]; with_reducible exact H2_) | (have H2_ := (Option.bind_some _ _).symm.trans H; with_reducible exact H2_) | with_reducible exact H | (rw [hy164]; exact H) | exact H
         have Ny164 := jA hy164
         clear hy164
         have H' := jA H
         clear H
         have p163 : 0 ≤ (x18_1 : Int) := jB za
         have q163 : x18_1 < (l0.length : Int) := jB za
         obtain ⟨ad163, e163, hx163_0⟩ := jR HR0.out x18_1 p163 q163
         cases e163
         replace hx163_0 := zx HB hx163_0
         replace p163 := eq_true p163
         replace q163 := eq_true q163
         have p11 : 0 ≤ ((rd l0 x18_1) : Int) := jB za
         have q11 : ((rd l0 x18_1) : Int) < ((x7_1.length : Int) : Int) := jB za
         have c10x := eq_true (show (rd l0 x18_1) < (160 : Int) by have := HL7.out; omega)
         have hx11_0 : wr.cell? ⟨gA, ((rd l0 x18_1) : Int).toNat, none⟩ = some (.bool (rdOf false x7_1 (rd l0 x18_1))) := (jL HO_7.out _).trans (boolCells_at x7_1 p11 q11)
         have hf11_0 := jW HO_7.out ((rd l0 x18_1) : Int).toNat
         replace p11 := eq_true p11
         replace q11 := eq_true q11
         go_wp2_with (first | ((with_reducible refine gate_store (t := 4) (p := 23) rfl ?_); refine store_event (t := 4) (p := 23) (v := ?vo_w13) (w1 := (wr.setCell ⟨gA, ((rd l0 x18_1) : Int).toNat, none⟩ (.bool true))) ?hg ?ho ?hn ?hr ?_; (case ho => rfl); (case hg => rfl); (case hn => rfl); (case hr => first | (go_simp; done) | (go_simp; rfl)); intro w13 hw; replace HO_7 := jA ((by rw [hw, Ny164.out]; exact blk_put HO_7.out _ _ (boolCells_set x7_1 _ true)) : w13.heap[gA]? = some (.cells (boolCells y164) 93 (0, 0))); replace HB := jA ((by rw [hw]; exact below_set (HB.out) GEA.out : Below w.heap.size w w13)); clear hw))
         go_roundg k1
         case measure => have := HK1.out; omega
         case rel => exact ⟨(y164), (wrap64 (x18_1 + 1)), zz, H', ⟨by have := HK1.out; omega⟩, ⟨by rw [Ny164.out, List.length_set]; exact HL7.out⟩, ⟨by (with_reducible repeat (first | refine blk_drewN ?_ _ | refine blk_drew ?_ | refine blk_alloc ?_ _)); exact HO_7.out⟩, ⟨zb0 HB⟩⟩
        ·rw [if_neg c10] at H
         exact absurd H (by simp)
       ·rw [if_neg c9] at H
        exact absurd H (by simp)
      ·rw [if_neg c8] at H
       exact absurd H (by simp)
     ·rw [if_neg c7] at H
      exact absurd H (by simp)
    ·rw [if_neg c6] at H
     have c6b0 : decide (x18_1 < (l0.length : Int)) = false := jS c6
     clear c6
     have H' := jA H
     clear H
     go_wp2
     go_loopg [27] k1 (fun kq v27 w' => ∃ (x27_2 : Int), v27 = .int .i64 x27_2 ∧ Aside0 (impl_firstLeak.l1 kq l1 x7_1 l0 (l0.length : Int) x27_2 = some (r1, r2, r3)) ∧ Aside0 (kq ≤ k1) ∧ Aside0 (w'.heap[gA]? = some (.cells (boolCells x7_1) 93 (0, 0))) ∧ Aside0 (Below w.heap.size w w'))
     case atStart => exact ⟨(0), zz, H', ⟨Nat.le_refl _⟩, ⟨by (with_reducible repeat (first | refine blk_drewN ?_ _ | refine blk_drew ?_ | refine blk_alloc ?_ _)); exact HO_7.out⟩, ⟨zb0 HB⟩⟩
     case round =>
      clear H'
      try clear c1
      try clear p1
      try clear q1
      try clear hx1
      try clear p2
      try clear c3
      try clear c3b0
      try clear c3b1
      try clear c5
      try clear c6
      try clear c6b0
      try clear p6
      try clear c7
      try clear c7b0
      try clear c8
      try clear c8b0
      try clear c9
      try clear c9b0
      try clear c10
      try clear c10b0
      try clear p11
      try clear q11
      try clear hx11
      try clear hf11
      try clear hx11_0
      try clear hx163_0
      try clear p11
      try clear p163
      try clear p2
      try clear q11
      try clear q163
      obtain ⟨x27_2, rfl, HA, HK2, HO_7, HB⟩ := hrel
      cases gk with
      | zero => exact absurd HA.out (by simp [impl_firstLeak.l1])
      | succ k2 =>
       have H := HA.out
       clear HA
       simp only [impl_firstLeak.l1] at H
       by_cases c14 : x27_2 < (l0.length : Int)
       ·rw [if_pos c14] at H
        have c14b0 : decide (x27_2 < (l0.length : Int)) = true := jI c14
        clear c14
        by_cases c15 : 0 ≤ x27_2
        ·rw [if_pos c15] at H
         have c15b0 : decide (0 ≤ x27_2) = true := jI c15
         clear c15
         by_cases c16 : x27_2 < (l0.length : Int)
         ·rw [if_pos c16] at H
          have c16b0 : decide (x27_2 < (l0.length : Int)) = true := jI c16
          clear c16
          have H' := jA H
          clear H
          have p165 : 0 ≤ (x27_2 : Int) := jB za
          have q165 : x27_2 < (l0.length : Int) := jB za
          obtain ⟨ad165, e165, hx165_0⟩ := jR HR0.out x27_2 p165 q165
          cases e165
          replace hx165_0 := zx HB hx165_0
          replace p165 := eq_true p165
          replace q165 := eq_true q165
          go_wp2
          go_loopg [33] k2 (fun kq v33 w' => ∃ (x33_3 : Int), v33 = .int .i64 x33_3 ∧ Aside0 (impl_firstLeak.l2 kq l1 x7_1 (rd l0 x27_2) l0 (l0.length : Int) x27_2 l1 (l1.length : Int) x33_3 = some (r1, r2, r3)) ∧ Aside0 (kq ≤ k2) ∧ Aside0 (w'.heap[gA]? = some (.cells (boolCells x7_1) 93 (0, 0))) ∧ Aside0 (Below w.heap.size w w'))
          case atStart => exact ⟨(0), zz, H', ⟨Nat.le_refl _⟩, ⟨by (with_reducible repeat (first | refine blk_drewN ?_ _ | refine blk_drew ?_ | refine blk_alloc ?_ _)); exact HO_7.out⟩, ⟨zb0 HB⟩⟩
          case round =>
           clear H'
           try clear c1
           try clear p1
           try clear q1
           try clear hx1
           try clear p2
           try clear c3
           try clear c3b0
           try clear c3b1
           try clear c5
           try clear c6
           try clear c6b0
           try clear p6
           try clear c7
           try clear c7b0
           try clear c8
           try clear c8b0
           try clear c9
           try clear c9b0
           try clear c10
           try clear c10b0
           try clear p11
           try clear q11
           try clear hx11
           try clear hf11
           try clear c14
           try clear c14b0
           try clear c15
           try clear c15b0
           try clear c16
           try clear c16b0
           try clear p16
           try clear q16
           try clear hx16
           try clear hx11_0
           try clear hx163_0
           try clear hx165_0
           try clear p1
           try clear p11
           try clear p163
           try clear p165
           try clear p2
           try clear p6
           try clear q1
           try clear q11
           try clear q163
           try clear q165
           obtain ⟨x33_3, rfl, HA, HK3, HO_7, HB⟩ := hrel
           cases gk with
           | zero => exact absurd HA.out (by simp [impl_firstLeak.l2])
           | succ k3 =>
            have H := HA.out
            clear HA
            simp only [impl_firstLeak.l2] at H
            by_cases c17 : x33_3 < (l1.length : Int)
            ·rw [if_pos c17] at H
             have c17b0 : decide (x33_3 < (l1.length : Int)) = true := jI c17
             clear c17
             by_cases c18 : 0 ≤ x33_3
             ·rw [if_pos c18] at H
              have c18b0 : decide (0 ≤ x33_3) = true := jI c18
              clear c18
              by_cases c19 : x33_3 < (l1.length : Int)
              ·rw [if_pos c19] at H
               have c19b0 : decide (x33_3 < (l1.length : Int)) = true := jI c19
               clear c19
               replace H := jC.mp H
               obtain ⟨⟨t167, t168, t169, t170, t171, t172⟩, A200, H⟩ := H
               replace H : ((impl_giveInput.f t167 t168 t169 t170 t171 t172 (rd l1 x33_3)).bind fun bt173 => (if bt173.2.2.2.2.2.2 = 0 then ((impl_numberOf.f bt173.1 bt173.2.1 bt173.2.2.1 bt173.2.2.2.1 bt173.2.2.2.2.1 bt173.2.2.2.2.2.1).bind fun t181 => (if 0 ≤ t181 then (if t181 < (x7_1.length : Int) then (if rdOf false x7_1 t181 = true then (impl_firstLeak.l2 k3 l1 x7_1 (rd l0 x27_2) l0 (l0.length : Int) x27_2 l1 (l1.length : Int) (wrap64 (x33_3 + 1))) else (some ((rd l0 x27_2), rd l1 x33_3, true))) else (none)) else (none))) else (impl_firstLeak.l2 k3 l1 x7_1 (rd l0 x27_2) l0 (l0.length : Int) x27_2 l1 (l1.length : Int) (wrap64 (x33_3 + 1))))) = some (r1, r2, r3) := H
               have A20 := jA A200
               clear A200
               replace H := jC.mp H
               obtain ⟨⟨t173, t174, t175, t176, t177, t178, t179⟩, A210, H⟩ := H
               replace H : (if t179 = 0 then ((impl_numberOf.f t173 t174 t175 t176 t177 t178).bind fun t181 => (if 0 ≤ t181 then (if t181 < (x7_1.length : Int) then (if rdOf false x7_1 t181 = true then (impl_firstLeak.l2 k3 l1 x7_1 (rd l0 x27_2) l0 (l0.length : Int) x27_2 l1 (l1.length : Int) (wrap64 (x33_3 + 1))) else (some ((rd l0 x27_2), rd l1 x33_3, true))) else (none)) else (none))) else (impl_firstLeak.l2 k3 l1 x7_1 (rd l0 x27_2) l0 (l0.length : Int) x27_2 l1 (l1.length : Int) (wrap64 (x33_3 + 1)))) = some (r1, r2, r3) := H
               have A21 := jA A210
               clear A210
               by_cases c22 : t179 = 0
               ·rw [if_pos c22] at H
                have c22b0 : (t179 == 0) = true := beq_iff_eq.mpr c22
                have c22b1 : (t179 != 0) = false := bne_eq_false_iff_eq.mpr c22
                clear c22
                replace H := jC.mp H
                obtain ⟨t181, A230, H⟩ := H
                replace H : (if 0 ≤ t181 then (if t181 < (x7_1.length : Int) then (if rdOf false x7_1 t181 = true then (impl_firstLeak.l2 k3 l1 x7_1 (rd l0 x27_2) l0 (l0.length : Int) x27_2 l1 (l1.length : Int) (wrap64 (x33_3 + 1))) else (some ((rd l0 x27_2), rd l1 x33_3, true))) else (none)) else (none)) = some (r1, r2, r3) := H
                have A23 := jA A230
                clear A230
                by_cases c24 : 0 ≤ t181
                ·rw [if_pos c24] at H
                 have c24b0 : decide (0 ≤ t181) = true := jI c24
                 clear c24
                 by_cases c25 : t181 < (x7_1.length : Int)
                 ·rw [if_pos c25] at H
                  have c25b0 : decide (t181 < (x7_1.length : Int)) = true := jI c25
                  clear c25
                  obtain ⟨bq26, hbq26⟩ : ∃ b_ : Bool, b_ = (rdOf false x7_1 t181) := ⟨_, rfl⟩
                  replace H : (if bq26 = true then (impl_firstLeak.l2 k3 l1 x7_1 (rd l0 x27_2) l0 (l0.length : Int) x27_2 l1 (l1.length : Int) (wrap64 (x33_3 + 1))) else (some ((rd l0 x27_2), rd l1 x33_3, true))) = some (r1, r2, r3) := by rw [← hbq26] at H; exact H
                  have Nbq26 := jA hbq26
                  clear hbq26
                  by_cases c27 : bq26 = true
                  ·subst c27
                   rw [if_pos rfl] at H
                   have H' := jA H
                   clear H
                   have p166 : 0 ≤ (x33_3 : Int) := jB za
                   have q166 : x33_3 < (l1.length : Int) := jB za
                   obtain ⟨ad166, e166, hx166_0⟩ := jR HR1.out x33_3 p166 q166
                   cases e166
                   replace hx166_0 := zx HB hx166_0
                   replace p166 := eq_true p166
                   replace q166 := eq_true q166
                   go_wp2_with (first | ((with_reducible refine jG (f := 50) rfl ?_); refine zL (some 39) Try.func50 #[.int .i64 (rd l0 x27_2)] ?_; (with_reducible refine (impl_controllerWith.calls (rd l0 x27_2) t167 t168 t169 t170 t171 t172 _ A20.out).mono ?_); rintro e w28 ⟨rfl, hb⟩; refine ⟨_, rfl, ?_⟩; replace HO_7 := jA (jU (g := gA) (o := .cells (boolCells x7_1) 93 (0, 0)) (by (with_reducible repeat (first | refine blk_drewN ?_ _ | refine blk_drew ?_ | refine blk_alloc ?_ _)); exact HO_7.out) hb); replace HB := zS0 HB hb; clear hb) | ((with_reducible refine jG (f := 67) rfl ?_); refine zL (some 41) Try.func67 #[.agg #[.bool t167, .bool t168, .bool t169, .bool t170, .bool t171, .int .i64 t172], .int .i64 (rd l1 x33_3)] ?_; (with_reducible refine (impl_giveInput.calls t167 t168 t169 t170 t171 t172 (rd l1 x33_3) t173 t174 t175 t176 t177 t178 t179 _ A21.out).mono ?_); rintro e w29 ⟨rfl, hb⟩; refine ⟨_, rfl, ?_⟩; replace HO_7 := jA (jU (g := gA) (o := .cells (boolCells x7_1) 93 (0, 0)) (by (with_reducible repeat (first | refine blk_drewN ?_ _ | refine blk_drew ?_ | refine blk_alloc ?_ _)); exact HO_7.out) hb); replace HB := zS0 HB hb; clear hb) | ((with_reducible refine jJ (N := 14) rfl ?_); refine zE 14 #[.bool false, .bool false, .bool false, .bool false, .bool false, .int .i64 0] 23 ?_; intro gb180 hg w30 hbox hb; have NBA := jA ((by rw [hg]; exact Nat.ne_of_lt (blk_lt (g := gA) (o := .cells (boolCells x7_1) 93 (0, 0)) (by (with_reducible repeat (first | refine blk_drewN ?_ _ | refine blk_drew ?_ | refine blk_alloc ?_ _)); exact HO_7.out))) : gA ≠ gb180); replace HO_7 := jA (jU (g := gA) (o := .cells (boolCells x7_1) 93 (0, 0)) (by (with_reducible repeat (first | refine blk_drewN ?_ _ | refine blk_drew ?_ | refine blk_alloc ?_ _)); exact HO_7.out) hb); have BK180 := jA (hbox); have GW180 := zg0 hg HB; have GE180 := zg0 hg HB; replace HB := zS0 HB hb; clear hb hbox hg; have hcz31 := zc6 BK180) | (go_at_call 53; (with_reducible refine (impl_numberOf.calls t173 t174 t175 t176 t177 t178 t181 _ A23.out).mono ?_); rintro e w32 ⟨rfl, hb⟩; replace HO_7 := jA (jU (g := gA) (o := .cells (boolCells x7_1) 93 (0, 0)) (by (with_reducible repeat (first | refine blk_drewN ?_ _ | refine blk_drew ?_ | refine blk_alloc ?_ _)); exact ((blk_far (blk_far (blk_far (blk_far (blk_far (blk_far HO_7.out NBA.out _) NBA.out _) NBA.out _) NBA.out _) NBA.out _) NBA.out _))) hb); replace BK180 := jA (jU (g := gb180) (o := .cells #[.bool t173, .bool t174, .bool t175, .bool t176, .bool t177, .int .i64 t178] 23 (0, 0)) (zP0 BK180) hb); replace HB := zS1 HB GE180 hb; (try clear hb); (try clear hb2); (try clear hk); (try clear hi); have p182 : 0 ≤ (t181 : Int) := jB za; have q182 : t181 < (x7_1.length : Int) := jB za; have hx182_0 := (jL HO_7.out t181.toNat).trans (boolCells_at x7_1 p182 q182); (try rw [← Nbq26.out] at hx182_0); have c25x := eq_true (show t181 < (160 : Int) by have := HL7.out; omega); replace p182 := eq_true p182; replace q182 := eq_true q182))
                   go_roundg k3
                   case measure => have := HK1.out; have := HK2.out; have := HK3.out; omega
                   case rel => exact ⟨(wrap64 (x33_3 + 1)), zz, H', ⟨by have := HK1.out; have := HK2.out; have := HK3.out; omega⟩, ⟨by (with_reducible repeat (first | refine blk_drewN ?_ _ | refine blk_drew ?_ | refine blk_alloc ?_ _)); exact HO_7.out⟩, ⟨zb1 HB GE180⟩⟩
                  ·replace c27 := Bool.eq_false_iff.mpr c27
                   subst c27
                   rw [if_neg zfalse] at H
                   simp only [jH, jK] at H
                   obtain ⟨rfl, rfl, rfl⟩ := H
                   have p166 : 0 ≤ (x33_3 : Int) := jB za
                   have q166 : x33_3 < (l1.length : Int) := jB za
                   obtain ⟨ad166, e166, hx166_0⟩ := jR HR1.out x33_3 p166 q166
                   cases e166
                   replace hx166_0 := zx HB hx166_0
                   replace p166 := eq_true p166
                   replace q166 := eq_true q166
                   go_wp2_with (first | ((with_reducible refine jG (f := 50) rfl ?_); refine zL (some 39) Try.func50 #[.int .i64 (rd l0 x27_2)] ?_; (with_reducible refine (impl_controllerWith.calls (rd l0 x27_2) t167 t168 t169 t170 t171 t172 _ A20.out).mono ?_); rintro e w34 ⟨rfl, hb⟩; refine ⟨_, rfl, ?_⟩; replace HO_7 := jA (jU (g := gA) (o := .cells (boolCells x7_1) 93 (0, 0)) (by (with_reducible repeat (first | refine blk_drewN ?_ _ | refine blk_drew ?_ | refine blk_alloc ?_ _)); exact HO_7.out) hb); replace HB := zS0 HB hb; clear hb) | ((with_reducible refine jG (f := 67) rfl ?_); refine zL (some 41) Try.func67 #[.agg #[.bool t167, .bool t168, .bool t169, .bool t170, .bool t171, .int .i64 t172], .int .i64 (rd l1 x33_3)] ?_; (with_reducible refine (impl_giveInput.calls t167 t168 t169 t170 t171 t172 (rd l1 x33_3) t173 t174 t175 t176 t177 t178 t179 _ A21.out).mono ?_); rintro e w35 ⟨rfl, hb⟩; refine ⟨_, rfl, ?_⟩; replace HO_7 := jA (jU (g := gA) (o := .cells (boolCells x7_1) 93 (0, 0)) (by (with_reducible repeat (first | refine blk_drewN ?_ _ | refine blk_drew ?_ | refine blk_alloc ?_ _)); exact HO_7.out) hb); replace HB := zS0 HB hb; clear hb) | ((with_reducible refine jJ (N := 14) rfl ?_); refine zE 14 #[.bool false, .bool false, .bool false, .bool false, .bool false, .int .i64 0] 23 ?_; intro gb180 hg w36 hbox hb; have NBA := jA ((by rw [hg]; exact Nat.ne_of_lt (blk_lt (g := gA) (o := .cells (boolCells x7_1) 93 (0, 0)) (by (with_reducible repeat (first | refine blk_drewN ?_ _ | refine blk_drew ?_ | refine blk_alloc ?_ _)); exact HO_7.out))) : gA ≠ gb180); replace HO_7 := jA (jU (g := gA) (o := .cells (boolCells x7_1) 93 (0, 0)) (by (with_reducible repeat (first | refine blk_drewN ?_ _ | refine blk_drew ?_ | refine blk_alloc ?_ _)); exact HO_7.out) hb); have BK180 := jA (hbox); have GW180 := zg0 hg HB; have GE180 := zg0 hg HB; replace HB := zS0 HB hb; clear hb hbox hg; have hcz37 := zc6 BK180) | (go_at_call 53; (with_reducible refine (impl_numberOf.calls t173 t174 t175 t176 t177 t178 t181 _ A23.out).mono ?_); rintro e w38 ⟨rfl, hb⟩; replace HO_7 := jA (jU (g := gA) (o := .cells (boolCells x7_1) 93 (0, 0)) (by (with_reducible repeat (first | refine blk_drewN ?_ _ | refine blk_drew ?_ | refine blk_alloc ?_ _)); exact ((blk_far (blk_far (blk_far (blk_far (blk_far (blk_far HO_7.out NBA.out _) NBA.out _) NBA.out _) NBA.out _) NBA.out _) NBA.out _))) hb); replace BK180 := jA (jU (g := gb180) (o := .cells #[.bool t173, .bool t174, .bool t175, .bool t176, .bool t177, .int .i64 t178] 23 (0, 0)) (zP0 BK180) hb); replace HB := zS1 HB GE180 hb; (try clear hb); (try clear hb2); (try clear hk); (try clear hi); have p182 : 0 ≤ (t181 : Int) := jB za; have q182 : t181 < (x7_1.length : Int) := jB za; have hx182_0 := (jL HO_7.out t181.toNat).trans (boolCells_at x7_1 p182 q182); (try rw [← Nbq26.out] at hx182_0); have c25x := eq_true (show t181 < (160 : Int) by have := HL7.out; omega); replace p182 := eq_true p182; replace q182 := eq_true q182))
                   go_ret3
                   exact ⟨ze, zb1 HB GE180⟩
                 ·rw [if_neg c25] at H
                  exact absurd H (by simp)
                ·rw [if_neg c24] at H
                 exact absurd H (by simp)
               ·rw [if_neg c22] at H
                have c22b0 : (t179 == 0) = false := beq_eq_false_iff_ne.mpr c22
                have c22b1 : (t179 != 0) = true := bne_iff_ne.mpr c22
                have H' := jA H
                clear H
                have p166 : 0 ≤ (x33_3 : Int) := jB za
                have q166 : x33_3 < (l1.length : Int) := jB za
                obtain ⟨ad166, e166, hx166_0⟩ := jR HR1.out x33_3 p166 q166
                cases e166
                replace hx166_0 := zx HB hx166_0
                replace p166 := eq_true p166
                replace q166 := eq_true q166
                go_wp2_with (first | ((with_reducible refine jG (f := 50) rfl ?_); refine zL (some 39) Try.func50 #[.int .i64 (rd l0 x27_2)] ?_; (with_reducible refine (impl_controllerWith.calls (rd l0 x27_2) t167 t168 t169 t170 t171 t172 _ A20.out).mono ?_); rintro e w40 ⟨rfl, hb⟩; refine ⟨_, rfl, ?_⟩; replace HO_7 := jA (jU (g := gA) (o := .cells (boolCells x7_1) 93 (0, 0)) (by (with_reducible repeat (first | refine blk_drewN ?_ _ | refine blk_drew ?_ | refine blk_alloc ?_ _)); exact HO_7.out) hb); replace HB := zS0 HB hb; clear hb) | ((with_reducible refine jG (f := 67) rfl ?_); refine zL (some 41) Try.func67 #[.agg #[.bool t167, .bool t168, .bool t169, .bool t170, .bool t171, .int .i64 t172], .int .i64 (rd l1 x33_3)] ?_; (with_reducible refine (impl_giveInput.calls t167 t168 t169 t170 t171 t172 (rd l1 x33_3) t173 t174 t175 t176 t177 t178 t179 _ A21.out).mono ?_); rintro e w41 ⟨rfl, hb⟩; refine ⟨_, rfl, ?_⟩; replace HO_7 := jA (jU (g := gA) (o := .cells (boolCells x7_1) 93 (0, 0)) (by (with_reducible repeat (first | refine blk_drewN ?_ _ | refine blk_drew ?_ | refine blk_alloc ?_ _)); exact HO_7.out) hb); replace HB := zS0 HB hb; clear hb) | ((with_reducible refine jJ (N := 14) rfl ?_); refine zE 14 #[.bool false, .bool false, .bool false, .bool false, .bool false, .int .i64 0] 23 ?_; intro gb180 hg w42 hbox hb; have NBA := jA ((by rw [hg]; exact Nat.ne_of_lt (blk_lt (g := gA) (o := .cells (boolCells x7_1) 93 (0, 0)) (by (with_reducible repeat (first | refine blk_drewN ?_ _ | refine blk_drew ?_ | refine blk_alloc ?_ _)); exact HO_7.out))) : gA ≠ gb180); replace HO_7 := jA (jU (g := gA) (o := .cells (boolCells x7_1) 93 (0, 0)) (by (with_reducible repeat (first | refine blk_drewN ?_ _ | refine blk_drew ?_ | refine blk_alloc ?_ _)); exact HO_7.out) hb); have BK180 := jA (hbox); have GW180 := zg0 hg HB; have GE180 := zg0 hg HB; replace HB := zS0 HB hb; clear hb hbox hg; have hcz43 := zc6 BK180))
                go_roundg k3
                case measure => have := HK1.out; have := HK2.out; have := HK3.out; omega
                case rel => exact ⟨(wrap64 (x33_3 + 1)), zz, H', ⟨by have := HK1.out; have := HK2.out; have := HK3.out; omega⟩, ⟨by (with_reducible repeat (first | refine blk_drewN ?_ _ | refine blk_drew ?_ | refine blk_alloc ?_ _)); exact (blk_far (blk_far (blk_far (blk_far (blk_far (blk_far HO_7.out NBA.out _) NBA.out _) NBA.out _) NBA.out _) NBA.out _) NBA.out _)⟩, ⟨zb1 HB GE180⟩⟩
              ·rw [if_neg c19] at H
               exact absurd H (by simp)
             ·rw [if_neg c18] at H
              exact absurd H (by simp)
            ·rw [if_neg c17] at H
             have c17b0 : decide (x33_3 < (l1.length : Int)) = false := jS c17
             clear c17
             have H' := jA H
             clear H
             go_wp2
             go_roundg k3
             case measure => have := HK1.out; have := HK2.out; have := HK3.out; omega
             case rel => exact ⟨(wrap64 (x27_2 + 1)), zz, H', ⟨by have := HK1.out; have := HK2.out; have := HK3.out; omega⟩, ⟨by (with_reducible repeat (first | refine blk_drewN ?_ _ | refine blk_drew ?_ | refine blk_alloc ?_ _)); exact HO_7.out⟩, ⟨zb0 HB⟩⟩
         ·rw [if_neg c16] at H
          exact absurd H (by simp)
        ·rw [if_neg c15] at H
         exact absurd H (by simp)
       ·rw [if_neg c14] at H
        have c14b0 : decide (x27_2 < (l0.length : Int)) = false := jS c14
        clear c14
        simp only [jH, jK] at H
        obtain ⟨rfl, rfl, rfl⟩ := H
        go_wp2
        go_ret3
        exact ⟨ze, zb0 HB⟩
 ·rw [if_neg c3] at H
  exact absurd H (by simp)
/-! ### impl_FirstLeak: function 21 -/
def impl_FirstLeak.j0 : Nat → List Int → List Int → Bool → Option (Int × Int × Int)
 | 0, _, _, _ => none
 | k + 1, x0, x1, x17 => if x17 = true then (some (0, 0, 1)) else ((impl_firstLeak.f k x0 x1).bind fun bt547 => (if bt547.2.2 = true then (some (bt547.1, bt547.2.1, 0)) else (some (0, 0, 4))))
def impl_FirstLeak.f (k : Nat) (l0 : List Int) (l1 : List Int) : Option (Int × Int × Int) := (impl_areSafe.f k l0).bind fun t545 => (if t545 = true then ((impl_isHand.f k l1).bind fun t546 => (impl_FirstLeak.j0 k l0 l1 (!t546))) else (impl_FirstLeak.j0 k l0 l1 true))
theorem impl_FirstLeak.mono_l : ∀ k, (∀ y0 y1 y2, LeO (impl_FirstLeak.j0 k y0 y1 y2) (impl_FirstLeak.j0 (k + 1) y0 y1 y2))
 | 0 => fun _ _ _ r h => by simp [impl_FirstLeak.j0] at h
 | k + 1 => by
  have ih0 := impl_FirstLeak.mono_l k
  ·intro y0 y1 y2
   unfold impl_FirstLeak.j0
   repeat' first
   | (with_reducible exact ih0 _ _ _)
   | (with_reducible exact impl_areSafe.mono _ _)
   | (with_reducible exact impl_firstLeak.mono _ _ _)
   | (with_reducible exact impl_isHand.mono _ _)
   | (with_reducible exact LeO.refl _)
   | (with_reducible exact LeO.none _)
   | (with_reducible refine LeO.ite ?_ ?_)
   | (with_reducible refine LeO.bind ?_ (fun _ => ?_))
   | exact ih0 _ _ _
   | exact impl_areSafe.mono _ _
   | exact impl_firstLeak.mono _ _ _
   | exact impl_isHand.mono _ _
   | exact LeO.none _
   | refine LeO.ite ?_ ?_
   | refine LeO.bind ?_ (fun _ => ?_)
theorem impl_FirstLeak.mono : ∀ a0 a1 k, LeO (impl_FirstLeak.f k a0 a1) (impl_FirstLeak.f (k + 1) a0 a1) := by
 intro a0 a1 k
 have ih0 := impl_FirstLeak.mono_l k
 unfold impl_FirstLeak.f
 repeat' first
   | (with_reducible exact ih0 _ _ _)
   | (with_reducible exact impl_areSafe.mono _ _)
   | (with_reducible exact impl_firstLeak.mono _ _ _)
   | (with_reducible exact impl_isHand.mono _ _)
   | (with_reducible exact LeO.refl _)
   | (with_reducible exact LeO.none _)
   | (with_reducible refine LeO.ite ?_ ?_)
   | (with_reducible refine LeO.bind ?_ (fun _ => ?_))
   | exact ih0 _ _ _
   | exact impl_areSafe.mono _ _
   | exact impl_firstLeak.mono _ _ _
   | exact impl_isHand.mono _ _
   | exact LeO.none _
   | refine LeO.ite ?_ ?_
   | refine LeO.bind ?_ (fun _ => ?_)
set_option maxHeartbeats 8000000 in
set_option maxRecDepth 100000 in
theorem impl_FirstLeak.calls (k : Nat) (A0 : Option Addr) (c0 : Nat) (l0 : List Int) (A1 : Option Addr) (c1 : Nat) (l1 : List Int) (r1 : Int) (r2 : Int) (r3 : Int) (w : World) (hr0 : Kd.C (Kd.int .i64) w A0 l0.length l0) (hc0 : l0.length ≤ c0) (hr1 : Kd.C (Kd.int .i64) w A1 l1.length l1) (hc1 : l1.length ≤ c1) (h : impl_FirstLeak.f k l0 l1 = some (r1, r2, r3)) :
  Calls Try.prog 21 #[.slice A0 l0.length c0, .slice A1 l1.length c1] w fun e w' => e = .returned (.tuple #[.int .i64 r1, .int .i64 r2, .int .i64 r3]) ∧ Below w.heap.size w w' := by
 have HR0 := jA hr0
 have HC0 := jA hc0
 clear hr0 hc0
 have HR1 := jA hr1
 have HC1 := jA hc1
 clear hr1 hc1
 have HB := jA (Below.refl w.heap.size w)
 have H := h
 unfold impl_FirstLeak.f at H
 clear h
 have HC3 := jA H
 clear H
 go_enter Try.func21, Try.ntmps21
 go_upto_region 1 with (fail)
 go_cut [17] (fun v17 wc => ∃ (kq : Nat) (x17_2 : Bool), v17 = .bool x17_2 ∧ Aside0 (impl_FirstLeak.j0 kq l0 l1 x17_2 = some (r1, r2, r3)) ∧ Aside0 (kq ≤ k) ∧ Aside0 (Below w.heap.size w wc))
 case first =>
  have H := HC3.out
  clear HC3
  replace H := jC.mp H
  obtain ⟨t545, A40, H⟩ := H
  try dsimp only at H
  have A4 := jA A40
  clear A40
  by_cases c5 : t545 = true
  ·subst c5
   rw [if_pos rfl] at H
   replace H := jC.mp H
   obtain ⟨t546, A60, H⟩ := H
   try dsimp only at H
   have A6 := jA A60
   clear A60
   have H' := jA H
   clear H
   go_wp2_with (first | ((with_reducible refine jG (f := 55) rfl ?_); refine zL (some 11) Try.func55 #[.slice A0 l0.length c0] ?_; (with_reducible refine (impl_areSafe.calls k _ _ l0 true _ ?side1 ?side2 A4.out).mono ?_); (case side1 => exact zs HR0 HB); (case side2 => exact HC0.out); rintro e w7 ⟨rfl, hb⟩; refine ⟨_, rfl, ?_⟩; replace HB := zS0 HB hb; clear hb) | (go_at_call 56; (with_reducible refine (impl_isHand.calls k _ _ l1 t546 _ ?side1 ?side2 A6.out).mono ?_); (case side1 => exact zs HR1 HB); (case side2 => exact HC1.out); rintro e w' ⟨rfl, ⟨nd, rfl⟩⟩))
   go_meet
   case rel => exact ⟨_, (!t546), zz, H', ⟨by first | omega | exact Nat.le_refl _⟩, ⟨zb0 HB⟩⟩
  ·replace c5 := Bool.eq_false_iff.mpr c5
   subst c5
   rw [if_neg zfalse] at H
   have H' := jA H
   clear H
   go_wp2_with (first | ((with_reducible refine jG (f := 55) rfl ?_); refine zL (some 11) Try.func55 #[.slice A0 l0.length c0] ?_; (with_reducible refine (impl_areSafe.calls k _ _ l0 false _ ?side1 ?side2 A4.out).mono ?_); (case side1 => exact zs HR0 HB); (case side2 => exact HC0.out); rintro e w8 ⟨rfl, hb⟩; refine ⟨_, rfl, ?_⟩; replace HB := zS0 HB hb; clear hb))
   go_meet
   case rel => exact ⟨_, (true), zz, H', ⟨by first | omega | exact Nat.le_refl _⟩, ⟨zb0 HB⟩⟩
 case rest =>
  clear HC3
  try clear c1
  try clear c2
  try clear p2
  try clear c5
  obtain ⟨kq, x17_2, rfl, HA, HJ2, HB⟩ := hcut
  cases kq with
  | zero => exact absurd HA.out (by simp [impl_FirstLeak.j0])
  | succ kj2 =>
   have H := HA.out
   clear HA
   simp only [impl_FirstLeak.j0] at H
   by_cases c9 : x17_2 = true
   ·subst c9
    rw [if_pos rfl] at H
    simp only [jH, jK] at H
    obtain ⟨rfl, rfl, rfl⟩ := H
    go_wp2
    go_ret3
    exact ⟨ze, zb0 HB⟩
   ·replace c9 := Bool.eq_false_iff.mpr c9
    subst c9
    rw [if_neg zfalse] at H
    replace H := jC.mp H
    obtain ⟨⟨t547, t548, t549⟩, A100, H⟩ := H
    try dsimp only at H
    have A10 := jA A100
    clear A100
    by_cases c11 : t549 = true
    ·subst c11
     rw [if_pos rfl] at H
     simp only [jH, jK] at H
     obtain ⟨rfl, rfl, rfl⟩ := H
     go_wp2_with (first | ((with_reducible refine jG (f := 57) rfl ?_); refine zL (some 21) Try.func57 #[.slice A0 l0.length c0, .slice A1 l1.length c1] ?_; (with_reducible refine (impl_firstLeak.calls kj2 _ _ l0 _ _ l1 t547 t548 true _ ?side1 ?side2 ?side3 ?side4 A10.out).mono ?_); (case side1 => exact zs HR0 HB); (case side2 => exact HC0.out); (case side3 => exact zs HR1 HB); (case side4 => exact HC1.out); rintro e w12 ⟨rfl, hb⟩; refine ⟨_, rfl, ?_⟩; replace HB := zS0 HB hb; clear hb))
     go_ret3
     exact ⟨ze, zb0 HB⟩
    ·replace c11 := Bool.eq_false_iff.mpr c11
     subst c11
     rw [if_neg zfalse] at H
     simp only [jH, jK] at H
     obtain ⟨rfl, rfl, rfl⟩ := H
     go_wp2_with (first | ((with_reducible refine jG (f := 57) rfl ?_); refine zL (some 21) Try.func57 #[.slice A0 l0.length c0, .slice A1 l1.length c1] ?_; (with_reducible refine (impl_firstLeak.calls kj2 _ _ l0 _ _ l1 t547 t548 false _ ?side1 ?side2 ?side3 ?side4 A10.out).mono ?_); (case side1 => exact zs HR0 HB); (case side2 => exact HC0.out); (case side3 => exact zs HR1 HB); (case side4 => exact HC1.out); rintro e w13 ⟨rfl, hb⟩; refine ⟨_, rfl, ?_⟩; replace HB := zS0 HB hb; clear hb))
     go_ret3
     exact ⟨ze, zb0 HB⟩

end Go.Proofs.Ythieppjmjgijfaa.PFnProofs
