/- Functions and contracts that FnMoved reaches (25 of 29). -/
import Derived.Test.YtdgglhfnlljmeaaQFnMovedx23
namespace Go.Proofs.Ytdgglhfnlljmeaa.PFnMoved
open Go.RowKit Go.Proofs.YtdgglhfnlljmeaaW.PrintWords Go.Proofs.YtdgglhfnlljmeaaW.PrintLast Go.Proofs.YtdgglhfnlljmeaaW.PrintMore
attribute [local go_sem] max2_int min2_int max_two min_two max_three min_three max_four min_four   -- for this text's walks alone
set_option linter.unusedVariables false
set_option linter.unusedSimpArgs false

/-! ### spec_l03List: function 88 -/
mutual
def spec_l03List.l0 : Nat → List (S65) → List ByteArray → Int → List Int → Int → Int → Option ((List (S65)) × Int × Int)
 | 0, _, _, _, _, _, _ => none
 | k + 1, x3, x4, x5, x1000, x1001, x1002 => if x5 < (x4.length : Int) then ((spec_l01Next.f x1000 x1001 x1002 3).bind fun bt455 => (if bt455.1 > 0 then (if 0 ≤ x5 then ((spec_l03Draw.f x1000 bt455.2.1 bt455.2.2 (rdOf ByteArray.empty x4 x5)).bind fun bt459 => (if x3.length < 1759218604441 then (spec_l03List.l0 k (x3 ++ [(⟨bt459.1, bt459.2.1, bt459.2.2.1, bt459.2.2.2.1, bt459.2.2.2.2.1, bt459.2.2.2.2.2.1, bt459.2.2.2.2.2.2.1, bt459.2.2.2.2.2.2.2.1, bt459.2.2.2.2.2.2.2.2.1⟩ : S65)]) x4 (wrap64 (x5 + 1)) x1000 bt459.2.2.2.2.2.2.2.2.2.1 bt459.2.2.2.2.2.2.2.2.2.2) else (none))) else (none)) else (spec_l03List.l0 k x3 x4 (wrap64 (x5 + 1)) x1000 bt455.2.1 bt455.2.2))) else ((spec_l01Next.f x1000 x1001 x1002 30).bind fun bt473 => (if bt473.1 = 0 then ((spec_l03Good.f x1000 bt473.2.1 bt473.2.2 (⟨#[97, 115, 116, 101, 114]⟩ : ByteArray)).bind fun bt476 => (if x3.length < 1759218604441 then (some ((x3 ++ [(⟨bt476.1, bt476.2.1, bt476.2.2.1, bt476.2.2.2.1, bt476.2.2.2.2.1, bt476.2.2.2.2.2.1, bt476.2.2.2.2.2.2.1, bt476.2.2.2.2.2.2.2.1, bt476.2.2.2.2.2.2.2.2.1⟩ : S65)]), bt476.2.2.2.2.2.2.2.2.2.1, bt476.2.2.2.2.2.2.2.2.2.2)) else (none))) else (if bt473.1 = 1 then (spec_l03List.l1 k x3 0 x1000 bt473.2.1 bt473.2.2) else (some (x3, bt473.2.1, bt473.2.2)))))
def spec_l03List.l1 : Nat → List (S65) → Int → List Int → Int → Int → Option ((List (S65)) × Int × Int)
 | 0, _, _, _, _, _ => none
 | k + 1, x3, x6, x1000, x1001, x1002 => (spec_l01Next.f x1000 x1001 x1002 2).bind fun bt490 => (if (x3.length : Int) < (wrap64 (12 + bt490.1)) then (if x6 < 14 then (if 0 ≤ x6 then (if x6 ≤ (wrap64 (x6 + 1)) then (if (wrap64 (x6 + 1)) ≤ 14 then (if 1 + ((⟨#[97, 98, 99, 100, 101, 102, 103, 104, 105, 106, 107, 108, 109, 110]⟩ : ByteArray).extract (x6 : Int).toNat ((wrap64 (x6 + 1)) : Int).toNat).size ≤ 9223372036854775807 then ((spec_l03Good.f x1000 bt490.2.1 bt490.2.2 ((⟨#[120]⟩ : ByteArray) ++ ((⟨#[97, 98, 99, 100, 101, 102, 103, 104, 105, 106, 107, 108, 109, 110]⟩ : ByteArray).extract (x6 : Int).toNat ((wrap64 (x6 + 1)) : Int).toNat))).bind fun bt493 => (if x3.length < 1759218604441 then (spec_l03List.l1 k (x3 ++ [(⟨bt493.1, bt493.2.1, bt493.2.2.1, bt493.2.2.2.1, bt493.2.2.2.2.1, bt493.2.2.2.2.2.1, bt493.2.2.2.2.2.2.1, bt493.2.2.2.2.2.2.2.1, bt493.2.2.2.2.2.2.2.2.1⟩ : S65)]) (wrap64 (x6 + 1)) x1000 bt493.2.2.2.2.2.2.2.2.2.1 bt493.2.2.2.2.2.2.2.2.2.2) else (none))) else (none)) else (none)) else (none)) else (none)) else (some (x3, bt490.2.1, bt490.2.2))) else (some (x3, bt490.2.1, bt490.2.2)))
end
def spec_l03List.f (k : Nat) (s0_0 : List Int) (s0_1 : Int) (s0_2 : Int) : Option ((List (S65)) × Int × Int) := (spec_l03Names.f).bind fun t452 => (spec_l03List.l0 k (([] : List (S65))) t452 0 s0_0 s0_1 s0_2)
theorem spec_l03List.mono_l : ∀ k, (∀ y0 y1 y2 y3 y4 y5, LeO (spec_l03List.l0 k y0 y1 y2 y3 y4 y5) (spec_l03List.l0 (k + 1) y0 y1 y2 y3 y4 y5)) ∧ (∀ y0 y1 y2 y3 y4, LeO (spec_l03List.l1 k y0 y1 y2 y3 y4) (spec_l03List.l1 (k + 1) y0 y1 y2 y3 y4))
 | 0 => ⟨fun _ _ _ _ _ _ r h => by simp [spec_l03List.l0] at h, fun _ _ _ _ _ r h => by simp [spec_l03List.l1] at h⟩
 | k + 1 => by
  obtain ⟨ih0, ih1⟩ := spec_l03List.mono_l k
  refine ⟨?_, ?_⟩
  ·intro y0 y1 y2 y3 y4 y5
   unfold spec_l03List.l0
   repeat' first
   | (with_reducible exact ih0 _ _ _ _ _ _)
   | (with_reducible exact ih1 _ _ _ _ _)
   | (with_reducible exact LeO.refl _)
   | (with_reducible exact LeO.none _)
   | (with_reducible refine LeO.ite ?_ ?_)
   | (with_reducible refine LeO.bind ?_ (fun _ => ?_))
   | exact ih0 _ _ _ _ _ _
   | exact ih1 _ _ _ _ _
   | exact LeO.none _
   | refine LeO.ite ?_ ?_
   | refine LeO.bind ?_ (fun _ => ?_)
  ·intro y0 y1 y2 y3 y4
   unfold spec_l03List.l1
   repeat' first
   | (with_reducible exact ih0 _ _ _ _ _ _)
   | (with_reducible exact ih1 _ _ _ _ _)
   | (with_reducible exact LeO.refl _)
   | (with_reducible exact LeO.none _)
   | (with_reducible refine LeO.ite ?_ ?_)
   | (with_reducible refine LeO.bind ?_ (fun _ => ?_))
   | exact ih0 _ _ _ _ _ _
   | exact ih1 _ _ _ _ _
   | exact LeO.none _
   | refine LeO.ite ?_ ?_
   | refine LeO.bind ?_ (fun _ => ?_)
theorem spec_l03List.mono : ∀ a0 a1 a2 k, LeO (spec_l03List.f k a0 a1 a2) (spec_l03List.f (k + 1) a0 a1 a2) := by
 intro a0 a1 a2 k
 obtain ⟨ih0, ih1⟩ := spec_l03List.mono_l k
 unfold spec_l03List.f
 repeat' first
   | (with_reducible exact ih0 _ _ _ _ _ _)
   | (with_reducible exact ih1 _ _ _ _ _)
   | (with_reducible exact LeO.refl _)
   | (with_reducible exact LeO.none _)
   | (with_reducible refine LeO.ite ?_ ?_)
   | (with_reducible refine LeO.bind ?_ (fun _ => ?_))
   | exact ih0 _ _ _ _ _ _
   | exact ih1 _ _ _ _ _
   | exact LeO.none _
   | refine LeO.ite ?_ ?_
   | refine LeO.bind ?_ (fun _ => ?_)
set_option maxHeartbeats 8000000 in
set_option maxRecDepth 100000 in
theorem spec_l03List.calls (k : Nat) (g : Nat) (s0_0 : List Int) (s0_1 : Int) (s0_2 : Int) (r1 : List (S65)) (r2 : Int) (r3 : Int) (w0 w : World) (hI : IsS92 w0 w g s0_0 s0_1 s0_2) (hB : Below w0.heap.size w0 w) (h : spec_l03List.f k s0_0 s0_1 s0_2 = some (r1, r2, r3)) :
  Calls Try.prog 88 #[.pointer (some ⟨g, 0, none⟩)] w fun e w' => ∃ v0_ : Value, e = .returned (v0_) ∧ Kd.R k65 65 w' w.heap.size (fun _ => True) v0_ r1 ∧ IsS92 w0 w' g s0_0 r2 r3 ∧ Below w0.heap.size w0 w' ∧ KeepBut w w' g none := by
 have HI0 := jA hI
 have HK := jA (KeepBut.refl w g none)
 have HL := jA hB.size
 clear hI
 have HW0 := jA hB.size
 have HB := jA hB
 clear hB
 have H := h
 unfold spec_l03List.f at H
 clear h
 obtain ⟨y449, hy449⟩ : ∃ y_ : List (S65), y_ = (([] : List (S65))) := ⟨_, rfl⟩
 replace H : ((spec_l03Names.f).bind fun t452 => (spec_l03List.l0 k y449 t452 0 s0_0 s0_1 s0_2)) = some (r1, r2, r3) := by first | (rw [hy449]; with_reducible exact H) | (have H2_ := (Option.bind_some _ _).symm.trans H; rw [hy449]; with_reducible exact H2_) | (have H2_ := (Option.bind_some _ _).symm.trans H; with_reducible exact H2_) | with_reducible exact H | (rw [hy449]; exact H) | exact H
 have Ny449 := jA hy449
 clear hy449
 replace H := jB.mp H
 obtain ⟨t452, A20, H⟩ := H
 try dsimp only at H
 have A2 := jA A20
 clear A20
 have H' := jA H
 clear H
 go_enter Try.func88, Try.ntmps88
 go_wp2_with (first | ((with_reducible refine jJ (N := 7) rfl ?_); refine Kd.R_lit k65 _ 65 ?hg (N := 7) ?hd (xs := ([] : List (S65))) (inner := []) (ok := fun _ => True) (okp := fun _ => True) ?hr ?hp (fun _ hk => hk) trivial (Below.refl _ _) (Nat.le_refl _) (by simp) ?_; (case hd => rfl); (case hg => rfl); (case hr => first | (go_simp; done) | (go_simp; rfl)); (case hp => exact (Reps.none _ _)); intro v450 w3 ho4 hb hg_ hnew_; clear hg_ hnew_; (first | rw [← Ny449.out] at ho4 | (simp only [Int.reduceToNat] at ho4; rw [← Ny449.out] at ho4)); have HO451 := jA (jU ho4 (keep_size (w := w) (g := g) (row := none) (zh0 HK))); replace HK := jA (KeepBut.trans (zh0 HK) (KeepBut.of_below hb g none) (.inl rfl)); replace HB := jA (jY (zr4 HB HI0) hb); replace HI0 := jA (IsS92.below (zr3 HI0) hb); clear hb ho4) | ((with_reducible refine jG (f := 91) rfl ?_); refine zL (some 8) Try.func91 #[] ?_; (with_reducible refine (spec_l03Names.calls  t452 _ A2.out).mono ?_); rintro e w5 ⟨v453, rfl, ho0, hb⟩; refine ⟨_, rfl, ?_⟩; replace HO451 := jA (jE (zo HO451) hb); have HO454 := jA (jU ho0 (keep_size (w := w) (g := g) (row := none) (zh0 HK))); replace HK := jA (KeepBut.trans (zh0 HK) (KeepBut.of_below hb g none) (.inl rfl)); replace HB := jA (jY (zr4 HB HI0) hb); replace HI0 := jA (IsS92.below (zr3 HI0) hb); (try clear hb); (try clear hb2); (try clear hk); (try clear hi); (try clear ho0)))
 go_loopg [3, 5] k (fun kq v3 v5 w' => ∃ (x3_1 : List (S65)) (x5_1 : Int) (x1001_1 : Int) (x1002_1 : Int), v5 = .int .i64 x5_1 ∧ Aside0 (spec_l03List.l0 kq x3_1 t452 x5_1 s0_0 x1001_1 x1002_1 = some (r1, r2, r3)) ∧ Aside0 (kq ≤ k) ∧ Aside0 (Kd.R k65 65 w' w.heap.size (fun _ => True) v3 x3_1) ∧ Aside0 (Kd.R Kd.string 9 w' w.heap.size (fun _ => True) v453 t452) ∧ Aside0 (IsS92 w0 w' g s0_0 x1001_1 x1002_1) ∧ Aside0 (KeepBut w w' g none) ∧ Aside0 (Below w0.heap.size w0 w'))
 case atStart => exact ⟨(y449), (0), (s0_1), (s0_2), zz, H', ⟨Nat.le_refl _⟩, ⟨zo HO451⟩, ⟨zo HO454⟩, ⟨zr3 HI0⟩, ⟨zh0 HK⟩, ⟨zr4 HB HI0⟩⟩
 case round =>
  clear H'
  try clear p2
  obtain ⟨x3_1, x5_1, x1001_1, x1002_1, rfl, HA, HK1, HO_3, HO_4, HI0, HK, HB⟩ := hrel
  cases gk with
  | zero => exact absurd HA.out (by simp [spec_l03List.l0])
  | succ k1 =>
   have H := HA.out
   clear HA
   simp only [spec_l03List.l0] at H
   by_cases c6 : x5_1 < (t452.length : Int)
   ·rw [if_pos c6] at H
    have c6b0 : decide (x5_1 < (t452.length : Int)) = true := jK c6
    clear c6
    replace H := jB.mp H
    obtain ⟨⟨t455, t456, t457⟩, A70, H⟩ := H
    replace H : (if t455 > 0 then (if 0 ≤ x5_1 then ((spec_l03Draw.f s0_0 t456 t457 (rdOf ByteArray.empty t452 x5_1)).bind fun bt459 => (if x3_1.length < 1759218604441 then (spec_l03List.l0 k1 (x3_1 ++ [(⟨bt459.1, bt459.2.1, bt459.2.2.1, bt459.2.2.2.1, bt459.2.2.2.2.1, bt459.2.2.2.2.2.1, bt459.2.2.2.2.2.2.1, bt459.2.2.2.2.2.2.2.1, bt459.2.2.2.2.2.2.2.2.1⟩ : S65)]) t452 (wrap64 (x5_1 + 1)) s0_0 bt459.2.2.2.2.2.2.2.2.2.1 bt459.2.2.2.2.2.2.2.2.2.2) else (none))) else (none)) else (spec_l03List.l0 k1 x3_1 t452 (wrap64 (x5_1 + 1)) s0_0 t456 t457)) = some (r1, r2, r3) := H
    have A7 := jA A70
    clear A70
    by_cases c8 : t455 > 0
    ·rw [if_pos c8] at H
     have c8b0 : decide (0 < t455) = true := jK c8
     clear c8
     by_cases c9 : 0 ≤ x5_1
     ·rw [if_pos c9] at H
      have c9b0 : decide (0 ≤ x5_1) = true := jK c9
      clear c9
      replace H := jB.mp H
      obtain ⟨⟨t459, t460, t461, t462, t463, t464, t465, t466, t467, t468, t469⟩, A100, H⟩ := H
      replace H : (if x3_1.length < 1759218604441 then (spec_l03List.l0 k1 (x3_1 ++ [(⟨t459, t460, t461, t462, t463, t464, t465, t466, t467⟩ : S65)]) t452 (wrap64 (x5_1 + 1)) s0_0 t468 t469) else (none)) = some (r1, r2, r3) := H
      have A10 := jA A100
      clear A100
      by_cases c11 : x3_1.length < 1759218604441
      ·rw [if_pos c11] at H
       have LMc11 := jA c11
       clear c11
       obtain ⟨y470, hy470⟩ : ∃ y_ : List (S65), y_ = (x3_1 ++ [(⟨t459, t460, t461, t462, t463, t464, t465, t466, t467⟩ : S65)]) := ⟨_, rfl⟩
       replace H : (spec_l03List.l0 k1 y470 t452 (wrap64 (x5_1 + 1)) s0_0 t468 t469) = some (r1, r2, r3) := by first | (rw [hy470]; with_reducible exact H) | (have H2_ := (Option.bind_some _ _).symm.trans H; rw [hy470]; with_reducible exact H2_) | (have H2_ := (Option.bind_some _ _).symm.trans H; with_reducible exact H2_) | with_reducible exact H | (rw [hy470]; exact H) | exact H
       have Ny470 := jA hy470
       clear hy470
       have H' := jA H
       clear H
       obtain ⟨Ao12, co12, eo12⟩ := Kd.R_slice HO_4.out
       subst eo12
       go_wp2_with (first | ((with_reducible refine jG (f := 79) rfl ?_); refine zL (some 16) Try.func79 #[.pointer (some ⟨g, 0, none⟩), .int .i64 3] ?_; (with_reducible refine (spec_l01Next.calls g s0_0 x1001_1 x1002_1 3 t455 t456 t457 w0 _ ?side1 ?side2 A7.out).mono ?_); (case side1 => exact zr3 HI0); (case side2 => exact zr4 HB HI0); rintro e w13 ⟨rfl, hi, hb, hk⟩; refine ⟨_, rfl, ?_⟩; replace HO_3 := jA (Kd.R_mono (Kd.R_keep (IsS92.apart (show IsS92 w0 _ g s0_0 x1001_1 x1002_1 from zr3 HI0) (zo HO_3) (by decide)) hk (fun _ h => h.2)) (fun _ h => h.1)); replace HO_4 := jA (Kd.R_mono (Kd.R_keep (IsS92.apart (show IsS92 w0 _ g s0_0 x1001_1 x1002_1 from zr3 HI0) (zo HO_4) (by decide)) hk (fun _ h => h.2)) (fun _ h => h.1)); replace HK := jA (KeepBut.trans (zh0 HK) hk (.inl rfl)); replace HB := jA (hb); replace HI0 := jA (hi); (try clear hb); (try clear hb2); (try clear hk); (try clear hi); have p458 : 0 ≤ (x5_1 : Int) := jD za; have q458 : x5_1 < (t452.length : Int) := jD za; obtain ⟨ad458, e458, hx458_0⟩ := Kd.at_string (jO HO_4.out).2.2 x5_1 p458 q458; cases e458; replace p458 := eq_true p458; replace q458 := eq_true q458) | ((with_reducible refine jG (f := 92) rfl ?_); refine zL (some 24) Try.func92 #[.pointer (some ⟨g, 0, none⟩), .string (rdOf ByteArray.empty t452 x5_1)] ?_; (with_reducible refine (spec_l03Draw.calls g s0_0 t456 t457 (rdOf ByteArray.empty t452 x5_1) t459 t460 t461 t462 t463 t464 t465 t466 t467 t468 t469 w0 _ ?side1 ?side2 A10.out).mono ?_); (case side1 => exact zr3 HI0); (case side2 => exact zr4 HB HI0); rintro e w14 ⟨rfl, hi, hb, hk⟩; refine ⟨_, rfl, ?_⟩; replace HO_3 := jA (Kd.R_mono (Kd.R_keep (IsS92.apart (show IsS92 w0 _ g s0_0 t456 t457 from zr3 HI0) (zo HO_3) (by decide)) hk (fun _ h => h.2)) (fun _ h => h.1)); replace HO_4 := jA (Kd.R_mono (Kd.R_keep (IsS92.apart (show IsS92 w0 _ g s0_0 t456 t457 from zr3 HI0) (zo HO_4) (by decide)) hk (fun _ h => h.2)) (fun _ h => h.1)); replace HK := jA (KeepBut.trans (zh0 HK) hk (.inl rfl)); replace HB := jA (hb); replace HI0 := jA (hi); (try clear hb); (try clear hb2); (try clear hk); (try clear hi)) | ((with_reducible refine gate_builtin (b := .append) (xs := #[.tmp 18, .tmp 25]) rfl ?_); at_builtin; refine Kd.R_append k65 w.heap.size rfl (.tmp 18) (.tmp 25) 31 65 (.agg #[(.string ⟨#[]⟩), (.int .i64 0), (.int .i64 0), (.int .i64 0), (.int .i64 0), (.int .i64 0), (.int .i64 0), (.int .i64 0), (.int .i64 0)]) 80 rfl Try.underlying31 info65 rfl (by decide) (by omega) u3 x3_1 (⟨t459, t460, t461, t462, t463, t464, t465, t466, t467⟩ : S65) [.string t459, .int .i64 t460, .int .i64 t461, .int .i64 t462, .int .i64 t463, .int .i64 t464, .int .i64 t465, .int .i64 t466, .int .i64 t467] (fun _ => True) (fun _ => False) rfl rfl ?aP (fun _ hk => hk.elim) ?aF ?aO (Below.refl _ _) ?aS ?aL ?_; (case aP => exact k65_mkM _ _ _ (⟨t459, t460, t461, t462, t463, t464, t465, t466, t467⟩ : S65)); (case aF => exact (fun _ _ => trivial)); (case aO => exact (zo HO_3)); (case aS => exact (keep_size (w := w) (g := g) (row := none) (zh0 HK))); (case aL => have := LMc11.out; omega); intro v471 w15 ho hb hg hat; rw [← Ny470.out] at ho; replace HO_4 := jA (Kd.R_over' (zo HO_4) (Kd.R_typed (zo HO_3)) (by decide) hg); replace HB := jA (below_weaken (zr4 HB HI0) HL.out hb); replace HI0 := jA (IsS92.grown (zr3 HI0) hg (IsS92.own_ne HI0.out HO_3.out (by decide))); replace HK := jA (KeepBut.trans (zh0 HK) (KeepBut.of_grown hg g) (Kd.R_base2 HO_3.out)); have HO472 := jA (ho); clear HO_3; clear ho hb hg hat))
       go_roundg k1
       case measure => have := HK1.out; omega
       case rel => exact ⟨(y470), (wrap64 (x5_1 + 1)), (t468), (t469), zz, H', ⟨by have := HK1.out; omega⟩, ⟨zo HO472⟩, ⟨zo HO_4⟩, ⟨zr3 HI0⟩, ⟨zh0 HK⟩, ⟨zr4 HB HI0⟩⟩
      ·rw [if_neg c11] at H
       exact absurd H (by simp)
     ·rw [if_neg c9] at H
      exact absurd H (by simp)
    ·rw [if_neg c8] at H
     have c8b0 : decide (0 < t455) = false := jV c8
     clear c8
     have H' := jA H
     clear H
     obtain ⟨Ao16, co16, eo16⟩ := Kd.R_slice HO_4.out
     subst eo16
     go_wp2_with (first | ((with_reducible refine jG (f := 79) rfl ?_); refine zL (some 16) Try.func79 #[.pointer (some ⟨g, 0, none⟩), .int .i64 3] ?_; (with_reducible refine (spec_l01Next.calls g s0_0 x1001_1 x1002_1 3 t455 t456 t457 w0 _ ?side1 ?side2 A7.out).mono ?_); (case side1 => exact zr3 HI0); (case side2 => exact zr4 HB HI0); rintro e w17 ⟨rfl, hi, hb, hk⟩; refine ⟨_, rfl, ?_⟩; replace HO_3 := jA (Kd.R_mono (Kd.R_keep (IsS92.apart (show IsS92 w0 _ g s0_0 x1001_1 x1002_1 from zr3 HI0) (zo HO_3) (by decide)) hk (fun _ h => h.2)) (fun _ h => h.1)); replace HO_4 := jA (Kd.R_mono (Kd.R_keep (IsS92.apart (show IsS92 w0 _ g s0_0 x1001_1 x1002_1 from zr3 HI0) (zo HO_4) (by decide)) hk (fun _ h => h.2)) (fun _ h => h.1)); replace HK := jA (KeepBut.trans (zh0 HK) hk (.inl rfl)); replace HB := jA (hb); replace HI0 := jA (hi); (try clear hb); (try clear hb2); (try clear hk); (try clear hi)))
     go_roundg k1
     case measure => have := HK1.out; omega
     case rel => exact ⟨(x3_1), (wrap64 (x5_1 + 1)), (t456), (t457), zz, H', ⟨by have := HK1.out; omega⟩, ⟨zo HO_3⟩, ⟨zo HO_4⟩, ⟨zr3 HI0⟩, ⟨zh0 HK⟩, ⟨zr4 HB HI0⟩⟩
   ·rw [if_neg c6] at H
    have c6b0 : decide (x5_1 < (t452.length : Int)) = false := jV c6
    clear c6
    replace H := jB.mp H
    obtain ⟨⟨t473, t474, t475⟩, A180, H⟩ := H
    try dsimp only at H
    have A18 := jA A180
    clear A180
    by_cases c19 : t473 = 0
    ·rw [if_pos c19] at H
     have c19b0 : (t473 == 0) = true := beq_iff_eq.mpr c19
     have c19b1 : (t473 != 0) = false := bne_eq_false_iff_eq.mpr c19
     clear c19
     replace H := jB.mp H
     obtain ⟨⟨t476, t477, t478, t479, t480, t481, t482, t483, t484, t485, t486⟩, A200, H⟩ := H
     try dsimp only at H
     have A20 := jA A200
     clear A200
     by_cases c21 : x3_1.length < 1759218604441
     ·rw [if_pos c21] at H
      have LMc21 := jA c21
      clear c21
      obtain ⟨y487, hy487⟩ : ∃ y_ : List (S65), y_ = (x3_1 ++ [(⟨t476, t477, t478, t479, t480, t481, t482, t483, t484⟩ : S65)]) := ⟨_, rfl⟩
      replace H : (some (y487, t485, t486)) = some (r1, r2, r3) := by first | (rw [hy487]; with_reducible exact H) | (have H2_ := (Option.bind_some _ _).symm.trans H; rw [hy487]; with_reducible exact H2_) | (have H2_ := (Option.bind_some _ _).symm.trans H; with_reducible exact H2_) | with_reducible exact H | (rw [hy487]; exact H) | exact H
      have Ny487 := jA hy487
      clear hy487
      simp only [jM, jS] at H
      obtain ⟨rfl, rfl, rfl⟩ := H
      obtain ⟨Ao22, co22, eo22⟩ := Kd.R_slice HO_4.out
      subst eo22
      go_wp2_with (first | ((with_reducible refine jG (f := 79) rfl ?_); refine zL (some 28) Try.func79 #[.pointer (some ⟨g, 0, none⟩), .int .i64 30] ?_; (with_reducible refine (spec_l01Next.calls g s0_0 x1001_1 x1002_1 30 t473 t474 t475 w0 _ ?side1 ?side2 A18.out).mono ?_); (case side1 => exact zr3 HI0); (case side2 => exact zr4 HB HI0); rintro e w23 ⟨rfl, hi, hb, hk⟩; refine ⟨_, rfl, ?_⟩; replace HO_3 := jA (Kd.R_mono (Kd.R_keep (IsS92.apart (show IsS92 w0 _ g s0_0 x1001_1 x1002_1 from zr3 HI0) (zo HO_3) (by decide)) hk (fun _ h => h.2)) (fun _ h => h.1)); replace HO_4 := jA (Kd.R_mono (Kd.R_keep (IsS92.apart (show IsS92 w0 _ g s0_0 x1001_1 x1002_1 from zr3 HI0) (zo HO_4) (by decide)) hk (fun _ h => h.2)) (fun _ h => h.1)); replace HK := jA (KeepBut.trans (zh0 HK) hk (.inl rfl)); replace HB := jA (hb); replace HI0 := jA (hi); (try clear hb); (try clear hb2); (try clear hk); (try clear hi)) | ((with_reducible refine jG (f := 93) rfl ?_); refine zL (some 33) Try.func93 #[.pointer (some ⟨g, 0, none⟩), .string (⟨#[97, 115, 116, 101, 114]⟩ : ByteArray)] ?_; (with_reducible refine (spec_l03Good.calls g s0_0 t474 t475 (⟨#[97, 115, 116, 101, 114]⟩ : ByteArray) t476 t477 t478 t479 t480 t481 t482 t483 t484 t485 t486 w0 _ ?side1 ?side2 A20.out).mono ?_); (case side1 => exact zr3 HI0); (case side2 => exact zr4 HB HI0); rintro e w24 ⟨rfl, hi, hb, hk⟩; refine ⟨_, rfl, ?_⟩; replace HO_3 := jA (Kd.R_mono (Kd.R_keep (IsS92.apart (show IsS92 w0 _ g s0_0 t474 t475 from zr3 HI0) (zo HO_3) (by decide)) hk (fun _ h => h.2)) (fun _ h => h.1)); replace HO_4 := jA (Kd.R_mono (Kd.R_keep (IsS92.apart (show IsS92 w0 _ g s0_0 t474 t475 from zr3 HI0) (zo HO_4) (by decide)) hk (fun _ h => h.2)) (fun _ h => h.1)); replace HK := jA (KeepBut.trans (zh0 HK) hk (.inl rfl)); replace HB := jA (hb); replace HI0 := jA (hi); (try clear hb); (try clear hb2); (try clear hk); (try clear hi)) | ((with_reducible refine gate_builtin (b := .append) (xs := #[.tmp 31, .tmp 34]) rfl ?_); at_builtin; refine Kd.R_append k65 w.heap.size rfl (.tmp 31) (.tmp 34) 31 65 (.agg #[(.string ⟨#[]⟩), (.int .i64 0), (.int .i64 0), (.int .i64 0), (.int .i64 0), (.int .i64 0), (.int .i64 0), (.int .i64 0), (.int .i64 0)]) 80 rfl Try.underlying31 info65 rfl (by decide) (by omega) u3 x3_1 (⟨t476, t477, t478, t479, t480, t481, t482, t483, t484⟩ : S65) [.string t476, .int .i64 t477, .int .i64 t478, .int .i64 t479, .int .i64 t480, .int .i64 t481, .int .i64 t482, .int .i64 t483, .int .i64 t484] (fun _ => True) (fun _ => False) rfl rfl ?aP (fun _ hk => hk.elim) ?aF ?aO (Below.refl _ _) ?aS ?aL ?_; (case aP => exact k65_mkM _ _ _ (⟨t476, t477, t478, t479, t480, t481, t482, t483, t484⟩ : S65)); (case aF => exact (fun _ _ => trivial)); (case aO => exact (zo HO_3)); (case aS => exact (keep_size (w := w) (g := g) (row := none) (zh0 HK))); (case aL => have := LMc21.out; omega); intro v488 w25 ho hb hg hat; rw [← Ny487.out] at ho; replace HO_4 := jA (Kd.R_over' (zo HO_4) (Kd.R_typed (zo HO_3)) (by decide) hg); replace HB := jA (below_weaken (zr4 HB HI0) HL.out hb); replace HI0 := jA (IsS92.grown (zr3 HI0) hg (IsS92.own_ne HI0.out HO_3.out (by decide))); replace HK := jA (KeepBut.trans (zh0 HK) (KeepBut.of_grown hg g) (Kd.R_base2 HO_3.out)); have HO489 := jA (ho); clear HO_3; clear ho hb hg hat))
      go_ret
      exact ⟨_, ze, zo HO489, zr3 HI0, zr4 HB HI0, zh0 HK⟩
     ·rw [if_neg c21] at H
      exact absurd H (by simp)
    ·rw [if_neg c19] at H
     have c19b0 : (t473 == 0) = false := beq_eq_false_iff_ne.mpr c19
     have c19b1 : (t473 != 0) = true := bne_iff_ne.mpr c19
     by_cases c26 : t473 = 1
     ·rw [if_pos c26] at H
      have c26b0 : (t473 == 1) = true := beq_iff_eq.mpr c26
      have c26b1 : (t473 != 1) = false := bne_eq_false_iff_eq.mpr c26
      clear c26
      have H' := jA H
      clear H
      obtain ⟨Ao27, co27, eo27⟩ := Kd.R_slice HO_4.out
      subst eo27
      go_wp2_with (first | ((with_reducible refine jG (f := 79) rfl ?_); refine zL (some 28) Try.func79 #[.pointer (some ⟨g, 0, none⟩), .int .i64 30] ?_; (with_reducible refine (spec_l01Next.calls g s0_0 x1001_1 x1002_1 30 t473 t474 t475 w0 _ ?side1 ?side2 A18.out).mono ?_); (case side1 => exact zr3 HI0); (case side2 => exact zr4 HB HI0); rintro e w28 ⟨rfl, hi, hb, hk⟩; refine ⟨_, rfl, ?_⟩; replace HO_3 := jA (Kd.R_mono (Kd.R_keep (IsS92.apart (show IsS92 w0 _ g s0_0 x1001_1 x1002_1 from zr3 HI0) (zo HO_3) (by decide)) hk (fun _ h => h.2)) (fun _ h => h.1)); replace HO_4 := jA (Kd.R_mono (Kd.R_keep (IsS92.apart (show IsS92 w0 _ g s0_0 x1001_1 x1002_1 from zr3 HI0) (zo HO_4) (by decide)) hk (fun _ h => h.2)) (fun _ h => h.1)); replace HK := jA (KeepBut.trans (zh0 HK) hk (.inl rfl)); replace HB := jA (hb); replace HI0 := jA (hi); (try clear hb); (try clear hb2); (try clear hk); (try clear hi)))
      go_loopg [3, 6] k1 (fun kq v3 v6 w' => ∃ (x3_2 : List (S65)) (x6_2 : Int) (x1001_2 : Int) (x1002_2 : Int), v6 = .int .i64 x6_2 ∧ Aside0 (spec_l03List.l1 kq x3_2 x6_2 s0_0 x1001_2 x1002_2 = some (r1, r2, r3)) ∧ Aside0 (kq ≤ k1) ∧ Aside0 (Kd.R k65 65 w' w.heap.size (fun _ => True) v3 x3_2) ∧ Aside0 (IsS92 w0 w' g s0_0 x1001_2 x1002_2) ∧ Aside0 (KeepBut w w' g none) ∧ Aside0 (Below w0.heap.size w0 w'))
      case atStart => exact ⟨(x3_1), (0), (t474), (t475), zz, H', ⟨Nat.le_refl _⟩, ⟨zo HO_3⟩, ⟨zr3 HI0⟩, ⟨zh0 HK⟩, ⟨zr4 HB HI0⟩⟩
      case round =>
       clear H'
       try clear c1
       try clear c2
       try clear p2
       try clear p4
       try clear q4
       try clear hx4
       try clear c6
       try clear c6b0
       try clear p6
       try clear c7
       try clear c8
       try clear c8b0
       try clear c9
       try clear c9b0
       try clear c11
       try clear c19
       try clear c19b0
       try clear c19b1
       try clear c21
       try clear c26
       try clear c26b0
       try clear c26b1
       try clear hx458_0
       try clear p2
       try clear p458
       try clear q458
       obtain ⟨x3_2, x6_2, x1001_2, x1002_2, rfl, HA, HK2, HO_3, HI0, HK, HB⟩ := hrel
       cases gk with
       | zero => exact absurd HA.out (by simp [spec_l03List.l1])
       | succ k2 =>
        have H := HA.out
        clear HA
        simp only [spec_l03List.l1] at H
        replace H := jB.mp H
        obtain ⟨⟨t490, t491, t492⟩, A290, H⟩ := H
        replace H : (if (x3_2.length : Int) < (wrap64 (12 + t490)) then (if x6_2 < 14 then (if 0 ≤ x6_2 then (if x6_2 ≤ (wrap64 (x6_2 + 1)) then (if (wrap64 (x6_2 + 1)) ≤ 14 then (if 1 + ((⟨#[97, 98, 99, 100, 101, 102, 103, 104, 105, 106, 107, 108, 109, 110]⟩ : ByteArray).extract (x6_2 : Int).toNat ((wrap64 (x6_2 + 1)) : Int).toNat).size ≤ 9223372036854775807 then ((spec_l03Good.f s0_0 t491 t492 ((⟨#[120]⟩ : ByteArray) ++ ((⟨#[97, 98, 99, 100, 101, 102, 103, 104, 105, 106, 107, 108, 109, 110]⟩ : ByteArray).extract (x6_2 : Int).toNat ((wrap64 (x6_2 + 1)) : Int).toNat))).bind fun bt493 => (if x3_2.length < 1759218604441 then (spec_l03List.l1 k2 (x3_2 ++ [(⟨bt493.1, bt493.2.1, bt493.2.2.1, bt493.2.2.2.1, bt493.2.2.2.2.1, bt493.2.2.2.2.2.1, bt493.2.2.2.2.2.2.1, bt493.2.2.2.2.2.2.2.1, bt493.2.2.2.2.2.2.2.2.1⟩ : S65)]) (wrap64 (x6_2 + 1)) s0_0 bt493.2.2.2.2.2.2.2.2.2.1 bt493.2.2.2.2.2.2.2.2.2.2) else (none))) else (none)) else (none)) else (none)) else (none)) else (some (x3_2, t491, t492))) else (some (x3_2, t491, t492))) = some (r1, r2, r3) := H
        have A29 := jA A290
        clear A290
        by_cases c30 : (x3_2.length : Int) < (wrap64 (12 + t490))
        ·rw [if_pos c30] at H
         have c30b0 : decide ((x3_2.length : Int) < (wrap64 (12 + t490))) = true := jK c30
         clear c30
         by_cases c31 : x6_2 < 14
         ·rw [if_pos c31] at H
          have c31b0 : decide (x6_2 < 14) = true := jK c31
          clear c31
          by_cases c32 : 0 ≤ x6_2
          ·rw [if_pos c32] at H
           have c32b0 := eq_true c32
           have c32b1 : decide (0 ≤ x6_2) = true := jK c32
           clear c32
           by_cases c33 : x6_2 ≤ (wrap64 (x6_2 + 1))
           ·rw [if_pos c33] at H
            have c33b0 := eq_true c33
            have c33b1 : decide (x6_2 ≤ (wrap64 (x6_2 + 1))) = true := jK c33
            by_cases c34 : (wrap64 (x6_2 + 1)) ≤ 14
            ·rw [if_pos c34] at H
             have c34b0 := eq_true c34
             have c34b1 : decide ((wrap64 (x6_2 + 1)) ≤ 14) = true := jK c34
             by_cases c35 : 1 + ((⟨#[97, 98, 99, 100, 101, 102, 103, 104, 105, 106, 107, 108, 109, 110]⟩ : ByteArray).extract (x6_2 : Int).toNat ((wrap64 (x6_2 + 1)) : Int).toNat).size ≤ 9223372036854775807
             ·rw [if_pos c35] at H
              have c35b0 := eq_true c35
              have c35b1 : decide (1 + ((⟨#[97, 98, 99, 100, 101, 102, 103, 104, 105, 106, 107, 108, 109, 110]⟩ : ByteArray).extract (x6_2 : Int).toNat ((wrap64 (x6_2 + 1)) : Int).toNat).size ≤ 9223372036854775807) = true := jK c35
              try have c35b2 : (9223372036854775807 < 1 + ((⟨#[97, 98, 99, 100, 101, 102, 103, 104, 105, 106, 107, 108, 109, 110]⟩ : ByteArray).extract (x6_2 : Int).toNat ((wrap64 (x6_2 + 1)) : Int).toNat).size) = False := eq_false (Nat.not_lt.2 c35)
              replace H := jB.mp H
              obtain ⟨⟨t493, t494, t495, t496, t497, t498, t499, t500, t501, t502, t503⟩, A360, H⟩ := H
              replace H : (if x3_2.length < 1759218604441 then (spec_l03List.l1 k2 (x3_2 ++ [(⟨t493, t494, t495, t496, t497, t498, t499, t500, t501⟩ : S65)]) (wrap64 (x6_2 + 1)) s0_0 t502 t503) else (none)) = some (r1, r2, r3) := H
              have A36 := jA A360
              clear A360
              by_cases c37 : x3_2.length < 1759218604441
              ·rw [if_pos c37] at H
               have LMc37 := jA c37
               clear c37
               obtain ⟨y504, hy504⟩ : ∃ y_ : List (S65), y_ = (x3_2 ++ [(⟨t493, t494, t495, t496, t497, t498, t499, t500, t501⟩ : S65)]) := ⟨_, rfl⟩
               replace H : (spec_l03List.l1 k2 y504 (wrap64 (x6_2 + 1)) s0_0 t502 t503) = some (r1, r2, r3) := by first | (rw [hy504]; with_reducible exact H) | (have H2_ := (Option.bind_some _ _).symm.trans H; rw [hy504]; with_reducible exact H2_) | (have H2_ := (Option.bind_some _ _).symm.trans H; with_reducible exact H2_) | with_reducible exact H | (rw [hy504]; exact H) | exact H
               have Ny504 := jA hy504
               clear hy504
               have H' := jA H
               clear H
               obtain ⟨Ao38, co38, eo38⟩ := Kd.R_slice HO_3.out
               subst eo38
               go_wp2_with (first | ((with_reducible refine jG (f := 79) rfl ?_); refine zL (some 41) Try.func79 #[.pointer (some ⟨g, 0, none⟩), .int .i64 2] ?_; (with_reducible refine (spec_l01Next.calls g s0_0 x1001_2 x1002_2 2 t490 t491 t492 w0 _ ?side1 ?side2 A29.out).mono ?_); (case side1 => exact zr3 HI0); (case side2 => exact zr4 HB HI0); rintro e w39 ⟨rfl, hi, hb, hk⟩; refine ⟨_, rfl, ?_⟩; replace HO_3 := jA (Kd.R_mono (Kd.R_keep (IsS92.apart (show IsS92 w0 _ g s0_0 x1001_2 x1002_2 from zr3 HI0) (zo HO_3) (by decide)) hk (fun _ h => h.2)) (fun _ h => h.1)); replace HK := jA (KeepBut.trans (zh0 HK) hk (.inl rfl)); replace HB := jA (hb); replace HI0 := jA (hi); (try clear hb); (try clear hb2); (try clear hk); (try clear hi)) | ((with_reducible refine jG (f := 93) rfl ?_); refine zL (some 57) Try.func93 #[.pointer (some ⟨g, 0, none⟩), .string ((⟨#[120]⟩ : ByteArray) ++ ((⟨#[97, 98, 99, 100, 101, 102, 103, 104, 105, 106, 107, 108, 109, 110]⟩ : ByteArray).extract (x6_2 : Int).toNat ((wrap64 (x6_2 + 1)) : Int).toNat))] ?_; (with_reducible refine (spec_l03Good.calls g s0_0 t491 t492 ((⟨#[120]⟩ : ByteArray) ++ ((⟨#[97, 98, 99, 100, 101, 102, 103, 104, 105, 106, 107, 108, 109, 110]⟩ : ByteArray).extract (x6_2 : Int).toNat ((wrap64 (x6_2 + 1)) : Int).toNat)) t493 t494 t495 t496 t497 t498 t499 t500 t501 t502 t503 w0 _ ?side1 ?side2 A36.out).mono ?_); (case side1 => exact zr3 HI0); (case side2 => exact zr4 HB HI0); rintro e w40 ⟨rfl, hi, hb, hk⟩; refine ⟨_, rfl, ?_⟩; replace HO_3 := jA (Kd.R_mono (Kd.R_keep (IsS92.apart (show IsS92 w0 _ g s0_0 t491 t492 from zr3 HI0) (zo HO_3) (by decide)) hk (fun _ h => h.2)) (fun _ h => h.1)); replace HK := jA (KeepBut.trans (zh0 HK) hk (.inl rfl)); replace HB := jA (hb); replace HI0 := jA (hi); (try clear hb); (try clear hb2); (try clear hk); (try clear hi)) | ((with_reducible refine gate_builtin (b := .append) (xs := #[.tmp 50, .tmp 58]) rfl ?_); at_builtin; refine Kd.R_append k65 w.heap.size rfl (.tmp 50) (.tmp 58) 31 65 (.agg #[(.string ⟨#[]⟩), (.int .i64 0), (.int .i64 0), (.int .i64 0), (.int .i64 0), (.int .i64 0), (.int .i64 0), (.int .i64 0), (.int .i64 0)]) 80 rfl Try.underlying31 info65 rfl (by decide) (by omega) (.slice Ao38 x3_2.length co38) x3_2 (⟨t493, t494, t495, t496, t497, t498, t499, t500, t501⟩ : S65) [.string t493, .int .i64 t494, .int .i64 t495, .int .i64 t496, .int .i64 t497, .int .i64 t498, .int .i64 t499, .int .i64 t500, .int .i64 t501] (fun _ => True) (fun _ => False) rfl rfl ?aP (fun _ hk => hk.elim) ?aF ?aO (Below.refl _ _) ?aS ?aL ?_; (case aP => exact k65_mkM _ _ _ (⟨t493, t494, t495, t496, t497, t498, t499, t500, t501⟩ : S65)); (case aF => exact (fun _ _ => trivial)); (case aO => exact (zo HO_3)); (case aS => exact (keep_size (w := w) (g := g) (row := none) (zh0 HK))); (case aL => have := LMc37.out; omega); intro v505 w41 ho hb hg hat; rw [← Ny504.out] at ho; replace HB := jA (below_weaken (zr4 HB HI0) HL.out hb); replace HI0 := jA (IsS92.grown (zr3 HI0) hg (IsS92.own_ne HI0.out HO_3.out (by decide))); replace HK := jA (KeepBut.trans (zh0 HK) (KeepBut.of_grown hg g) (Kd.R_base2 HO_3.out)); have HO506 := jA (ho); clear HO_3; clear ho hb hg hat))
               go_roundg k2
               case measure => have := HK1.out; have := HK2.out; omega
               case rel => exact ⟨(y504), (wrap64 (x6_2 + 1)), (t502), (t503), zz, H', ⟨by have := HK1.out; have := HK2.out; omega⟩, ⟨zo HO506⟩, ⟨zr3 HI0⟩, ⟨zh0 HK⟩, ⟨zr4 HB HI0⟩⟩
              ·rw [if_neg c37] at H
               exact absurd H (by simp)
             ·rw [if_neg c35] at H
              exact absurd H (by simp)
            ·rw [if_neg c34] at H
             exact absurd H (by simp)
           ·rw [if_neg c33] at H
            exact absurd H (by simp)
          ·rw [if_neg c32] at H
           exact absurd H (by simp)
         ·rw [if_neg c31] at H
          have c31b0 : decide (x6_2 < 14) = false := jV c31
          clear c31
          simp only [jM, jS] at H
          obtain ⟨rfl, rfl, rfl⟩ := H
          obtain ⟨Ao42, co42, eo42⟩ := Kd.R_slice HO_3.out
          subst eo42
          go_wp2_with (first | ((with_reducible refine jG (f := 79) rfl ?_); refine zL (some 41) Try.func79 #[.pointer (some ⟨g, 0, none⟩), .int .i64 2] ?_; (with_reducible refine (spec_l01Next.calls g s0_0 x1001_2 x1002_2 2 t490 t491 t492 w0 _ ?side1 ?side2 A29.out).mono ?_); (case side1 => exact zr3 HI0); (case side2 => exact zr4 HB HI0); rintro e w43 ⟨rfl, hi, hb, hk⟩; refine ⟨_, rfl, ?_⟩; replace HO_3 := jA (Kd.R_mono (Kd.R_keep (IsS92.apart (show IsS92 w0 _ g s0_0 x1001_2 x1002_2 from zr3 HI0) (zo HO_3) (by decide)) hk (fun _ h => h.2)) (fun _ h => h.1)); replace HK := jA (KeepBut.trans (zh0 HK) hk (.inl rfl)); replace HB := jA (hb); replace HI0 := jA (hi); (try clear hb); (try clear hb2); (try clear hk); (try clear hi)))
          go_ret
          exact ⟨_, ze, zo HO_3, zr3 HI0, zr4 HB HI0, zh0 HK⟩
        ·rw [if_neg c30] at H
         have c30b0 : decide ((x3_2.length : Int) < (wrap64 (12 + t490))) = false := jV c30
         clear c30
         simp only [jM, jS] at H
         obtain ⟨rfl, rfl, rfl⟩ := H
         obtain ⟨Ao44, co44, eo44⟩ := Kd.R_slice HO_3.out
         subst eo44
         go_wp2_with (first | ((with_reducible refine jG (f := 79) rfl ?_); refine zL (some 41) Try.func79 #[.pointer (some ⟨g, 0, none⟩), .int .i64 2] ?_; (with_reducible refine (spec_l01Next.calls g s0_0 x1001_2 x1002_2 2 t490 t491 t492 w0 _ ?side1 ?side2 A29.out).mono ?_); (case side1 => exact zr3 HI0); (case side2 => exact zr4 HB HI0); rintro e w45 ⟨rfl, hi, hb, hk⟩; refine ⟨_, rfl, ?_⟩; replace HO_3 := jA (Kd.R_mono (Kd.R_keep (IsS92.apart (show IsS92 w0 _ g s0_0 x1001_2 x1002_2 from zr3 HI0) (zo HO_3) (by decide)) hk (fun _ h => h.2)) (fun _ h => h.1)); replace HK := jA (KeepBut.trans (zh0 HK) hk (.inl rfl)); replace HB := jA (hb); replace HI0 := jA (hi); (try clear hb); (try clear hb2); (try clear hk); (try clear hi)))
         go_ret
         exact ⟨_, ze, zo HO_3, zr3 HI0, zr4 HB HI0, zh0 HK⟩
     ·rw [if_neg c26] at H
      have c26b0 : (t473 == 1) = false := beq_eq_false_iff_ne.mpr c26
      have c26b1 : (t473 != 1) = true := bne_iff_ne.mpr c26
      simp only [jM, jS] at H
      obtain ⟨rfl, rfl, rfl⟩ := H
      obtain ⟨Ao46, co46, eo46⟩ := Kd.R_slice HO_4.out
      subst eo46
      go_wp2_with (first | ((with_reducible refine jG (f := 79) rfl ?_); refine zL (some 28) Try.func79 #[.pointer (some ⟨g, 0, none⟩), .int .i64 30] ?_; (with_reducible refine (spec_l01Next.calls g s0_0 x1001_1 x1002_1 30 t473 t474 t475 w0 _ ?side1 ?side2 A18.out).mono ?_); (case side1 => exact zr3 HI0); (case side2 => exact zr4 HB HI0); rintro e w47 ⟨rfl, hi, hb, hk⟩; refine ⟨_, rfl, ?_⟩; replace HO_3 := jA (Kd.R_mono (Kd.R_keep (IsS92.apart (show IsS92 w0 _ g s0_0 x1001_1 x1002_1 from zr3 HI0) (zo HO_3) (by decide)) hk (fun _ h => h.2)) (fun _ h => h.1)); replace HO_4 := jA (Kd.R_mono (Kd.R_keep (IsS92.apart (show IsS92 w0 _ g s0_0 x1001_1 x1002_1 from zr3 HI0) (zo HO_4) (by decide)) hk (fun _ h => h.2)) (fun _ h => h.1)); replace HK := jA (KeepBut.trans (zh0 HK) hk (.inl rfl)); replace HB := jA (hb); replace HI0 := jA (hi); (try clear hb); (try clear hb2); (try clear hk); (try clear hi)))
      go_ret
      exact ⟨_, ze, zo HO_3, zr3 HI0, zr4 HB HI0, zh0 HK⟩

/-! ### spec_l26Draw: function 76 -/
def spec_l26Draw.f (k : Nat) (s0_0 : List Int) (s0_1 : Int) (s0_2 : Int) : Option ((List (S65)) × Int × List Int × Int × Int) := (spec_l03List.f k s0_0 s0_1 s0_2).bind fun bt508 => ((spec_l26For.f k s0_0 bt508.2.1 bt508.2.2 bt508.1).bind fun bt513 => (some (bt508.1, bt513.1, bt513.2.1, bt513.2.2.1, bt513.2.2.2)))
theorem spec_l26Draw.mono : ∀ a0 a1 a2 k, LeO (spec_l26Draw.f k a0 a1 a2) (spec_l26Draw.f (k + 1) a0 a1 a2) := by
 intro a0 a1 a2 k
 unfold spec_l26Draw.f
 repeat' first
   | (with_reducible exact spec_l03List.mono _ _ _ _)
   | (with_reducible exact spec_l26For.mono _ _ _ _ _)
   | (with_reducible exact LeO.refl _)
   | (with_reducible exact LeO.none _)
   | (with_reducible refine LeO.ite ?_ ?_)
   | (with_reducible refine LeO.bind ?_ (fun _ => ?_))
   | exact spec_l03List.mono _ _ _ _
   | exact spec_l26For.mono _ _ _ _ _
   | exact LeO.none _
   | refine LeO.ite ?_ ?_
   | refine LeO.bind ?_ (fun _ => ?_)
set_option maxHeartbeats 8000000 in
set_option maxRecDepth 100000 in
theorem spec_l26Draw.calls (k : Nat) (g : Nat) (s0_0 : List Int) (s0_1 : Int) (s0_2 : Int) (r1 : List (S65)) (r2 : Int) (r3 : List Int) (r4 : Int) (r5 : Int) (w0 w : World) (hI : IsS92 w0 w g s0_0 s0_1 s0_2) (hB : Below w0.heap.size w0 w) (h : spec_l26Draw.f k s0_0 s0_1 s0_2 = some (r1, r2, r3, r4, r5)) :
  Calls Try.prog 76 #[.pointer (some ⟨g, 0, none⟩)] w fun e w' => ∃ v0_ v2_ : Value, e = .returned (.tuple #[v0_, .agg #[.int .i64 r2, v2_]]) ∧ Kd.R k65 65 w' w.heap.size (fun _ => True) v0_ r1 ∧ Kd.R (Kd.int .i64) 2 w' w.heap.size (fun _ => True) v2_ r3 ∧ IsS92 w0 w' g s0_0 r4 r5 ∧ Below w0.heap.size w0 w' ∧ KeepBut w w' g none := by
 have hu28 := Try.underlying28
 have HI0 := jA hI
 have HK := jA (KeepBut.refl w g none)
 have HL := jA hB.size
 clear hI
 have HW0 := jA hB.size
 have HB := jA hB
 clear hB
 have H := h
 unfold spec_l26Draw.f at H
 clear h
 replace H := jB.mp H
 obtain ⟨⟨t508, t511, t512⟩, A20, H⟩ := H
 try dsimp only at H
 have A2 := jA A20
 clear A20
 replace H := jB.mp H
 obtain ⟨⟨t513, t514, t517, t518⟩, A30, H⟩ := H
 try dsimp only at H
 have A3 := jA A30
 clear A30
 simp only [jM, jS] at H
 obtain ⟨rfl, rfl, rfl, rfl, rfl⟩ := H
 go_enter Try.func76, Try.ntmps76
 go_wp2_with (first | ((with_reducible refine jJ (N := 3) rfl ?_); refine zE 3 #[.int .i64 0, .slice none 0 0] 28 ?_; intro gb507 hg w4 hbox hb; replace HB := jA (jY (zr4 HB HI0) hb); have BK507 := jA (hbox); have GW507 := jA ((by rw [hg]; exact (keep_size (w := w) (g := g) (row := none) (zh0 HK)) : w.heap.size ≤ gb507)); have GE507 := jA ((Nat.le_trans HW0.out (by rw [hg]; exact (keep_size (w := w) (g := g) (row := none) (zh0 HK)) : w.heap.size ≤ gb507) : w0.heap.size ≤ gb507)); replace HK := jA (KeepBut.trans (zh0 HK) (KeepBut.of_below hb g none) (.inl rfl)); have NB0_507 := jA ((by rw [hg]; exact Nat.ne_of_lt (IsS92.lt (show IsS92 w0 _ g s0_0 s0_1 s0_2 from zr3 HI0)) : g ≠ gb507)); have NB507_0 := jA ((by rw [hg]; exact Nat.ne_of_gt (IsS92.lt (show IsS92 w0 _ g s0_0 s0_1 s0_2 from zr3 HI0)) : gb507 ≠ g)); replace HI0 := jA (IsS92.below (zr3 HI0) hb); clear hb hbox hg) | ((with_reducible refine jG (f := 88) rfl ?_); refine zL (some 6) Try.func88 #[.pointer (some ⟨g, 0, none⟩)] ?_; (with_reducible refine (spec_l03List.calls k g s0_0 s0_1 s0_2 t508 t511 t512 w0 _ ?side1 ?side2 A2.out).mono ?_); (case side1 => exact zr5 HI0 NB0_507); (case side2 => exact zr6 HB HI0 GE507); rintro e w5 ⟨v509, rfl, ho0, hi, hb, hk⟩; refine ⟨_, rfl, ?_⟩; replace BK507 := zK hk BK507 NB507_0; have HO510 := jA (jU ho0 (keep_size (w := w) (g := g) (row := none) (zh1 HK GW507))); replace HK := jA (KeepBut.trans (zh1 HK GW507) hk (.inl rfl)); replace HB := jA (hb); replace HI0 := jA (hi); (try clear hb); (try clear hb2); (try clear hk); (try clear hi); (try clear ho0); obtain ⟨Ao6, co6, eo6⟩ := Kd.R_slice HO510.out; subst eo6) | ((with_reducible refine jG (f := 81) rfl ?_); refine zL (some 10) Try.func81 #[.pointer (some ⟨g, 0, none⟩), .slice Ao6 t508.length co6] ?_; (with_reducible refine (spec_l26For.calls k g s0_0 t511 t512 _ _ t508 t513 t514 t517 t518 w0 _ ?side1 ?side2 ?side3 ?side4 A3.out).mono ?_); (case side1 => exact zr5 HI0 NB0_507); (case side2 => exact zr6 HB HI0 GE507); (case side3 => exact Kd.C_foot_own (IsS92.apart (show IsS92 w0 _ g s0_0 t511 t512 from zr5 HI0 NB0_507) (zo HO510) (by decide)) (fun _ h_ => h_.2)); (case side4 => exact (jO HO510.out).2.1); rintro e w7 ⟨v515, rfl, ho0, hi, hb, hk⟩; refine ⟨_, rfl, ?_⟩; replace BK507 := zK hk BK507 NB507_0; replace HO510 := jA (Kd.R_mono (Kd.R_keep (IsS92.apart (show IsS92 w0 _ g s0_0 t511 t512 from zr5 HI0 NB0_507) (zo HO510) (by decide)) hk (fun _ h => h.2)) (fun _ h => h.1)); have HO516 := jA (jU ho0 (keep_size (w := w) (g := g) (row := none) (zh1 HK GW507))); replace HK := jA (KeepBut.trans (zh1 HK GW507) hk (.inl rfl)); replace HB := jA (hb); replace HI0 := jA (hi); (try clear hb); (try clear hb2); (try clear hk); (try clear hi); (try clear ho0); have hnb8 := NB507_0.out; have hnc8 := NB0_507.out; have hcz9 := zc2 BK507; obtain ⟨Ao10, co10, eo10⟩ := Kd.R_slice HO516.out; subst eo10))
 refine jX (results_tc rfl _ _ gb507 28 #[.int .i64 t513, .slice Ao10 t514.length co10] (0, 0) _ rfl (zP0 BK507) Try.underlying28 rfl zr) rfl ?_
 exact ⟨_, _, by first | rfl | (simp [errW_none, errW_some] <;> rfl) | (simp [*, errW_none, errW_some] <;> rfl), zT HO510 BK507, zT HO516 BK507, zr5 HI0 NB0_507, zr6 HB HI0 GE507, zh1 HK GW507⟩

end Go.Proofs.Ytdgglhfnlljmeaa.PFnMoved
