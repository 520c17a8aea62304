/- Functions and contracts that FnMagazines reaches (17 of 24). -/
import Derived.Test.YtdgglhfnlljmeaaQFnMagazinesx15
namespace Go.Proofs.Ytdgglhfnlljmeaa.PFnMagazines
open Go.RowKit Go.Proofs.YtdgglhfnlljmeaaW.PrintWords Go.Proofs.YtdgglhfnlljmeaaW.PrintLast Go.Proofs.YtdgglhfnlljmeaaW.PrintMore
attribute [local go_sem] max2_int min2_int max_two min_two max_three min_three max_four min_four   -- for this text's walks alone
set_option linter.unusedVariables false
set_option linter.unusedSimpArgs false

/-! ### spec_l03List: function 88 -/
mutual
def spec_l03List.l0 : Nat → List (S65) → List ByteArray → Int → List Int → Int → Int → Option ((List (S65)) × Int × Int)
 | 0, _, _, _, _, _, _ => none
 | k + 1, x3, x4, x5, x1000, x1001, x1002 => if x5 < (x4.length : Int) then ((spec_l01Next.f x1000 x1001 x1002 3).bind fun bt362 => (if bt362.1 > 0 then (if 0 ≤ x5 then ((spec_l03Draw.f x1000 bt362.2.1 bt362.2.2 (rdOf ByteArray.empty x4 x5)).bind fun bt366 => (if x3.length < 1759218604441 then (spec_l03List.l0 k (x3 ++ [(⟨bt366.1, bt366.2.1, bt366.2.2.1, bt366.2.2.2.1, bt366.2.2.2.2.1, bt366.2.2.2.2.2.1, bt366.2.2.2.2.2.2.1, bt366.2.2.2.2.2.2.2.1, bt366.2.2.2.2.2.2.2.2.1⟩ : S65)]) x4 (wrap64 (x5 + 1)) x1000 bt366.2.2.2.2.2.2.2.2.2.1 bt366.2.2.2.2.2.2.2.2.2.2) else (none))) else (none)) else (spec_l03List.l0 k x3 x4 (wrap64 (x5 + 1)) x1000 bt362.2.1 bt362.2.2))) else ((spec_l01Next.f x1000 x1001 x1002 30).bind fun bt380 => (if bt380.1 = 0 then ((spec_l03Good.f x1000 bt380.2.1 bt380.2.2 (⟨#[97, 115, 116, 101, 114]⟩ : ByteArray)).bind fun bt383 => (if x3.length < 1759218604441 then (some ((x3 ++ [(⟨bt383.1, bt383.2.1, bt383.2.2.1, bt383.2.2.2.1, bt383.2.2.2.2.1, bt383.2.2.2.2.2.1, bt383.2.2.2.2.2.2.1, bt383.2.2.2.2.2.2.2.1, bt383.2.2.2.2.2.2.2.2.1⟩ : S65)]), bt383.2.2.2.2.2.2.2.2.2.1, bt383.2.2.2.2.2.2.2.2.2.2)) else (none))) else (if bt380.1 = 1 then (spec_l03List.l1 k x3 0 x1000 bt380.2.1 bt380.2.2) else (some (x3, bt380.2.1, bt380.2.2)))))
def spec_l03List.l1 : Nat → List (S65) → Int → List Int → Int → Int → Option ((List (S65)) × Int × Int)
 | 0, _, _, _, _, _ => none
 | k + 1, x3, x6, x1000, x1001, x1002 => (spec_l01Next.f x1000 x1001 x1002 2).bind fun bt397 => (if (x3.length : Int) < (wrap64 (12 + bt397.1)) then (if x6 < 14 then (if 0 ≤ x6 then (if x6 ≤ (wrap64 (x6 + 1)) then (if (wrap64 (x6 + 1)) ≤ 14 then (if 1 + ((⟨#[97, 98, 99, 100, 101, 102, 103, 104, 105, 106, 107, 108, 109, 110]⟩ : ByteArray).extract (x6 : Int).toNat ((wrap64 (x6 + 1)) : Int).toNat).size ≤ 9223372036854775807 then ((spec_l03Good.f x1000 bt397.2.1 bt397.2.2 ((⟨#[120]⟩ : ByteArray) ++ ((⟨#[97, 98, 99, 100, 101, 102, 103, 104, 105, 106, 107, 108, 109, 110]⟩ : ByteArray).extract (x6 : Int).toNat ((wrap64 (x6 + 1)) : Int).toNat))).bind fun bt400 => (if x3.length < 1759218604441 then (spec_l03List.l1 k (x3 ++ [(⟨bt400.1, bt400.2.1, bt400.2.2.1, bt400.2.2.2.1, bt400.2.2.2.2.1, bt400.2.2.2.2.2.1, bt400.2.2.2.2.2.2.1, bt400.2.2.2.2.2.2.2.1, bt400.2.2.2.2.2.2.2.2.1⟩ : S65)]) (wrap64 (x6 + 1)) x1000 bt400.2.2.2.2.2.2.2.2.2.1 bt400.2.2.2.2.2.2.2.2.2.2) else (none))) else (none)) else (none)) else (none)) else (none)) else (some (x3, bt397.2.1, bt397.2.2))) else (some (x3, bt397.2.1, bt397.2.2)))
end
def spec_l03List.f (k : Nat) (s0_0 : List Int) (s0_1 : Int) (s0_2 : Int) : Option ((List (S65)) × Int × Int) := (spec_l03Names.f).bind fun t359 => (spec_l03List.l0 k (([] : List (S65))) t359 0 s0_0 s0_1 s0_2)
theorem spec_l03List.mono_l : ∀ k, (∀ y0 y1 y2 y3 y4 y5, LeO (spec_l03List.l0 k y0 y1 y2 y3 y4 y5) (spec_l03List.l0 (k + 1) y0 y1 y2 y3 y4 y5)) ∧ (∀ y0 y1 y2 y3 y4, LeO (spec_l03List.l1 k y0 y1 y2 y3 y4) (spec_l03List.l1 (k + 1) y0 y1 y2 y3 y4))
 | 0 => ⟨fun _ _ _ _ _ _ r h => by simp [spec_l03List.l0] at h, fun _ _ _ _ _ r h => by simp [spec_l03List.l1] at h⟩
 | k + 1 => by
  obtain ⟨ih0, ih1⟩ := spec_l03List.mono_l k
  refine ⟨?_, ?_⟩
  ·intro y0 y1 y2 y3 y4 y5
   unfold spec_l03List.l0
   repeat' first
   | (with_reducible exact ih0 _ _ _ _ _ _)
   | (with_reducible exact ih1 _ _ _ _ _)
   | (with_reducible exact LeO.refl _)
   | (with_reducible exact LeO.none _)
   | (with_reducible refine LeO.ite ?_ ?_)
   | (with_reducible refine LeO.bind ?_ (fun _ => ?_))
   | exact ih0 _ _ _ _ _ _
   | exact ih1 _ _ _ _ _
   | exact LeO.none _
   | refine LeO.ite ?_ ?_
   | refine LeO.bind ?_ (fun _ => ?_)
  ·intro y0 y1 y2 y3 y4
   unfold spec_l03List.l1
   repeat' first
   | (with_reducible exact ih0 _ _ _ _ _ _)
   | (with_reducible exact ih1 _ _ _ _ _)
   | (with_reducible exact LeO.refl _)
   | (with_reducible exact LeO.none _)
   | (with_reducible refine LeO.ite ?_ ?_)
   | (with_reducible refine LeO.bind ?_ (fun _ => ?_))
   | exact ih0 _ _ _ _ _ _
   | exact ih1 _ _ _ _ _
   | exact LeO.none _
   | refine LeO.ite ?_ ?_
   | refine LeO.bind ?_ (fun _ => ?_)
theorem spec_l03List.mono : ∀ a0 a1 a2 k, LeO (spec_l03List.f k a0 a1 a2) (spec_l03List.f (k + 1) a0 a1 a2) := by
 intro a0 a1 a2 k
 obtain ⟨ih0, ih1⟩ := spec_l03List.mono_l k
 unfold spec_l03List.f
 repeat' first
   | (with_reducible exact ih0 _ _ _ _ _ _)
   | (with_reducible exact ih1 _ _ _ _ _)
   | (with_reducible exact LeO.refl _)
   | (with_reducible exact LeO.none _)
   | (with_reducible refine LeO.ite ?_ ?_)
   | (with_reducible refine LeO.bind ?_ (fun _ => ?_))
   | exact ih0 _ _ _ _ _ _
   | exact ih1 _ _ _ _ _
   | exact LeO.none _
   | refine LeO.ite ?_ ?_
   | refine LeO.bind ?_ (fun _ => ?_)
set_option maxHeartbeats 8000000 in
set_option maxRecDepth 100000 in
theorem spec_l03List.calls (k : Nat) (g : Nat) (s0_0 : List Int) (s0_1 : Int) (s0_2 : Int) (r1 : List (S65)) (r2 : Int) (r3 : Int) (w0 w : World) (hI : IsS92 w0 w g s0_0 s0_1 s0_2) (hB : Below w0.heap.size w0 w) (h : spec_l03List.f k s0_0 s0_1 s0_2 = some (r1, r2, r3)) :
  Calls Try.prog 88 #[.pointer (some ⟨g, 0, none⟩)] w fun e w' => ∃ v0_ : Value, e = .returned (v0_) ∧ Kd.R k65 65 w' w.heap.size (fun _ => True) v0_ r1 ∧ IsS92 w0 w' g s0_0 r2 r3 ∧ Below w0.heap.size w0 w' ∧ KeepBut w w' g none := by
 have HI0 := jA hI
 have HK := jA (KeepBut.refl w g none)
 have HL := jA hB.size
 clear hI
 have HW0 := jA hB.size
 have HB := jA hB
 clear hB
 have H := h
 unfold spec_l03List.f at H
 clear h
 obtain ⟨y356, hy356⟩ : ∃ y_ : List (S65), y_ = (([] : List (S65))) := ⟨_, rfl⟩
 replace H : ((spec_l03Names.f).bind fun t359 => (spec_l03List.l0 k y356 t359 0 s0_0 s0_1 s0_2)) = some (r1, r2, r3) := by first | (rw [hy356]; with_reducible exact H) | (have H2_ := (Option.bind_some _ _).symm.trans H; rw [hy356]; with_reducible exact H2_) | (have H2_ := (Option.bind_some _ _).symm.trans H; with_reducible exact H2_) | with_reducible exact H | (rw [hy356]; exact H) | exact H
 have Ny356 := jA hy356
 clear hy356
 replace H := jB.mp H
 obtain ⟨t359, A20, H⟩ := H
 try dsimp only at H
 have A2 := jA A20
 clear A20
 have H' := jA H
 clear H
 go_enter Try.func88, Try.ntmps88
 go_wp2_with (first | ((with_reducible refine jL (N := 7) rfl ?_); refine Kd.R_lit k65 _ 65 ?hg (N := 7) ?hd (xs := ([] : List (S65))) (inner := []) (ok := fun _ => True) (okp := fun _ => True) ?hr ?hp (fun _ hk => hk) trivial (Below.refl _ _) (Nat.le_refl _) (by simp) ?_; (case hd => rfl); (case hg => rfl); (case hr => first | (go_simp; done) | (go_simp; rfl)); (case hp => exact (Reps.none _ _)); intro v357 w3 ho4 hb hg_ hnew_; clear hg_ hnew_; (first | rw [← Ny356.out] at ho4 | (simp only [Int.reduceToNat] at ho4; rw [← Ny356.out] at ho4)); have HO358 := jA (jU ho4 (keep_size (w := w) (g := g) (row := none) (zh0 HK))); replace HK := jA (KeepBut.trans (zh0 HK) (KeepBut.of_below hb g none) (.inl rfl)); replace HB := jA (jV (zr3 HB HI0) hb); replace HI0 := jA (IsS92.below (zr2 HI0) hb); clear hb ho4) | ((with_reducible refine jD (f := 91) rfl ?_); refine zL (some 8) Try.func91 #[] ?_; (with_reducible refine (spec_l03Names.calls  t359 _ A2.out).mono ?_); rintro e w5 ⟨v360, rfl, ho0, hb⟩; refine ⟨_, rfl, ?_⟩; replace HO358 := jA (jF (zo HO358) hb); have HO361 := jA (jU ho0 (keep_size (w := w) (g := g) (row := none) (zh0 HK))); replace HK := jA (KeepBut.trans (zh0 HK) (KeepBut.of_below hb g none) (.inl rfl)); replace HB := jA (jV (zr3 HB HI0) hb); replace HI0 := jA (IsS92.below (zr2 HI0) hb); (try clear hb); (try clear hb2); (try clear hk); (try clear hi); (try clear ho0)))
 go_loopg [3, 5] k (fun kq v3 v5 w' => ∃ (x3_1 : List (S65)) (x5_1 : Int) (x1001_1 : Int) (x1002_1 : Int), v5 = .int .i64 x5_1 ∧ Aside0 (spec_l03List.l0 kq x3_1 t359 x5_1 s0_0 x1001_1 x1002_1 = some (r1, r2, r3)) ∧ Aside0 (kq ≤ k) ∧ Aside0 (Kd.R k65 65 w' w.heap.size (fun _ => True) v3 x3_1) ∧ Aside0 (Kd.R Kd.string 9 w' w.heap.size (fun _ => True) v360 t359) ∧ Aside0 (IsS92 w0 w' g s0_0 x1001_1 x1002_1) ∧ Aside0 (KeepBut w w' g none) ∧ Aside0 (Below w0.heap.size w0 w'))
 case atStart => exact ⟨(y356), (0), (s0_1), (s0_2), zz, H', ⟨Nat.le_refl _⟩, ⟨zo HO358⟩, ⟨zo HO361⟩, ⟨zr2 HI0⟩, ⟨zh0 HK⟩, ⟨zr3 HB HI0⟩⟩
 case round =>
  clear H'
  try clear p2
  obtain ⟨x3_1, x5_1, x1001_1, x1002_1, rfl, HA, HK1, HO_3, HO_4, HI0, HK, HB⟩ := hrel
  cases gk with
  | zero => exact absurd HA.out (by simp [spec_l03List.l0])
  | succ k1 =>
   have H := HA.out
   clear HA
   simp only [spec_l03List.l0] at H
   by_cases c6 : x5_1 < (t359.length : Int)
   ·rw [if_pos c6] at H
    have c6b0 : decide (x5_1 < (t359.length : Int)) = true := jJ c6
    clear c6
    replace H := jB.mp H
    obtain ⟨⟨t362, t363, t364⟩, A70, H⟩ := H
    replace H : (if t362 > 0 then (if 0 ≤ x5_1 then ((spec_l03Draw.f s0_0 t363 t364 (rdOf ByteArray.empty t359 x5_1)).bind fun bt366 => (if x3_1.length < 1759218604441 then (spec_l03List.l0 k1 (x3_1 ++ [(⟨bt366.1, bt366.2.1, bt366.2.2.1, bt366.2.2.2.1, bt366.2.2.2.2.1, bt366.2.2.2.2.2.1, bt366.2.2.2.2.2.2.1, bt366.2.2.2.2.2.2.2.1, bt366.2.2.2.2.2.2.2.2.1⟩ : S65)]) t359 (wrap64 (x5_1 + 1)) s0_0 bt366.2.2.2.2.2.2.2.2.2.1 bt366.2.2.2.2.2.2.2.2.2.2) else (none))) else (none)) else (spec_l03List.l0 k1 x3_1 t359 (wrap64 (x5_1 + 1)) s0_0 t363 t364)) = some (r1, r2, r3) := H
    have A7 := jA A70
    clear A70
    by_cases c8 : t362 > 0
    ·rw [if_pos c8] at H
     have c8b0 : decide (0 < t362) = true := jJ c8
     clear c8
     by_cases c9 : 0 ≤ x5_1
     ·rw [if_pos c9] at H
      have c9b0 : decide (0 ≤ x5_1) = true := jJ c9
      clear c9
      replace H := jB.mp H
      obtain ⟨⟨t366, t367, t368, t369, t370, t371, t372, t373, t374, t375, t376⟩, A100, H⟩ := H
      replace H : (if x3_1.length < 1759218604441 then (spec_l03List.l0 k1 (x3_1 ++ [(⟨t366, t367, t368, t369, t370, t371, t372, t373, t374⟩ : S65)]) t359 (wrap64 (x5_1 + 1)) s0_0 t375 t376) else (none)) = some (r1, r2, r3) := H
      have A10 := jA A100
      clear A100
      by_cases c11 : x3_1.length < 1759218604441
      ·rw [if_pos c11] at H
       have LMc11 := jA c11
       clear c11
       obtain ⟨y377, hy377⟩ : ∃ y_ : List (S65), y_ = (x3_1 ++ [(⟨t366, t367, t368, t369, t370, t371, t372, t373, t374⟩ : S65)]) := ⟨_, rfl⟩
       replace H : (spec_l03List.l0 k1 y377 t359 (wrap64 (x5_1 + 1)) s0_0 t375 t376) = some (r1, r2, r3) := by first | (rw [hy377]; with_reducible exact H) | (have H2_ := (Option.bind_some _ _).symm.trans H; rw [hy377]; with_reducible exact H2_) | (have H2_ := (Option.bind_some _ _).symm.trans H; with_reducible exact H2_) | with_reducible exact H | (rw [hy377]; exact H) | exact H
       have Ny377 := jA hy377
       clear hy377
       have H' := jA H
       clear H
       obtain ⟨Ao12, co12, eo12⟩ := Kd.R_slice HO_4.out
       subst eo12
       go_wp2_with (first | ((with_reducible refine jD (f := 79) rfl ?_); refine zL (some 16) Try.func79 #[.pointer (some ⟨g, 0, none⟩), .int .i64 3] ?_; (with_reducible refine (spec_l01Next.calls g s0_0 x1001_1 x1002_1 3 t362 t363 t364 w0 _ ?side1 ?side2 A7.out).mono ?_); (case side1 => exact zr2 HI0); (case side2 => exact zr3 HB HI0); rintro e w13 ⟨rfl, hi, hb, hk⟩; refine ⟨_, rfl, ?_⟩; replace HO_3 := jA (Kd.R_mono (Kd.R_keep (IsS92.apart (show IsS92 w0 _ g s0_0 x1001_1 x1002_1 from zr2 HI0) (zo HO_3) (by decide)) hk (fun _ h => h.2)) (fun _ h => h.1)); replace HO_4 := jA (Kd.R_mono (Kd.R_keep (IsS92.apart (show IsS92 w0 _ g s0_0 x1001_1 x1002_1 from zr2 HI0) (zo HO_4) (by decide)) hk (fun _ h => h.2)) (fun _ h => h.1)); replace HK := jA (KeepBut.trans (zh0 HK) hk (.inl rfl)); replace HB := jA (hb); replace HI0 := jA (hi); (try clear hb); (try clear hb2); (try clear hk); (try clear hi); have p365 : 0 ≤ (x5_1 : Int) := jC za; have q365 : x5_1 < (t359.length : Int) := jC za; obtain ⟨ad365, e365, hx365_0⟩ := Kd.at_string (jM HO_4.out).2.2 x5_1 p365 q365; cases e365; replace p365 := eq_true p365; replace q365 := eq_true q365) | ((with_reducible refine jD (f := 92) rfl ?_); refine zL (some 24) Try.func92 #[.pointer (some ⟨g, 0, none⟩), .string (rdOf ByteArray.empty t359 x5_1)] ?_; (with_reducible refine (spec_l03Draw.calls g s0_0 t363 t364 (rdOf ByteArray.empty t359 x5_1) t366 t367 t368 t369 t370 t371 t372 t373 t374 t375 t376 w0 _ ?side1 ?side2 A10.out).mono ?_); (case side1 => exact zr2 HI0); (case side2 => exact zr3 HB HI0); rintro e w14 ⟨rfl, hi, hb, hk⟩; refine ⟨_, rfl, ?_⟩; replace HO_3 := jA (Kd.R_mono (Kd.R_keep (IsS92.apart (show IsS92 w0 _ g s0_0 t363 t364 from zr2 HI0) (zo HO_3) (by decide)) hk (fun _ h => h.2)) (fun _ h => h.1)); replace HO_4 := jA (Kd.R_mono (Kd.R_keep (IsS92.apart (show IsS92 w0 _ g s0_0 t363 t364 from zr2 HI0) (zo HO_4) (by decide)) hk (fun _ h => h.2)) (fun _ h => h.1)); replace HK := jA (KeepBut.trans (zh0 HK) hk (.inl rfl)); replace HB := jA (hb); replace HI0 := jA (hi); (try clear hb); (try clear hb2); (try clear hk); (try clear hi)) | ((with_reducible refine gate_builtin (b := .append) (xs := #[.tmp 18, .tmp 25]) rfl ?_); at_builtin; refine Kd.R_append k65 w.heap.size rfl (.tmp 18) (.tmp 25) 31 65 (.agg #[(.string ⟨#[]⟩), (.int .i64 0), (.int .i64 0), (.int .i64 0), (.int .i64 0), (.int .i64 0), (.int .i64 0), (.int .i64 0), (.int .i64 0)]) 80 rfl Try.underlying31 info65 rfl (by decide) (by omega) u3 x3_1 (⟨t366, t367, t368, t369, t370, t371, t372, t373, t374⟩ : S65) [.string t366, .int .i64 t367, .int .i64 t368, .int .i64 t369, .int .i64 t370, .int .i64 t371, .int .i64 t372, .int .i64 t373, .int .i64 t374] (fun _ => True) (fun _ => False) rfl rfl ?aP (fun _ hk => hk.elim) ?aF ?aO (Below.refl _ _) ?aS ?aL ?_; (case aP => exact k65_mkM _ _ _ (⟨t366, t367, t368, t369, t370, t371, t372, t373, t374⟩ : S65)); (case aF => exact (fun _ _ => trivial)); (case aO => exact (zo HO_3)); (case aS => exact (keep_size (w := w) (g := g) (row := none) (zh0 HK))); (case aL => have := LMc11.out; omega); intro v378 w15 ho hb hg hat; rw [← Ny377.out] at ho; replace HO_4 := jA (Kd.R_over' (zo HO_4) (Kd.R_typed (zo HO_3)) (by decide) hg); replace HB := jA (below_weaken (zr3 HB HI0) HL.out hb); replace HI0 := jA (IsS92.grown (zr2 HI0) hg (IsS92.own_ne HI0.out HO_3.out (by decide))); replace HK := jA (KeepBut.trans (zh0 HK) (KeepBut.of_grown hg g) (Kd.R_base2 HO_3.out)); have HO379 := jA (ho); clear HO_3; clear ho hb hg hat))
       go_roundg k1
       case measure => have := HK1.out; omega
       case rel => exact ⟨(y377), (wrap64 (x5_1 + 1)), (t375), (t376), zz, H', ⟨by have := HK1.out; omega⟩, ⟨zo HO379⟩, ⟨zo HO_4⟩, ⟨zr2 HI0⟩, ⟨zh0 HK⟩, ⟨zr3 HB HI0⟩⟩
      ·rw [if_neg c11] at H
       exact absurd H (by simp)
     ·rw [if_neg c9] at H
      exact absurd H (by simp)
    ·rw [if_neg c8] at H
     have c8b0 : decide (0 < t362) = false := jQ c8
     clear c8
     have H' := jA H
     clear H
     obtain ⟨Ao16, co16, eo16⟩ := Kd.R_slice HO_4.out
     subst eo16
     go_wp2_with (first | ((with_reducible refine jD (f := 79) rfl ?_); refine zL (some 16) Try.func79 #[.pointer (some ⟨g, 0, none⟩), .int .i64 3] ?_; (with_reducible refine (spec_l01Next.calls g s0_0 x1001_1 x1002_1 3 t362 t363 t364 w0 _ ?side1 ?side2 A7.out).mono ?_); (case side1 => exact zr2 HI0); (case side2 => exact zr3 HB HI0); rintro e w17 ⟨rfl, hi, hb, hk⟩; refine ⟨_, rfl, ?_⟩; replace HO_3 := jA (Kd.R_mono (Kd.R_keep (IsS92.apart (show IsS92 w0 _ g s0_0 x1001_1 x1002_1 from zr2 HI0) (zo HO_3) (by decide)) hk (fun _ h => h.2)) (fun _ h => h.1)); replace HO_4 := jA (Kd.R_mono (Kd.R_keep (IsS92.apart (show IsS92 w0 _ g s0_0 x1001_1 x1002_1 from zr2 HI0) (zo HO_4) (by decide)) hk (fun _ h => h.2)) (fun _ h => h.1)); replace HK := jA (KeepBut.trans (zh0 HK) hk (.inl rfl)); replace HB := jA (hb); replace HI0 := jA (hi); (try clear hb); (try clear hb2); (try clear hk); (try clear hi)))
     go_roundg k1
     case measure => have := HK1.out; omega
     case rel => exact ⟨(x3_1), (wrap64 (x5_1 + 1)), (t363), (t364), zz, H', ⟨by have := HK1.out; omega⟩, ⟨zo HO_3⟩, ⟨zo HO_4⟩, ⟨zr2 HI0⟩, ⟨zh0 HK⟩, ⟨zr3 HB HI0⟩⟩
   ·rw [if_neg c6] at H
    have c6b0 : decide (x5_1 < (t359.length : Int)) = false := jQ c6
    clear c6
    replace H := jB.mp H
    obtain ⟨⟨t380, t381, t382⟩, A180, H⟩ := H
    try dsimp only at H
    have A18 := jA A180
    clear A180
    by_cases c19 : t380 = 0
    ·rw [if_pos c19] at H
     have c19b0 : (t380 == 0) = true := beq_iff_eq.mpr c19
     have c19b1 : (t380 != 0) = false := bne_eq_false_iff_eq.mpr c19
     clear c19
     replace H := jB.mp H
     obtain ⟨⟨t383, t384, t385, t386, t387, t388, t389, t390, t391, t392, t393⟩, A200, H⟩ := H
     try dsimp only at H
     have A20 := jA A200
     clear A200
     by_cases c21 : x3_1.length < 1759218604441
     ·rw [if_pos c21] at H
      have LMc21 := jA c21
      clear c21
      obtain ⟨y394, hy394⟩ : ∃ y_ : List (S65), y_ = (x3_1 ++ [(⟨t383, t384, t385, t386, t387, t388, t389, t390, t391⟩ : S65)]) := ⟨_, rfl⟩
      replace H : (some (y394, t392, t393)) = some (r1, r2, r3) := by first | (rw [hy394]; with_reducible exact H) | (have H2_ := (Option.bind_some _ _).symm.trans H; rw [hy394]; with_reducible exact H2_) | (have H2_ := (Option.bind_some _ _).symm.trans H; with_reducible exact H2_) | with_reducible exact H | (rw [hy394]; exact H) | exact H
      have Ny394 := jA hy394
      clear hy394
      simp only [jN, jO] at H
      obtain ⟨rfl, rfl, rfl⟩ := H
      obtain ⟨Ao22, co22, eo22⟩ := Kd.R_slice HO_4.out
      subst eo22
      go_wp2_with (first | ((with_reducible refine jD (f := 79) rfl ?_); refine zL (some 28) Try.func79 #[.pointer (some ⟨g, 0, none⟩), .int .i64 30] ?_; (with_reducible refine (spec_l01Next.calls g s0_0 x1001_1 x1002_1 30 t380 t381 t382 w0 _ ?side1 ?side2 A18.out).mono ?_); (case side1 => exact zr2 HI0); (case side2 => exact zr3 HB HI0); rintro e w23 ⟨rfl, hi, hb, hk⟩; refine ⟨_, rfl, ?_⟩; replace HO_3 := jA (Kd.R_mono (Kd.R_keep (IsS92.apart (show IsS92 w0 _ g s0_0 x1001_1 x1002_1 from zr2 HI0) (zo HO_3) (by decide)) hk (fun _ h => h.2)) (fun _ h => h.1)); replace HO_4 := jA (Kd.R_mono (Kd.R_keep (IsS92.apart (show IsS92 w0 _ g s0_0 x1001_1 x1002_1 from zr2 HI0) (zo HO_4) (by decide)) hk (fun _ h => h.2)) (fun _ h => h.1)); replace HK := jA (KeepBut.trans (zh0 HK) hk (.inl rfl)); replace HB := jA (hb); replace HI0 := jA (hi); (try clear hb); (try clear hb2); (try clear hk); (try clear hi)) | ((with_reducible refine jD (f := 93) rfl ?_); refine zL (some 33) Try.func93 #[.pointer (some ⟨g, 0, none⟩), .string (⟨#[97, 115, 116, 101, 114]⟩ : ByteArray)] ?_; (with_reducible refine (spec_l03Good.calls g s0_0 t381 t382 (⟨#[97, 115, 116, 101, 114]⟩ : ByteArray) t383 t384 t385 t386 t387 t388 t389 t390 t391 t392 t393 w0 _ ?side1 ?side2 A20.out).mono ?_); (case side1 => exact zr2 HI0); (case side2 => exact zr3 HB HI0); rintro e w24 ⟨rfl, hi, hb, hk⟩; refine ⟨_, rfl, ?_⟩; replace HO_3 := jA (Kd.R_mono (Kd.R_keep (IsS92.apart (show IsS92 w0 _ g s0_0 t381 t382 from zr2 HI0) (zo HO_3) (by decide)) hk (fun _ h => h.2)) (fun _ h => h.1)); replace HO_4 := jA (Kd.R_mono (Kd.R_keep (IsS92.apart (show IsS92 w0 _ g s0_0 t381 t382 from zr2 HI0) (zo HO_4) (by decide)) hk (fun _ h => h.2)) (fun _ h => h.1)); replace HK := jA (KeepBut.trans (zh0 HK) hk (.inl rfl)); replace HB := jA (hb); replace HI0 := jA (hi); (try clear hb); (try clear hb2); (try clear hk); (try clear hi)) | ((with_reducible refine gate_builtin (b := .append) (xs := #[.tmp 31, .tmp 34]) rfl ?_); at_builtin; refine Kd.R_append k65 w.heap.size rfl (.tmp 31) (.tmp 34) 31 65 (.agg #[(.string ⟨#[]⟩), (.int .i64 0), (.int .i64 0), (.int .i64 0), (.int .i64 0), (.int .i64 0), (.int .i64 0), (.int .i64 0), (.int .i64 0)]) 80 rfl Try.underlying31 info65 rfl (by decide) (by omega) u3 x3_1 (⟨t383, t384, t385, t386, t387, t388, t389, t390, t391⟩ : S65) [.string t383, .int .i64 t384, .int .i64 t385, .int .i64 t386, .int .i64 t387, .int .i64 t388, .int .i64 t389, .int .i64 t390, .int .i64 t391] (fun _ => True) (fun _ => False) rfl rfl ?aP (fun _ hk => hk.elim) ?aF ?aO (Below.refl _ _) ?aS ?aL ?_; (case aP => exact k65_mkM _ _ _ (⟨t383, t384, t385, t386, t387, t388, t389, t390, t391⟩ : S65)); (case aF => exact (fun _ _ => trivial)); (case aO => exact (zo HO_3)); (case aS => exact (keep_size (w := w) (g := g) (row := none) (zh0 HK))); (case aL => have := LMc21.out; omega); intro v395 w25 ho hb hg hat; rw [← Ny394.out] at ho; replace HO_4 := jA (Kd.R_over' (zo HO_4) (Kd.R_typed (zo HO_3)) (by decide) hg); replace HB := jA (below_weaken (zr3 HB HI0) HL.out hb); replace HI0 := jA (IsS92.grown (zr2 HI0) hg (IsS92.own_ne HI0.out HO_3.out (by decide))); replace HK := jA (KeepBut.trans (zh0 HK) (KeepBut.of_grown hg g) (Kd.R_base2 HO_3.out)); have HO396 := jA (ho); clear HO_3; clear ho hb hg hat))
      go_ret
      exact ⟨_, ze, zo HO396, zr2 HI0, zr3 HB HI0, zh0 HK⟩
     ·rw [if_neg c21] at H
      exact absurd H (by simp)
    ·rw [if_neg c19] at H
     have c19b0 : (t380 == 0) = false := beq_eq_false_iff_ne.mpr c19
     have c19b1 : (t380 != 0) = true := bne_iff_ne.mpr c19
     by_cases c26 : t380 = 1
     ·rw [if_pos c26] at H
      have c26b0 : (t380 == 1) = true := beq_iff_eq.mpr c26
      have c26b1 : (t380 != 1) = false := bne_eq_false_iff_eq.mpr c26
      clear c26
      have H' := jA H
      clear H
      obtain ⟨Ao27, co27, eo27⟩ := Kd.R_slice HO_4.out
      subst eo27
      go_wp2_with (first | ((with_reducible refine jD (f := 79) rfl ?_); refine zL (some 28) Try.func79 #[.pointer (some ⟨g, 0, none⟩), .int .i64 30] ?_; (with_reducible refine (spec_l01Next.calls g s0_0 x1001_1 x1002_1 30 t380 t381 t382 w0 _ ?side1 ?side2 A18.out).mono ?_); (case side1 => exact zr2 HI0); (case side2 => exact zr3 HB HI0); rintro e w28 ⟨rfl, hi, hb, hk⟩; refine ⟨_, rfl, ?_⟩; replace HO_3 := jA (Kd.R_mono (Kd.R_keep (IsS92.apart (show IsS92 w0 _ g s0_0 x1001_1 x1002_1 from zr2 HI0) (zo HO_3) (by decide)) hk (fun _ h => h.2)) (fun _ h => h.1)); replace HO_4 := jA (Kd.R_mono (Kd.R_keep (IsS92.apart (show IsS92 w0 _ g s0_0 x1001_1 x1002_1 from zr2 HI0) (zo HO_4) (by decide)) hk (fun _ h => h.2)) (fun _ h => h.1)); replace HK := jA (KeepBut.trans (zh0 HK) hk (.inl rfl)); replace HB := jA (hb); replace HI0 := jA (hi); (try clear hb); (try clear hb2); (try clear hk); (try clear hi)))
      go_loopg [3, 6] k1 (fun kq v3 v6 w' => ∃ (x3_2 : List (S65)) (x6_2 : Int) (x1001_2 : Int) (x1002_2 : Int), v6 = .int .i64 x6_2 ∧ Aside0 (spec_l03List.l1 kq x3_2 x6_2 s0_0 x1001_2 x1002_2 = some (r1, r2, r3)) ∧ Aside0 (kq ≤ k1) ∧ Aside0 (Kd.R k65 65 w' w.heap.size (fun _ => True) v3 x3_2) ∧ Aside0 (IsS92 w0 w' g s0_0 x1001_2 x1002_2) ∧ Aside0 (KeepBut w w' g none) ∧ Aside0 (Below w0.heap.size w0 w'))
      case atStart => exact ⟨(x3_1), (0), (t381), (t382), zz, H', ⟨Nat.le_refl _⟩, ⟨zo HO_3⟩, ⟨zr2 HI0⟩, ⟨zh0 HK⟩, ⟨zr3 HB HI0⟩⟩
      case round =>
       clear H'
       try clear c1
       try clear c2
       try clear p2
       try clear p3
       try clear q3
       try clear hx3
       try clear c6
       try clear c6b0
       try clear p6
       try clear c7
       try clear c8
       try clear c8b0
       try clear c9
       try clear c9b0
       try clear c11
       try clear c19
       try clear c19b0
       try clear c19b1
       try clear c21
       try clear c26
       try clear c26b0
       try clear c26b1
       try clear hx365_0
       try clear p2
       try clear p365
       try clear q365
       obtain ⟨x3_2, x6_2, x1001_2, x1002_2, rfl, HA, HK2, HO_3, HI0, HK, HB⟩ := hrel
       cases gk with
       | zero => exact absurd HA.out (by simp [spec_l03List.l1])
       | succ k2 =>
        have H := HA.out
        clear HA
        simp only [spec_l03List.l1] at H
        replace H := jB.mp H
        obtain ⟨⟨t397, t398, t399⟩, A290, H⟩ := H
        replace H : (if (x3_2.length : Int) < (wrap64 (12 + t397)) then (if x6_2 < 14 then (if 0 ≤ x6_2 then (if x6_2 ≤ (wrap64 (x6_2 + 1)) then (if (wrap64 (x6_2 + 1)) ≤ 14 then (if 1 + ((⟨#[97, 98, 99, 100, 101, 102, 103, 104, 105, 106, 107, 108, 109, 110]⟩ : ByteArray).extract (x6_2 : Int).toNat ((wrap64 (x6_2 + 1)) : Int).toNat).size ≤ 9223372036854775807 then ((spec_l03Good.f s0_0 t398 t399 ((⟨#[120]⟩ : ByteArray) ++ ((⟨#[97, 98, 99, 100, 101, 102, 103, 104, 105, 106, 107, 108, 109, 110]⟩ : ByteArray).extract (x6_2 : Int).toNat ((wrap64 (x6_2 + 1)) : Int).toNat))).bind fun bt400 => (if x3_2.length < 1759218604441 then (spec_l03List.l1 k2 (x3_2 ++ [(⟨bt400.1, bt400.2.1, bt400.2.2.1, bt400.2.2.2.1, bt400.2.2.2.2.1, bt400.2.2.2.2.2.1, bt400.2.2.2.2.2.2.1, bt400.2.2.2.2.2.2.2.1, bt400.2.2.2.2.2.2.2.2.1⟩ : S65)]) (wrap64 (x6_2 + 1)) s0_0 bt400.2.2.2.2.2.2.2.2.2.1 bt400.2.2.2.2.2.2.2.2.2.2) else (none))) else (none)) else (none)) else (none)) else (none)) else (some (x3_2, t398, t399))) else (some (x3_2, t398, t399))) = some (r1, r2, r3) := H
        have A29 := jA A290
        clear A290
        by_cases c30 : (x3_2.length : Int) < (wrap64 (12 + t397))
        ·rw [if_pos c30] at H
         have c30b0 : decide ((x3_2.length : Int) < (wrap64 (12 + t397))) = true := jJ c30
         clear c30
         by_cases c31 : x6_2 < 14
         ·rw [if_pos c31] at H
          have c31b0 : decide (x6_2 < 14) = true := jJ c31
          clear c31
          by_cases c32 : 0 ≤ x6_2
          ·rw [if_pos c32] at H
           have c32b0 := eq_true c32
           have c32b1 : decide (0 ≤ x6_2) = true := jJ c32
           clear c32
           by_cases c33 : x6_2 ≤ (wrap64 (x6_2 + 1))
           ·rw [if_pos c33] at H
            have c33b0 := eq_true c33
            have c33b1 : decide (x6_2 ≤ (wrap64 (x6_2 + 1))) = true := jJ c33
            by_cases c34 : (wrap64 (x6_2 + 1)) ≤ 14
            ·rw [if_pos c34] at H
             have c34b0 := eq_true c34
             have c34b1 : decide ((wrap64 (x6_2 + 1)) ≤ 14) = true := jJ c34
             by_cases c35 : 1 + ((⟨#[97, 98, 99, 100, 101, 102, 103, 104, 105, 106, 107, 108, 109, 110]⟩ : ByteArray).extract (x6_2 : Int).toNat ((wrap64 (x6_2 + 1)) : Int).toNat).size ≤ 9223372036854775807
             ·rw [if_pos c35] at H
              have c35b0 := eq_true c35
              have c35b1 : decide (1 + ((⟨#[97, 98, 99, 100, 101, 102, 103, 104, 105, 106, 107, 108, 109, 110]⟩ : ByteArray).extract (x6_2 : Int).toNat ((wrap64 (x6_2 + 1)) : Int).toNat).size ≤ 9223372036854775807) = true := jJ c35
              try have c35b2 : (9223372036854775807 < 1 + ((⟨#[97, 98, 99, 100, 101, 102, 103, 104, 105, 106, 107, 108, 109, 110]⟩ : ByteArray).extract (x6_2 : Int).toNat ((wrap64 (x6_2 + 1)) : Int).toNat).size) = False := eq_false (Nat.not_lt.2 c35)
              replace H := jB.mp H
              obtain ⟨⟨t400, t401, t402, t403, t404, t405, t406, t407, t408, t409, t410⟩, A360, H⟩ := H
              replace H : (if x3_2.length < 1759218604441 then (spec_l03List.l1 k2 (x3_2 ++ [(⟨t400, t401, t402, t403, t404, t405, t406, t407, t408⟩ : S65)]) (wrap64 (x6_2 + 1)) s0_0 t409 t410) else (none)) = some (r1, r2, r3) := H
              have A36 := jA A360
              clear A360
              by_cases c37 : x3_2.length < 1759218604441
              ·rw [if_pos c37] at H
               have LMc37 := jA c37
               clear c37
               obtain ⟨y411, hy411⟩ : ∃ y_ : List (S65), y_ = (x3_2 ++ [(⟨t400, t401, t402, t403, t404, t405, t406, t407, t408⟩ : S65)]) := ⟨_, rfl⟩
               replace H : (spec_l03List.l1 k2 y411 (wrap64 (x6_2 + 1)) s0_0 t409 t410) = some (r1, r2, r3) := by first | (rw [hy411]; with_reducible exact H) | (have H2_ := (Option.bind_some _ _).symm.trans H; rw [hy411]; with_reducible exact H2_) | (have H2_ := (Option.bind_some _ _).symm.trans H; with_reducible exact H2_) | with_reducible exact H | (rw [hy411]; exact H) | exact H
               have Ny411 := jA hy411
               clear hy411
               have H' := jA H
               clear H
               obtain ⟨Ao38, co38, eo38⟩ := Kd.R_slice HO_3.out
               subst eo38
               go_wp2_with (first | ((with_reducible refine jD (f := 79) rfl ?_); refine zL (some 41) Try.func79 #[.pointer (some ⟨g, 0, none⟩), .int .i64 2] ?_; (with_reducible refine (spec_l01Next.calls g s0_0 x1001_2 x1002_2 2 t397 t398 t399 w0 _ ?side1 ?side2 A29.out).mono ?_); (case side1 => exact zr2 HI0); (case side2 => exact zr3 HB HI0); rintro e w39 ⟨rfl, hi, hb, hk⟩; refine ⟨_, rfl, ?_⟩; replace HO_3 := jA (Kd.R_mono (Kd.R_keep (IsS92.apart (show IsS92 w0 _ g s0_0 x1001_2 x1002_2 from zr2 HI0) (zo HO_3) (by decide)) hk (fun _ h => h.2)) (fun _ h => h.1)); replace HK := jA (KeepBut.trans (zh0 HK) hk (.inl rfl)); replace HB := jA (hb); replace HI0 := jA (hi); (try clear hb); (try clear hb2); (try clear hk); (try clear hi)) | ((with_reducible refine jD (f := 93) rfl ?_); refine zL (some 57) Try.func93 #[.pointer (some ⟨g, 0, none⟩), .string ((⟨#[120]⟩ : ByteArray) ++ ((⟨#[97, 98, 99, 100, 101, 102, 103, 104, 105, 106, 107, 108, 109, 110]⟩ : ByteArray).extract (x6_2 : Int).toNat ((wrap64 (x6_2 + 1)) : Int).toNat))] ?_; (with_reducible refine (spec_l03Good.calls g s0_0 t398 t399 ((⟨#[120]⟩ : ByteArray) ++ ((⟨#[97, 98, 99, 100, 101, 102, 103, 104, 105, 106, 107, 108, 109, 110]⟩ : ByteArray).extract (x6_2 : Int).toNat ((wrap64 (x6_2 + 1)) : Int).toNat)) t400 t401 t402 t403 t404 t405 t406 t407 t408 t409 t410 w0 _ ?side1 ?side2 A36.out).mono ?_); (case side1 => exact zr2 HI0); (case side2 => exact zr3 HB HI0); rintro e w40 ⟨rfl, hi, hb, hk⟩; refine ⟨_, rfl, ?_⟩; replace HO_3 := jA (Kd.R_mono (Kd.R_keep (IsS92.apart (show IsS92 w0 _ g s0_0 t398 t399 from zr2 HI0) (zo HO_3) (by decide)) hk (fun _ h => h.2)) (fun _ h => h.1)); replace HK := jA (KeepBut.trans (zh0 HK) hk (.inl rfl)); replace HB := jA (hb); replace HI0 := jA (hi); (try clear hb); (try clear hb2); (try clear hk); (try clear hi)) | ((with_reducible refine gate_builtin (b := .append) (xs := #[.tmp 50, .tmp 58]) rfl ?_); at_builtin; refine Kd.R_append k65 w.heap.size rfl (.tmp 50) (.tmp 58) 31 65 (.agg #[(.string ⟨#[]⟩), (.int .i64 0), (.int .i64 0), (.int .i64 0), (.int .i64 0), (.int .i64 0), (.int .i64 0), (.int .i64 0), (.int .i64 0)]) 80 rfl Try.underlying31 info65 rfl (by decide) (by omega) (.slice Ao38 x3_2.length co38) x3_2 (⟨t400, t401, t402, t403, t404, t405, t406, t407, t408⟩ : S65) [.string t400, .int .i64 t401, .int .i64 t402, .int .i64 t403, .int .i64 t404, .int .i64 t405, .int .i64 t406, .int .i64 t407, .int .i64 t408] (fun _ => True) (fun _ => False) rfl rfl ?aP (fun _ hk => hk.elim) ?aF ?aO (Below.refl _ _) ?aS ?aL ?_; (case aP => exact k65_mkM _ _ _ (⟨t400, t401, t402, t403, t404, t405, t406, t407, t408⟩ : S65)); (case aF => exact (fun _ _ => trivial)); (case aO => exact (zo HO_3)); (case aS => exact (keep_size (w := w) (g := g) (row := none) (zh0 HK))); (case aL => have := LMc37.out; omega); intro v412 w41 ho hb hg hat; rw [← Ny411.out] at ho; replace HB := jA (below_weaken (zr3 HB HI0) HL.out hb); replace HI0 := jA (IsS92.grown (zr2 HI0) hg (IsS92.own_ne HI0.out HO_3.out (by decide))); replace HK := jA (KeepBut.trans (zh0 HK) (KeepBut.of_grown hg g) (Kd.R_base2 HO_3.out)); have HO413 := jA (ho); clear HO_3; clear ho hb hg hat))
               go_roundg k2
               case measure => have := HK1.out; have := HK2.out; omega
               case rel => exact ⟨(y411), (wrap64 (x6_2 + 1)), (t409), (t410), zz, H', ⟨by have := HK1.out; have := HK2.out; omega⟩, ⟨zo HO413⟩, ⟨zr2 HI0⟩, ⟨zh0 HK⟩, ⟨zr3 HB HI0⟩⟩
              ·rw [if_neg c37] at H
               exact absurd H (by simp)
             ·rw [if_neg c35] at H
              exact absurd H (by simp)
            ·rw [if_neg c34] at H
             exact absurd H (by simp)
           ·rw [if_neg c33] at H
            exact absurd H (by simp)
          ·rw [if_neg c32] at H
           exact absurd H (by simp)
         ·rw [if_neg c31] at H
          have c31b0 : decide (x6_2 < 14) = false := jQ c31
          clear c31
          simp only [jN, jO] at H
          obtain ⟨rfl, rfl, rfl⟩ := H
          obtain ⟨Ao42, co42, eo42⟩ := Kd.R_slice HO_3.out
          subst eo42
          go_wp2_with (first | ((with_reducible refine jD (f := 79) rfl ?_); refine zL (some 41) Try.func79 #[.pointer (some ⟨g, 0, none⟩), .int .i64 2] ?_; (with_reducible refine (spec_l01Next.calls g s0_0 x1001_2 x1002_2 2 t397 t398 t399 w0 _ ?side1 ?side2 A29.out).mono ?_); (case side1 => exact zr2 HI0); (case side2 => exact zr3 HB HI0); rintro e w43 ⟨rfl, hi, hb, hk⟩; refine ⟨_, rfl, ?_⟩; replace HO_3 := jA (Kd.R_mono (Kd.R_keep (IsS92.apart (show IsS92 w0 _ g s0_0 x1001_2 x1002_2 from zr2 HI0) (zo HO_3) (by decide)) hk (fun _ h => h.2)) (fun _ h => h.1)); replace HK := jA (KeepBut.trans (zh0 HK) hk (.inl rfl)); replace HB := jA (hb); replace HI0 := jA (hi); (try clear hb); (try clear hb2); (try clear hk); (try clear hi)))
          go_ret
          exact ⟨_, ze, zo HO_3, zr2 HI0, zr3 HB HI0, zh0 HK⟩
        ·rw [if_neg c30] at H
         have c30b0 : decide ((x3_2.length : Int) < (wrap64 (12 + t397))) = false := jQ c30
         clear c30
         simp only [jN, jO] at H
         obtain ⟨rfl, rfl, rfl⟩ := H
         obtain ⟨Ao44, co44, eo44⟩ := Kd.R_slice HO_3.out
         subst eo44
         go_wp2_with (first | ((with_reducible refine jD (f := 79) rfl ?_); refine zL (some 41) Try.func79 #[.pointer (some ⟨g, 0, none⟩), .int .i64 2] ?_; (with_reducible refine (spec_l01Next.calls g s0_0 x1001_2 x1002_2 2 t397 t398 t399 w0 _ ?side1 ?side2 A29.out).mono ?_); (case side1 => exact zr2 HI0); (case side2 => exact zr3 HB HI0); rintro e w45 ⟨rfl, hi, hb, hk⟩; refine ⟨_, rfl, ?_⟩; replace HO_3 := jA (Kd.R_mono (Kd.R_keep (IsS92.apart (show IsS92 w0 _ g s0_0 x1001_2 x1002_2 from zr2 HI0) (zo HO_3) (by decide)) hk (fun _ h => h.2)) (fun _ h => h.1)); replace HK := jA (KeepBut.trans (zh0 HK) hk (.inl rfl)); replace HB := jA (hb); replace HI0 := jA (hi); (try clear hb); (try clear hb2); (try clear hk); (try clear hi)))
         go_ret
         exact ⟨_, ze, zo HO_3, zr2 HI0, zr3 HB HI0, zh0 HK⟩
     ·rw [if_neg c26] at H
      have c26b0 : (t380 == 1) = false := beq_eq_false_iff_ne.mpr c26
      have c26b1 : (t380 != 1) = true := bne_iff_ne.mpr c26
      simp only [jN, jO] at H
      obtain ⟨rfl, rfl, rfl⟩ := H
      obtain ⟨Ao46, co46, eo46⟩ := Kd.R_slice HO_4.out
      subst eo46
      go_wp2_with (first | ((with_reducible refine jD (f := 79) rfl ?_); refine zL (some 28) Try.func79 #[.pointer (some ⟨g, 0, none⟩), .int .i64 30] ?_; (with_reducible refine (spec_l01Next.calls g s0_0 x1001_1 x1002_1 30 t380 t381 t382 w0 _ ?side1 ?side2 A18.out).mono ?_); (case side1 => exact zr2 HI0); (case side2 => exact zr3 HB HI0); rintro e w47 ⟨rfl, hi, hb, hk⟩; refine ⟨_, rfl, ?_⟩; replace HO_3 := jA (Kd.R_mono (Kd.R_keep (IsS92.apart (show IsS92 w0 _ g s0_0 x1001_1 x1002_1 from zr2 HI0) (zo HO_3) (by decide)) hk (fun _ h => h.2)) (fun _ h => h.1)); replace HO_4 := jA (Kd.R_mono (Kd.R_keep (IsS92.apart (show IsS92 w0 _ g s0_0 x1001_1 x1002_1 from zr2 HI0) (zo HO_4) (by decide)) hk (fun _ h => h.2)) (fun _ h => h.1)); replace HK := jA (KeepBut.trans (zh0 HK) hk (.inl rfl)); replace HB := jA (hb); replace HI0 := jA (hi); (try clear hb); (try clear hb2); (try clear hk); (try clear hi)))
      go_ret
      exact ⟨_, ze, zo HO_3, zr2 HI0, zr3 HB HI0, zh0 HK⟩

/-! ### spec_l26Draw: function 76 -/
def spec_l26Draw.f (k : Nat) (s0_0 : List Int) (s0_1 : Int) (s0_2 : Int) : Option ((List (S65)) × Int × List Int × Int × Int) := (spec_l03List.f k s0_0 s0_1 s0_2).bind fun bt415 => ((spec_l26For.f k s0_0 bt415.2.1 bt415.2.2 bt415.1).bind fun bt420 => (some (bt415.1, bt420.1, bt420.2.1, bt420.2.2.1, bt420.2.2.2)))
theorem spec_l26Draw.mono : ∀ a0 a1 a2 k, LeO (spec_l26Draw.f k a0 a1 a2) (spec_l26Draw.f (k + 1) a0 a1 a2) := by
 intro a0 a1 a2 k
 unfold spec_l26Draw.f
 repeat' first
   | (with_reducible exact spec_l03List.mono _ _ _ _)
   | (with_reducible exact spec_l26For.mono _ _ _ _ _)
   | (with_reducible exact LeO.refl _)
   | (with_reducible exact LeO.none _)
   | (with_reducible refine LeO.ite ?_ ?_)
   | (with_reducible refine LeO.bind ?_ (fun _ => ?_))
   | exact spec_l03List.mono _ _ _ _
   | exact spec_l26For.mono _ _ _ _ _
   | exact LeO.none _
   | refine LeO.ite ?_ ?_
   | refine LeO.bind ?_ (fun _ => ?_)
set_option maxHeartbeats 8000000 in
set_option maxRecDepth 100000 in
theorem spec_l26Draw.calls (k : Nat) (g : Nat) (s0_0 : List Int) (s0_1 : Int) (s0_2 : Int) (r1 : List (S65)) (r2 : Int) (r3 : List Int) (r4 : Int) (r5 : Int) (w0 w : World) (hI : IsS92 w0 w g s0_0 s0_1 s0_2) (hB : Below w0.heap.size w0 w) (h : spec_l26Draw.f k s0_0 s0_1 s0_2 = some (r1, r2, r3, r4, r5)) :
  Calls Try.prog 76 #[.pointer (some ⟨g, 0, none⟩)] w fun e w' => ∃ v0_ v2_ : Value, e = .returned (.tuple #[v0_, .agg #[.int .i64 r2, v2_]]) ∧ Kd.R k65 65 w' w.heap.size (fun _ => True) v0_ r1 ∧ Kd.R (Kd.int .i64) 2 w' w.heap.size (fun _ => True) v2_ r3 ∧ IsS92 w0 w' g s0_0 r4 r5 ∧ Below w0.heap.size w0 w' ∧ KeepBut w w' g none := by
 have hu28 := Try.underlying28
 have HI0 := jA hI
 have HK := jA (KeepBut.refl w g none)
 have HL := jA hB.size
 clear hI
 have HW0 := jA hB.size
 have HB := jA hB
 clear hB
 have H := h
 unfold spec_l26Draw.f at H
 clear h
 replace H := jB.mp H
 obtain ⟨⟨t415, t418, t419⟩, A20, H⟩ := H
 try dsimp only at H
 have A2 := jA A20
 clear A20
 replace H := jB.mp H
 obtain ⟨⟨t420, t421, t424, t425⟩, A30, H⟩ := H
 try dsimp only at H
 have A3 := jA A30
 clear A30
 simp only [jN, jO] at H
 obtain ⟨rfl, rfl, rfl, rfl, rfl⟩ := H
 go_enter Try.func76, Try.ntmps76
 go_wp2_with (first | ((with_reducible refine jL (N := 3) rfl ?_); refine zE 3 #[.int .i64 0, .slice none 0 0] 28 ?_; intro gb414 hg w4 hbox hb; replace HB := jA (jV (zr3 HB HI0) hb); have BK414 := jA (hbox); have GW414 := jA ((by rw [hg]; exact (keep_size (w := w) (g := g) (row := none) (zh0 HK)) : w.heap.size ≤ gb414)); have GE414 := jA ((Nat.le_trans HW0.out (by rw [hg]; exact (keep_size (w := w) (g := g) (row := none) (zh0 HK)) : w.heap.size ≤ gb414) : w0.heap.size ≤ gb414)); replace HK := jA (KeepBut.trans (zh0 HK) (KeepBut.of_below hb g none) (.inl rfl)); have NB0_414 := jA ((by rw [hg]; exact Nat.ne_of_lt (IsS92.lt (show IsS92 w0 _ g s0_0 s0_1 s0_2 from zr2 HI0)) : g ≠ gb414)); have NB414_0 := jA ((by rw [hg]; exact Nat.ne_of_gt (IsS92.lt (show IsS92 w0 _ g s0_0 s0_1 s0_2 from zr2 HI0)) : gb414 ≠ g)); replace HI0 := jA (IsS92.below (zr2 HI0) hb); clear hb hbox hg) | ((with_reducible refine jD (f := 88) rfl ?_); refine zL (some 6) Try.func88 #[.pointer (some ⟨g, 0, none⟩)] ?_; (with_reducible refine (spec_l03List.calls k g s0_0 s0_1 s0_2 t415 t418 t419 w0 _ ?side1 ?side2 A2.out).mono ?_); (case side1 => exact zr4 HI0 NB0_414); (case side2 => exact zr5 HB HI0 GE414); rintro e w5 ⟨v416, rfl, ho0, hi, hb, hk⟩; refine ⟨_, rfl, ?_⟩; replace BK414 := zK hk BK414 NB414_0; have HO417 := jA (jU ho0 (keep_size (w := w) (g := g) (row := none) (zh1 HK GW414))); replace HK := jA (KeepBut.trans (zh1 HK GW414) hk (.inl rfl)); replace HB := jA (hb); replace HI0 := jA (hi); (try clear hb); (try clear hb2); (try clear hk); (try clear hi); (try clear ho0); obtain ⟨Ao6, co6, eo6⟩ := Kd.R_slice HO417.out; subst eo6) | ((with_reducible refine jD (f := 81) rfl ?_); refine zL (some 10) Try.func81 #[.pointer (some ⟨g, 0, none⟩), .slice Ao6 t415.length co6] ?_; (with_reducible refine (spec_l26For.calls k g s0_0 t418 t419 _ _ t415 t420 t421 t424 t425 w0 _ ?side1 ?side2 ?side3 ?side4 A3.out).mono ?_); (case side1 => exact zr4 HI0 NB0_414); (case side2 => exact zr5 HB HI0 GE414); (case side3 => exact Kd.C_foot_own (IsS92.apart (show IsS92 w0 _ g s0_0 t418 t419 from zr4 HI0 NB0_414) (zo HO417) (by decide)) (fun _ h_ => h_.2)); (case side4 => exact (jM HO417.out).2.1); rintro e w7 ⟨v422, rfl, ho0, hi, hb, hk⟩; refine ⟨_, rfl, ?_⟩; replace BK414 := zK hk BK414 NB414_0; replace HO417 := jA (Kd.R_mono (Kd.R_keep (IsS92.apart (show IsS92 w0 _ g s0_0 t418 t419 from zr4 HI0 NB0_414) (zo HO417) (by decide)) hk (fun _ h => h.2)) (fun _ h => h.1)); have HO423 := jA (jU ho0 (keep_size (w := w) (g := g) (row := none) (zh1 HK GW414))); replace HK := jA (KeepBut.trans (zh1 HK GW414) hk (.inl rfl)); replace HB := jA (hb); replace HI0 := jA (hi); (try clear hb); (try clear hb2); (try clear hk); (try clear hi); (try clear ho0); have hnb8 := NB414_0.out; have hnc8 := NB0_414.out; have hcz9 := zc2 BK414; obtain ⟨Ao10, co10, eo10⟩ := Kd.R_slice HO423.out; subst eo10))
 refine jX (results_tc rfl _ _ gb414 28 #[.int .i64 t420, .slice Ao10 t421.length co10] (0, 0) _ rfl (zP0 BK414) Try.underlying28 rfl zr) rfl ?_
 exact ⟨_, _, by first | rfl | (simp [errW_none, errW_some] <;> rfl) | (simp [*, errW_none, errW_some] <;> rfl), zT HO417 BK414, zT HO423 BK414, zr4 HI0 NB0_414, zr5 HB HI0 GE414, zh1 HK GW414⟩

end Go.Proofs.Ytdgglhfnlljmeaa.PFnMagazines
