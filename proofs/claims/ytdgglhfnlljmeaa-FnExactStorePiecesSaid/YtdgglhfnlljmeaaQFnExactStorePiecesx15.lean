/- Functions and contracts that FnExactStorePieces reaches (16 of 17). -/
import Derived.Test.YtdgglhfnlljmeaaQFnExactStorePiecesx14
namespace Go.Proofs.Ytdgglhfnlljmeaa.PFnExactStorePieces
open Go.RowKit Go.Proofs.YtdgglhfnlljmeaaW.PrintWords Go.Proofs.YtdgglhfnlljmeaaW.PrintLast Go.Proofs.YtdgglhfnlljmeaaW.PrintMore
attribute [local go_sem] max2_int min2_int max_two min_two max_three min_three max_four min_four   -- for this text's walks alone
set_option linter.unusedVariables false
set_option linter.unusedSimpArgs false
open Go.Proofs.YtdgglhfnlljmeaaX

/-! ### spec_l26Code: function 69 -/
def spec_l26Code.f (k : Nat) (l0 : List (S65)) (a1_0 : Int) (l1_1 : List Int) (a2 : ByteArray) (a3 : Int) : Option (Int) := (spec_IsMagazine.f k l0 a1_0 l1_1).bind fun t301 => (if t301 = true then ((spec_l01In.f a3 0 1000).bind fun t302 => (if t302 = true then ((spec_l03Find.f k l0 a2).bind fun t303 => (if t303 < 0 then (some 4) else (some 0))) else (some 2))) else (some 1))
theorem spec_l26Code.mono : ∀ a0 a1 a2 a3 a4 k, LeO (spec_l26Code.f k a0 a1 a2 a3 a4) (spec_l26Code.f (k + 1) a0 a1 a2 a3 a4) := by
 intro a0 a1 a2 a3 a4 k
 unfold spec_l26Code.f
 repeat' first
   | (with_reducible exact spec_IsMagazine.mono _ _ _ _)
   | (with_reducible exact spec_l03Find.mono _ _ _)
   | (with_reducible exact LeO.refl _)
   | (with_reducible exact LeO.none _)
   | (with_reducible refine LeO.ite ?_ ?_)
   | (with_reducible refine LeO.bind ?_ (fun _ => ?_))
   | exact spec_IsMagazine.mono _ _ _ _
   | exact spec_l03Find.mono _ _ _
   | exact LeO.none _
   | refine LeO.ite ?_ ?_
   | refine LeO.bind ?_ (fun _ => ?_)
set_option maxHeartbeats 8000000 in
set_option maxRecDepth 100000 in
theorem spec_l26Code.calls (k : Nat) (A0 : Option Addr) (c0 : Nat) (l0 : List (S65)) (a1_0 : Int) (A1_1 : Option Addr) (c1_1 : Nat) (l1_1 : List Int) (a2 : ByteArray) (a3 : Int) (r : Int) (w : World) (hr0 : Kd.C k65 w A0 l0.length l0) (hc0 : l0.length ≤ c0) (hr1_1 : Kd.C (Kd.int .i64) w A1_1 l1_1.length l1_1) (hc1_1 : l1_1.length ≤ c1_1) (h : spec_l26Code.f k l0 a1_0 l1_1 a2 a3 = some r) :
  Calls Try.prog 69 #[.slice A0 l0.length c0, .agg #[.int .i64 a1_0, .slice A1_1 l1_1.length c1_1], .string a2, .int .i64 a3] w fun e w' => e = .returned (.int .i64 r) ∧ Below w.heap.size w w' := by
 have hu28 := Try.underlying28
 have HR0 := jA hr0
 have HC0 := jA hc0
 clear hr0 hc0
 have HR1_1 := jA hr1_1
 have HC1_1 := jA hc1_1
 clear hr1_1 hc1_1
 have HB := jA (Below.refl w.heap.size w)
 have H : ((spec_IsMagazine.f k l0 a1_0 l1_1).bind fun t301 => (if t301 = true then ((spec_l01In.f a3 0 1000).bind fun t302 => (if t302 = true then ((spec_l03Find.f k l0 a2).bind fun t303 => (if t303 < 0 then (some 4) else (some 0))) else (some 2))) else (some 1))) = some r := h
 clear h
 replace H := jP.mp H
 obtain ⟨t301, A50, H⟩ := H
 replace H : (if t301 = true then ((spec_l01In.f a3 0 1000).bind fun t302 => (if t302 = true then ((spec_l03Find.f k l0 a2).bind fun t303 => (if t303 < 0 then (some 4) else (some 0))) else (some 2))) else (some 1)) = some r := H
 have A5 := jA A50
 clear A50
 by_cases c6 : t301 = true
 ·subst c6
  have H1 : ((spec_l01In.f a3 0 1000).bind fun t302 => (if t302 = true then ((spec_l03Find.f k l0 a2).bind fun t303 => (if t303 < 0 then (some 4) else (some 0))) else (some 2))) = some r := by rw [if_pos rfl] at H; exact H
  clear H
  have H := H1
  clear H1
  replace H := jP.mp H
  obtain ⟨t302, A70, H⟩ := H
  replace H : (if t302 = true then ((spec_l03Find.f k l0 a2).bind fun t303 => (if t303 < 0 then (some 4) else (some 0))) else (some 2)) = some r := H
  have A7 := jA A70
  clear A70
  by_cases c8 : t302 = true
  ·subst c8
   have H1 : ((spec_l03Find.f k l0 a2).bind fun t303 => (if t303 < 0 then (some 4) else (some 0))) = some r := by rw [if_pos rfl] at H; exact H
   clear H
   have H := H1
   clear H1
   replace H := jP.mp H
   obtain ⟨t303, A90, H⟩ := H
   replace H : (if t303 < 0 then (some 4) else (some 0)) = some r := H
   have A9 := jA A90
   clear A90
   by_cases c10 : t303 < 0
   ·rw [if_pos c10] at H
    have c10b0 : decide (t303 < 0) = true := jQ c10
    clear c10
    obtain rfl := jM H
    go_enter Try.func69, Try.ntmps69
    go_wp2_with (first | ((with_reducible refine jV (N := 5) rfl ?_); refine jU ?hg (N := 5) ?hd (cs := #[.int .i64 a1_0, .slice A1_1 l1_1.length c1_1]) (t := 28) ?hr ?_; (case hd => rfl); (case hg => rfl); (case hr => first | (go_simp; done) | (go_simp; rfl)); intro gb300 hg w11 hbox hb; have n0_ := jA (jJ (zb0 HB) hb); have n1_ := jA (hbox); have n2_ := jA ((by rw [hg]; exact (jF (zb0 HB)) : w.heap.size ≤ gb300)); have n3_ := jA ((by rw [hg]; exact (jF (zb0 HB)) : w.heap.size ≤ gb300)); clear HB; have HB := n0_; have BK300 := n1_; have GW300 := n2_; have GE300 := n3_; clear n0_ n1_ n2_ n3_; clear hb hbox hg; have hcz12_0 : w11.cell? ⟨gb300, 0, none⟩ = some (.int .i64 a1_0) := (jD BK300.out 0).trans rfl; have hcz12_1 : w11.cell? ⟨gb300, 1, none⟩ = some (.slice A1_1 l1_1.length c1_1) := (jD BK300.out 1).trans rfl; have hfz12_0 := jC BK300.out 0; have hfz12_1 := jC BK300.out 1) | ((with_reducible refine jW (f := 25) rfl ?_); refine goesL_ (some 12) rfl rfl Try.func25 zr rfl #[.slice A0 l0.length c0, .agg #[.int .i64 a1_0, .slice A1_1 l1_1.length c1_1]] rfl zm ?_; (with_reducible refine (spec_IsMagazine.calls k _ _ l0 a1_0 _ _ l1_1 true _ ?side1 ?side2 ?side3 ?side4 A5.out).mono ?_); (case side1 => exact zs HR0 HB); (case side2 => exact HC0.out); (case side3 => exact zs HR1_1 HB); (case side4 => exact HC1_1.out); rintro e w13 ⟨rfl, hb⟩; refine ⟨_, rfl, ?_⟩; have n0_ := jA (jO (g := gb300) (o := .cells #[.int .i64 a1_0, .slice A1_1 l1_1.length c1_1] 28 (0, 0)) (zk BK300) hb); have n1_ := jA (jJ (zb1 HB GE300) hb); clear BK300; clear HB; have BK300 := n0_; have HB := n1_; clear n0_ n1_; (try clear hb); (try clear hb2); (try clear hk); (try clear hi)) | ((with_reducible refine jW (f := 58) rfl ?_); refine goesL_ (some 16) rfl rfl Try.func58 zr rfl #[.int .i64 a3, .int .i64 0, .int .i64 1000] rfl zm ?_; (with_reducible refine (spec_l01In.calls a3 0 1000 true _ A7.out).mono ?_); rintro e w' ⟨rfl, ⟨nd, rfl⟩⟩; refine ⟨_, rfl, ?_⟩) | ((with_reducible refine jW (f := 73) rfl ?_); refine goesL_ (some 21) rfl rfl Try.func73 zr rfl #[.slice A0 l0.length c0, .string a2] rfl zm ?_; (with_reducible refine (spec_l03Find.calls k _ _ l0 a2 t303 _ ?side1 ?side2 A9.out).mono ?_); (case side1 => repeat (first | exact HR0.out | exact (Kd.C_below HR0.out (zb1 HB GE300)) | (with_reducible refine Kd.C_alloc ?_ _) | (with_reducible refine Kd.C_drewN ?_ _) | (with_reducible refine Kd.C_drew ?_))); (case side2 => exact HC0.out); rintro e w' ⟨rfl, ⟨nd, rfl⟩⟩; refine ⟨_, rfl, ?_⟩))
    go_ret
    exact ⟨by first | rfl | (simp [errW_none, errW_some] <;> rfl) | (simp [*, errW_none, errW_some] <;> rfl), zb1 HB GE300⟩
   ·rw [if_neg c10] at H
    have c10b0 : decide (t303 < 0) = false := jY c10
    clear c10
    obtain rfl := jM H
    go_enter Try.func69, Try.ntmps69
    go_wp2_with (first | ((with_reducible refine jV (N := 5) rfl ?_); refine jU ?hg (N := 5) ?hd (cs := #[.int .i64 a1_0, .slice A1_1 l1_1.length c1_1]) (t := 28) ?hr ?_; (case hd => rfl); (case hg => rfl); (case hr => first | (go_simp; done) | (go_simp; rfl)); intro gb300 hg w14 hbox hb; have n0_ := jA (jJ (zb0 HB) hb); have n1_ := jA (hbox); have n2_ := jA ((by rw [hg]; exact (jF (zb0 HB)) : w.heap.size ≤ gb300)); have n3_ := jA ((by rw [hg]; exact (jF (zb0 HB)) : w.heap.size ≤ gb300)); clear HB; have HB := n0_; have BK300 := n1_; have GW300 := n2_; have GE300 := n3_; clear n0_ n1_ n2_ n3_; clear hb hbox hg; have hcz15_0 : w14.cell? ⟨gb300, 0, none⟩ = some (.int .i64 a1_0) := (jD BK300.out 0).trans rfl; have hcz15_1 : w14.cell? ⟨gb300, 1, none⟩ = some (.slice A1_1 l1_1.length c1_1) := (jD BK300.out 1).trans rfl; have hfz15_0 := jC BK300.out 0; have hfz15_1 := jC BK300.out 1) | ((with_reducible refine jW (f := 25) rfl ?_); refine goesL_ (some 12) rfl rfl Try.func25 zr rfl #[.slice A0 l0.length c0, .agg #[.int .i64 a1_0, .slice A1_1 l1_1.length c1_1]] rfl zm ?_; (with_reducible refine (spec_IsMagazine.calls k _ _ l0 a1_0 _ _ l1_1 true _ ?side1 ?side2 ?side3 ?side4 A5.out).mono ?_); (case side1 => exact zs HR0 HB); (case side2 => exact HC0.out); (case side3 => exact zs HR1_1 HB); (case side4 => exact HC1_1.out); rintro e w16 ⟨rfl, hb⟩; refine ⟨_, rfl, ?_⟩; have n0_ := jA (jO (g := gb300) (o := .cells #[.int .i64 a1_0, .slice A1_1 l1_1.length c1_1] 28 (0, 0)) (zk BK300) hb); have n1_ := jA (jJ (zb1 HB GE300) hb); clear BK300; clear HB; have BK300 := n0_; have HB := n1_; clear n0_ n1_; (try clear hb); (try clear hb2); (try clear hk); (try clear hi)) | ((with_reducible refine jW (f := 58) rfl ?_); refine goesL_ (some 16) rfl rfl Try.func58 zr rfl #[.int .i64 a3, .int .i64 0, .int .i64 1000] rfl zm ?_; (with_reducible refine (spec_l01In.calls a3 0 1000 true _ A7.out).mono ?_); rintro e w' ⟨rfl, ⟨nd, rfl⟩⟩; refine ⟨_, rfl, ?_⟩) | ((with_reducible refine jW (f := 73) rfl ?_); refine goesL_ (some 21) rfl rfl Try.func73 zr rfl #[.slice A0 l0.length c0, .string a2] rfl zm ?_; (with_reducible refine (spec_l03Find.calls k _ _ l0 a2 t303 _ ?side1 ?side2 A9.out).mono ?_); (case side1 => repeat (first | exact HR0.out | exact (Kd.C_below HR0.out (zb1 HB GE300)) | (with_reducible refine Kd.C_alloc ?_ _) | (with_reducible refine Kd.C_drewN ?_ _) | (with_reducible refine Kd.C_drew ?_))); (case side2 => exact HC0.out); rintro e w' ⟨rfl, ⟨nd, rfl⟩⟩; refine ⟨_, rfl, ?_⟩))
    go_ret
    exact ⟨by first | rfl | (simp [errW_none, errW_some] <;> rfl) | (simp [*, errW_none, errW_some] <;> rfl), zb1 HB GE300⟩
  ·replace c8 := Bool.eq_false_iff.mpr c8
   subst c8
   have H1 : (some 2) = some r := by rw [if_neg (show ¬ (false = true) by decide)] at H; exact H
   clear H
   have H := H1
   clear H1
   obtain rfl := jM H
   go_enter Try.func69, Try.ntmps69
   go_wp2_with (first | ((with_reducible refine jV (N := 5) rfl ?_); refine jU ?hg (N := 5) ?hd (cs := #[.int .i64 a1_0, .slice A1_1 l1_1.length c1_1]) (t := 28) ?hr ?_; (case hd => rfl); (case hg => rfl); (case hr => first | (go_simp; done) | (go_simp; rfl)); intro gb300 hg w17 hbox hb; have n0_ := jA (jJ (zb0 HB) hb); have n1_ := jA (hbox); have n2_ := jA ((by rw [hg]; exact (jF (zb0 HB)) : w.heap.size ≤ gb300)); have n3_ := jA ((by rw [hg]; exact (jF (zb0 HB)) : w.heap.size ≤ gb300)); clear HB; have HB := n0_; have BK300 := n1_; have GW300 := n2_; have GE300 := n3_; clear n0_ n1_ n2_ n3_; clear hb hbox hg; have hcz18_0 : w17.cell? ⟨gb300, 0, none⟩ = some (.int .i64 a1_0) := (jD BK300.out 0).trans rfl; have hcz18_1 : w17.cell? ⟨gb300, 1, none⟩ = some (.slice A1_1 l1_1.length c1_1) := (jD BK300.out 1).trans rfl; have hfz18_0 := jC BK300.out 0; have hfz18_1 := jC BK300.out 1) | ((with_reducible refine jW (f := 25) rfl ?_); refine goesL_ (some 12) rfl rfl Try.func25 zr rfl #[.slice A0 l0.length c0, .agg #[.int .i64 a1_0, .slice A1_1 l1_1.length c1_1]] rfl zm ?_; (with_reducible refine (spec_IsMagazine.calls k _ _ l0 a1_0 _ _ l1_1 true _ ?side1 ?side2 ?side3 ?side4 A5.out).mono ?_); (case side1 => exact zs HR0 HB); (case side2 => exact HC0.out); (case side3 => exact zs HR1_1 HB); (case side4 => exact HC1_1.out); rintro e w19 ⟨rfl, hb⟩; refine ⟨_, rfl, ?_⟩; have n0_ := jA (jO (g := gb300) (o := .cells #[.int .i64 a1_0, .slice A1_1 l1_1.length c1_1] 28 (0, 0)) (zk BK300) hb); have n1_ := jA (jJ (zb1 HB GE300) hb); clear BK300; clear HB; have BK300 := n0_; have HB := n1_; clear n0_ n1_; (try clear hb); (try clear hb2); (try clear hk); (try clear hi)) | ((with_reducible refine jW (f := 58) rfl ?_); refine goesL_ (some 16) rfl rfl Try.func58 zr rfl #[.int .i64 a3, .int .i64 0, .int .i64 1000] rfl zm ?_; (with_reducible refine (spec_l01In.calls a3 0 1000 false _ A7.out).mono ?_); rintro e w' ⟨rfl, ⟨nd, rfl⟩⟩; refine ⟨_, rfl, ?_⟩))
   go_ret
   exact ⟨by first | rfl | (simp [errW_none, errW_some] <;> rfl) | (simp [*, errW_none, errW_some] <;> rfl), zb1 HB GE300⟩
 ·replace c6 := Bool.eq_false_iff.mpr c6
  subst c6
  have H1 : (some 1) = some r := by rw [if_neg (show ¬ (false = true) by decide)] at H; exact H
  clear H
  have H := H1
  clear H1
  obtain rfl := jM H
  go_enter Try.func69, Try.ntmps69
  go_wp2_with (first | ((with_reducible refine jV (N := 5) rfl ?_); refine jU ?hg (N := 5) ?hd (cs := #[.int .i64 a1_0, .slice A1_1 l1_1.length c1_1]) (t := 28) ?hr ?_; (case hd => rfl); (case hg => rfl); (case hr => first | (go_simp; done) | (go_simp; rfl)); intro gb300 hg w20 hbox hb; have n0_ := jA (jJ (zb0 HB) hb); have n1_ := jA (hbox); have n2_ := jA ((by rw [hg]; exact (jF (zb0 HB)) : w.heap.size ≤ gb300)); have n3_ := jA ((by rw [hg]; exact (jF (zb0 HB)) : w.heap.size ≤ gb300)); clear HB; have HB := n0_; have BK300 := n1_; have GW300 := n2_; have GE300 := n3_; clear n0_ n1_ n2_ n3_; clear hb hbox hg; have hcz21_0 : w20.cell? ⟨gb300, 0, none⟩ = some (.int .i64 a1_0) := (jD BK300.out 0).trans rfl; have hcz21_1 : w20.cell? ⟨gb300, 1, none⟩ = some (.slice A1_1 l1_1.length c1_1) := (jD BK300.out 1).trans rfl; have hfz21_0 := jC BK300.out 0; have hfz21_1 := jC BK300.out 1) | ((with_reducible refine jW (f := 25) rfl ?_); refine goesL_ (some 12) rfl rfl Try.func25 zr rfl #[.slice A0 l0.length c0, .agg #[.int .i64 a1_0, .slice A1_1 l1_1.length c1_1]] rfl zm ?_; (with_reducible refine (spec_IsMagazine.calls k _ _ l0 a1_0 _ _ l1_1 false _ ?side1 ?side2 ?side3 ?side4 A5.out).mono ?_); (case side1 => exact zs HR0 HB); (case side2 => exact HC0.out); (case side3 => exact zs HR1_1 HB); (case side4 => exact HC1_1.out); rintro e w22 ⟨rfl, hb⟩; refine ⟨_, rfl, ?_⟩; have n0_ := jA (jO (g := gb300) (o := .cells #[.int .i64 a1_0, .slice A1_1 l1_1.length c1_1] 28 (0, 0)) (zk BK300) hb); have n1_ := jA (jJ (zb1 HB GE300) hb); clear BK300; clear HB; have BK300 := n0_; have HB := n1_; clear n0_ n1_; (try clear hb); (try clear hb2); (try clear hk); (try clear hi)))
  go_ret
  exact ⟨by first | rfl | (simp [errW_none, errW_some] <;> rfl) | (simp [*, errW_none, errW_some] <;> rfl), zb1 HB GE300⟩

/-! ### spec_l01Own: function 86 -/
def spec_l01Own.f (l0 : List Int) : Option (List Int) := (some (([] : List Int) : List Int)).bind fun y304 => (if y304.length + l0.length < 17592186044416 then (some (y304 ++ l0)) else (none))
set_option maxHeartbeats 8000000 in
set_option maxRecDepth 100000 in
theorem spec_l01Own.calls (A0 : Option Addr) (c0 : Nat) (l0 : List Int) (r : List Int) (w : World) (hr0 : Kd.C (Kd.int .i64) w A0 l0.length l0) (hc0 : l0.length ≤ c0) (h : spec_l01Own.f l0 = some r) :
  Calls Try.prog 86 #[.slice A0 l0.length c0] w fun e w' => ∃ v0_ : Value, e = .returned (v0_) ∧ Kd.R (Kd.int .i64) 2 w' w.heap.size (fun _ => True) v0_ r ∧ Below w.heap.size w w' := by
 have HR0 := jA hr0
 have HC0 := jA hc0
 clear hr0 hc0
 have HB := jA (Below.refl w.heap.size w)
 have H : ((some (([] : List Int) : List Int)).bind fun y304 => (if y304.length + l0.length < 17592186044416 then (some (y304 ++ l0)) else (none))) = some r := h
 clear h
 obtain ⟨y304, hy304⟩ : ∃ y_ : List Int, y_ = (([] : List Int)) := ⟨_, rfl⟩
 replace H : (if y304.length + l0.length < 17592186044416 then (some (y304 ++ l0)) else (none)) = some r := by first | (rw [hy304]; with_reducible exact H) | (have H2_ := (Option.bind_some _ _).symm.trans H; rw [hy304]; with_reducible exact H2_) | (have H2_ := (Option.bind_some _ _).symm.trans H; with_reducible exact H2_) | with_reducible exact H | (rw [hy304]; exact H) | exact H
 have Ny304 := jA hy304
 clear hy304
 by_cases c2 : y304.length + l0.length < 17592186044416
 ·rw [if_pos c2] at H
  have LMc2 := jA c2
  clear c2
  obtain ⟨y307, hy307⟩ : ∃ y_ : List Int, y_ = (y304 ++ l0) := ⟨_, rfl⟩
  replace H : (some y307) = some r := by first | (rw [hy307]; with_reducible exact H) | (have H2_ := (Option.bind_some _ _).symm.trans H; rw [hy307]; with_reducible exact H2_) | (have H2_ := (Option.bind_some _ _).symm.trans H; with_reducible exact H2_) | with_reducible exact H | (rw [hy307]; exact H) | exact H
  have Ny307 := jA hy307
  clear hy307
  obtain rfl := jM H
  go_enter Try.func86, Try.ntmps86
  go_wp2_with (first | ((with_reducible refine jV (N := 3) rfl ?_); refine Kd.R_lit (Kd.int .i64) _ 2 ?hg (N := 3) ?hd (xs := ([] : List Int)) (inner := []) (ok := fun _ => True) (okp := fun _ => True) ?hr ?hp (fun _ hk => hk) trivial (Below.refl _ _) (Nat.le_refl _) (by simp) ?_; (case hd => rfl); (case hg => rfl); (case hr => first | (go_simp; done) | (go_simp; rfl)); (case hp => exact (Reps.none _ _)); intro v305 w3 ho4 hb hg_ hnew_; clear hg_ hnew_; (first | rw [← Ny304.out] at ho4 | (simp only [Int.reduceToNat] at ho4; rw [← Ny304.out] at ho4)); have n0_ := jA (Kd.R_lower ho4 (jF (zb0 HB))); have n1_ := jA (jJ (zb0 HB) hb); clear HB; have HO306 := n0_; have HB := n1_; clear n0_ n1_; clear hb ho4) | ((with_reducible refine gate_builtin (b := .append) (xs := #[.tmp 3, .tmp 4]) rfl ?_); at_builtin; refine Kd.R_append_rows (Kd.int .i64) (w0 := w) w.heap.size rfl (.tmp 3) (.tmp 4) 23 2 (.int .i64 0) 8 rfl Try.underlying23 info2 rfl (by decide) (by omega) v305 y304 l0 _ _ _ (fun _ => True) (fun _ => False) rfl rfl ?aO ?aR (fun _ _ h => h) (fun _ h => h.elim) ?aF ?aB ?aS ?aL ?_; (case aR => repeat (first | exact HR0.out | exact (Kd.C_below HR0.out HB.out) | (with_reducible refine Kd.C_alloc ?_ _) | (with_reducible refine Kd.C_drewN ?_ _) | (with_reducible refine Kd.C_drew ?_))); (case aB => exact (zb0 HB)); (case aF => exact (fun _ _ => trivial)); (case aO => exact (zo HO306)); (case aS => exact (jF (zb0 HB))); (case aL => have := LMc2.out; omega); intro v308 w5 ho hb hg hat; rw [← Ny307.out] at ho; have n0_ := jA (hb); have n1_ := jA (ho); clear HB; clear HO306; have HB := n0_; have HO309 := n1_; clear n0_ n1_; clear ho hb hg hat))
  go_ret
  exact ⟨_, by first | rfl | (simp [errW_none, errW_some] <;> rfl) | (simp [*, errW_none, errW_some] <;> rfl), by (with_reducible repeat (first | apply Kd.R_alloc | apply Kd.R_drewN | apply Kd.R_drew)); exact HO309.out, zb0 HB⟩
 ·rw [if_neg c2] at H
  exact absurd H (by simp)

/-! ### spec_l26With: function 72 -/
def spec_l26With.f (a0_0 : Int) (l0_1 : List Int) (a1 : Int) (a2 : Int) : Option (Int × List Int) := (spec_l01Own.f l0_1).bind fun t312 => (if 0 ≤ a1 then (if a1 < (t312.length : Int) then (some (a0_0, (t312.set (a1 : Int).toNat (wrap64 ((rd t312 a1) + a2))))) else (none)) else (none))
def spec_l26With.T1 : Bool × List (List Nat × List Nat) := (true, [([], []), ([0], [0]), ([], []), ([2], [2]), ([3], [3]), ([1, 4], [1, 4]), ([], []), ([6, 5, 4, 0, 1, 2, 3, 4, 5, 6], [5, 6])])
def spec_l26With.B1 : List Nat := [0, 1, 0, 4, 12, 31, 0, 127]
theorem spec_l26With.tab1 : rtab .any (opsOf Try.f72 1) = spec_l26With.T1 := by kernel_rfl
theorem spec_l26With.bits1 : waitsOk spec_l26With.T1.2 spec_l26With.B1 = true := by kernel_rfl
def spec_l26With.T2 : Bool × List (List Nat × List Nat) := (true, [([], []), ([0], [0]), ([], []), ([], []), ([3], [3]), ([], []), ([4, 5], [4, 5]), ([6], [6]), ([], []), ([7, 8], [7, 8]), ([1, 2, 0, 1, 2, 3, 4, 5, 6, 7, 8, 9], [1, 2]), ([10, 9, 0, 1, 2, 3, 4, 5, 6, 7, 8, 9], [9, 10])])
def spec_l26With.B2 : List Nat := [0, 1, 0, 0, 8, 0, 56, 120, 0, 504, 1023, 2047]
theorem spec_l26With.tab2 : rtab .any (opsOf Try.f72 2) = spec_l26With.T2 := by kernel_rfl
theorem spec_l26With.bits2 : waitsOk spec_l26With.T2.2 spec_l26With.B2 = true := by kernel_rfl
set_option maxHeartbeats 8000000 in
set_option maxRecDepth 100000 in
theorem spec_l26With.calls (a0_0 : Int) (A0_1 : Option Addr) (c0_1 : Nat) (l0_1 : List Int) (a1 : Int) (a2 : Int) (r1 : Int) (r2 : List Int) (w : World) (hr0_1 : Kd.C (Kd.int .i64) w A0_1 l0_1.length l0_1) (hc0_1 : l0_1.length ≤ c0_1) (h : spec_l26With.f a0_0 l0_1 a1 a2 = some (r1, r2)) :
  Calls Try.prog 72 #[.agg #[.int .i64 a0_0, .slice A0_1 l0_1.length c0_1], .int .i64 a1, .int .i64 a2] w fun e w' => ∃ v1_ : Value, e = .returned (.agg #[.int .i64 r1, v1_]) ∧ Kd.R (Kd.int .i64) 2 w' w.heap.size (fun _ => True) v1_ r2 ∧ Below w.heap.size w w' := by
 have hu28 := Try.underlying28
 have HR0_1 := jA hr0_1
 have HC0_1 := jA hc0_1
 clear hr0_1 hc0_1
 have HB := jA (Below.refl w.heap.size w)
 have H : ((spec_l01Own.f l0_1).bind fun t312 => (if 0 ≤ a1 then (if a1 < (t312.length : Int) then (some (a0_0, (t312.set (a1 : Int).toNat (wrap64 ((rd t312 a1) + a2))))) else (none)) else (none))) = some (r1, r2) := h
 clear h
 replace H := jP.mp H
 obtain ⟨t312, A40, H⟩ := H
 replace H : (if 0 ≤ a1 then (if a1 < (t312.length : Int) then (some (a0_0, (t312.set (a1 : Int).toNat (wrap64 ((rd t312 a1) + a2))))) else (none)) else (none)) = some (r1, r2) := H
 have A4 := jA A40
 clear A40
 by_cases c5 : 0 ≤ a1
 ·rw [if_pos c5] at H
  have c5b0 : decide (0 ≤ a1) = true := jQ c5
  clear c5
  by_cases c6 : a1 < (t312.length : Int)
  ·rw [if_pos c6] at H
   have c6b0 : decide (a1 < (t312.length : Int)) = true := jQ c6
   clear c6
   obtain ⟨y317, hy317⟩ : ∃ y_ : List Int, y_ = (t312.set (a1 : Int).toNat (wrap64 ((rd t312 a1) + a2))) := ⟨_, rfl⟩
   replace H : (some (a0_0, y317)) = some (r1, r2) := by first | (rw [hy317]; with_reducible exact H) | (have H2_ := (Option.bind_some _ _).symm.trans H; rw [hy317]; with_reducible exact H2_) | (have H2_ := (Option.bind_some _ _).symm.trans H; with_reducible exact H2_) | with_reducible exact H | (rw [hy317]; exact H) | exact H
   have Ny317 := jA hy317
   clear hy317
   simp only [Option.some.injEq, Prod.mk.injEq] at H
   obtain ⟨rfl, rfl⟩ := H
   go_enter Try.func72, Try.ntmps72
   try go_wp2_with (first | ((with_reducible refine jV (N := 3) rfl ?_); refine jU ?hg (N := 3) ?hd (cs := #[.int .i64 a0_0, .slice A0_1 l0_1.length c0_1]) (t := 28) ?hr ?_; (case hd => rfl); (case hg => rfl); (case hr => first | (go_simp; done) | (go_simp; rfl)); intro gb310 hg w8 hbox hb; have n0_ := jA (jJ (zb0 HB) hb); have n1_ := jA (hbox); have n2_ := jA ((by rw [hg]; exact (jF (zb0 HB)) : w.heap.size ≤ gb310)); have n3_ := jA ((by rw [hg]; exact (jF (zb0 HB)) : w.heap.size ≤ gb310)); clear HB; have HB := n0_; have BK310 := n1_; have GW310 := n2_; have GE310 := n3_; clear n0_ n1_ n2_ n3_; clear hb hbox hg) | ((with_reducible refine jV (N := 6) rfl ?_); refine jU ?hg (N := 6) ?hd (cs := #[.int .i64 0, .slice none 0 0]) (t := 28) ?hr ?_; (case hd => rfl); (case hg => rfl); (case hr => first | (go_simp; done) | (go_simp; rfl)); intro gb311 hg w9 hbox hb; have n0_ := jA (jO (g := gb310) (o := .cells #[.int .i64 a0_0, .slice A0_1 l0_1.length c0_1] 28 (0, 0)) (zk BK310) hb); have n1_ := jA (jJ (zb1 HB GE310) hb); have n2_ := jA (hbox); have n3_ := jA ((by rw [hg]; exact (jF (zb1 HB GE310)) : w.heap.size ≤ gb311)); have n4_ := jA ((by rw [hg]; exact (jF (zb1 HB GE310)) : w.heap.size ≤ gb311)); have n5_ := jA ((by rw [hg]; exact jN (blk_lt (g := gb310) (o := .cells #[.int .i64 a0_0, .slice A0_1 l0_1.length c0_1] 28 (0, 0)) (zk BK310)) : gb310 ≠ gb311)); have n6_ := jA n5_.out.symm; clear BK310; clear HB; have BK310 := n0_; have HB := n1_; have BK311 := n2_; have GW311 := n3_; have GE311 := n4_; have NB310_311 := n5_; have NB311_310 := n6_; clear n0_ n1_ n2_ n3_ n4_ n5_ n6_; clear hb hbox hg))
   have n0_ := jA (jI BK310.out)
   have n1_ := jA (jI BK311.out)
   have n2_ := jA (below_drew1 HB.out)
   clear BK310
   clear BK311
   clear HB
   have BK310 := n0_
   have BK311 := n1_
   have HB := n2_
   clear n0_ n1_ n2_
   refine start_ (n := 8) (S := fun w' => w'.cell? ⟨gb310, 0, none⟩ = some (.int .i64 a0_0) ∧ w'.cell? ⟨gb310, 1, none⟩ = some (.slice A0_1 l0_1.length c0_1)) (ds := []) m8_0 zr rfl rfl ⟨(jD BK310.out 0).trans rfl, (jD BK310.out 1).trans rfl⟩ (fun hHeld => ?_); refine with_tabW spec_l26With.tab1 spec_l26With.bits1 (fun HT_ HW_ => ?_)
   generalize w9.drew = w10 at BK310 BK311 HB hHeld ⊢
   refine zp HT_ 0 8 m8_80 ?_
   refine zp HT_ 2 10 m8_a0 ?_
   refine zt2 HT_ HW_ hHeld 1 9 m8_e0 ?_
   refine zt2 HT_ HW_ hHeld 3 11 m8_f0 ?_
   refine join_ (σ := Value × Nat) 1 m8_fe (fun s_ => [(12, s_.1), (7, .pointer (some ⟨s_.2, 0, none⟩)), (13, .agg #[.int .i64 a0_0, s_.1])]) (fun s_ w' => (w'.cell? ⟨gb310, 0, none⟩ = some (.int .i64 a0_0) ∧ w'.cell? ⟨gb310, 1, none⟩ = some (.slice A0_1 l0_1.length c0_1)) ∧ (Kd.R (Kd.int .i64) 2 w' w.heap.size (fun _ => True) s_.1 t312) ∧ (w'.heap[gb310]? = some (.cells #[.int .i64 a0_0, .slice A0_1 l0_1.length c0_1] 28 (0, 0))) ∧ (w'.heap[gb311]? = some (.cells #[.int .i64 0, .slice none 0 0] 28 (0, 0))) ∧ (w'.heap[s_.2]? = some (.cells #[.int .i64 0, .slice none 0 0] 28 (0, 0))) ∧ (w.heap.size ≤ s_.2) ∧ (w.heap.size ≤ s_.2) ∧ (gb310 ≠ s_.2) ∧ (s_.2 ≠ gb310) ∧ (gb311 ≠ s_.2) ∧ (s_.2 ≠ gb311) ∧ (Below w.heap.size w w')) ?_ ?_
   rotate_left
   ·intro hCont
    refine two_ (i := 4) (j := 6) (Ni := some 12) (Nj := some 7) m8_f8 m8_f2 rfl rfl rfl rfl (two_of HT_.out zr) (by decide) (by decide) (fun K hK => ?_) (fun K hK => ?_)
    ·skip
     refine goes_ Try.func86 zr rfl #[.slice A0_1 l0_1.length c0_1] (by rfl) rfl rfl zm ?_
     with_reducible refine (spec_l01Own.calls _ _ l0_1 t312 _ ?side1 ?side2 A4.out).mono ?_
     (case side1 => exact zs HR0_1 HB)
     (case side2 => exact HC0_1.out)
     rintro e w11 ⟨v313, rfl, ho0, hb⟩
     refine ⟨_, rfl, ?_⟩
     have n0_ := jA (Kd.R_lower ho0 (jF (zb2 HB GE310 GE311)))
     have n1_ := jA (jO (g := gb310) (o := .cells #[.int .i64 a0_0, .slice A0_1 l0_1.length c0_1] 28 (0, 0)) (zk BK310) hb)
     have n2_ := jA (jO (g := gb311) (o := .cells #[.int .i64 0, .slice none 0 0] 28 (0, 0)) (zk BK311) hb)
     have n3_ := jA (jJ (zb2 HB GE310 GE311) hb)
     clear BK310
     clear BK311
     clear HB
     have HO314 := n0_
     have BK310 := n1_
     have BK311 := n2_
     have HB := n3_
     clear n0_ n1_ n2_ n3_
     (try clear hb)
     (try clear hb2)
     (try clear hk)
     (try clear hi)
     (try clear ho0)
     obtain ⟨Ao12, co12, eo12⟩ := Kd.R_slice HO314.out
     (first | subst eo12 | (injection eo12 with f1_ f2_ f3_; have f4_ := f1_.symm; have f5_ := f3_.symm; clear f1_ f2_ f3_; subst f4_; subst f5_))
     refine hK.out _ _ ⟨(jD BK310.out 0).trans rfl, (jD BK310.out 1).trans rfl⟩ (fun hHeld => ?_)
     clear hK K
     refine norm_ (a' := ?_) ?_ ?_
     rotate_left
     ·show Act.put _ (some 12) _ = _
      simp only [Act.put, jL, jS, jT, i64_w, i32_w]
      rfl
     refine zp HT_ 5 13 m8_fc ?_
     refine one_ (i := 6) (N := some 7) m8_fe rfl rfl (one_of HT_.out zr) (by decide) (fun K hK => ?_)
     refine box_step ?hg (N := 7) ?hd (cs := #[.int .i64 0, .slice none 0 0]) (t := 28) ?hr ?_; (case hd => rfl); (case hg => rfl); (case hr => first | (go_simp; done) | (go_simp; rfl))
     intro gb315 hg w13 hbox hb
     have n0_ := jA (Kd.R_below (zo HO314) hb)
     have n1_ := jA (jO (g := gb310) (o := .cells #[.int .i64 a0_0, .slice A0_1 l0_1.length c0_1] 28 (0, 0)) (zk BK310) hb)
     have n2_ := jA (jO (g := gb311) (o := .cells #[.int .i64 0, .slice none 0 0] 28 (0, 0)) (zk BK311) hb)
     have n3_ := jA (jJ (zb2 HB GE310 GE311) hb)
     have n4_ := jA (hbox)
     have n5_ := jA ((by rw [hg]; exact (jF (zb2 HB GE310 GE311)) : w.heap.size ≤ gb315))
     have n6_ := jA ((by rw [hg]; exact (jF (zb2 HB GE310 GE311)) : w.heap.size ≤ gb315))
     have n7_ := jA ((by rw [hg]; exact jN (blk_lt (g := gb310) (o := .cells #[.int .i64 a0_0, .slice A0_1 l0_1.length c0_1] 28 (0, 0)) (zk BK310)) : gb310 ≠ gb315))
     have n8_ := jA ((by rw [hg]; exact Nat.ne_of_gt (blk_lt (g := gb310) (o := .cells #[.int .i64 a0_0, .slice A0_1 l0_1.length c0_1] 28 (0, 0)) (zk BK310)) : gb315 ≠ gb310))
     have n9_ := jA ((by rw [hg]; exact jN (blk_lt (g := gb311) (o := .cells #[.int .i64 0, .slice none 0 0] 28 (0, 0)) (zk BK311)) : gb311 ≠ gb315))
     have n10_ := jA ((by rw [hg]; exact Nat.ne_of_gt (blk_lt (g := gb311) (o := .cells #[.int .i64 0, .slice none 0 0] 28 (0, 0)) (zk BK311)) : gb315 ≠ gb311))
     clear HO314
     clear BK310
     clear BK311
     clear HB
     have HO314 := n0_
     have BK310 := n1_
     have BK311 := n2_
     have HB := n3_
     have BK315 := n4_
     have GW315 := n5_
     have GE315 := n6_
     have NB310_315 := n7_
     have NB315_310 := n8_
     have NB311_315 := n9_
     have NB315_311 := n10_
     clear n0_ n1_ n2_ n3_ n4_ n5_ n6_ n7_ n8_ n9_ n10_
     clear hb hbox hg
     refine hK.out _ _ ⟨(jD BK310.out 0).trans rfl, (jD BK310.out 1).trans rfl⟩ (fun hHeld => ?_)
     clear hK K
     refine norm_ (a' := ?_) ?_ ?_
     rotate_left
     ·show Act.put _ (some 7) _ = _
      simp only [Act.put, jL, jS, jT, i64_w, i32_w]
      rfl
     exact norm_ (by simp only [putAll, Act.put, jL, jS, jT]) (hCont (.slice Ao12 t312.length co12, gb315) _ ⟨hHeld, (zo HO314), (zk BK310), (zk BK311), (zk BK315), GW315.out, GE315.out, NB310_315.out, NB315_310.out, NB311_315.out, NB315_311.out, (zb3 HB GE310 GE311 GE315)⟩)
    ·skip
     refine box_step ?hg (N := 7) ?hd (cs := #[.int .i64 0, .slice none 0 0]) (t := 28) ?hr ?_; (case hd => rfl); (case hg => rfl); (case hr => first | (go_simp; done) | (go_simp; rfl))
     intro gb315 hg w11 hbox hb
     have n0_ := jA (jO (g := gb310) (o := .cells #[.int .i64 a0_0, .slice A0_1 l0_1.length c0_1] 28 (0, 0)) (zk BK310) hb)
     have n1_ := jA (jO (g := gb311) (o := .cells #[.int .i64 0, .slice none 0 0] 28 (0, 0)) (zk BK311) hb)
     have n2_ := jA (jJ (zb2 HB GE310 GE311) hb)
     have n3_ := jA (hbox)
     have n4_ := jA ((by rw [hg]; exact (jF (zb2 HB GE310 GE311)) : w.heap.size ≤ gb315))
     have n5_ := jA ((by rw [hg]; exact (jF (zb2 HB GE310 GE311)) : w.heap.size ≤ gb315))
     have n6_ := jA ((by rw [hg]; exact jN (blk_lt (g := gb310) (o := .cells #[.int .i64 a0_0, .slice A0_1 l0_1.length c0_1] 28 (0, 0)) (zk BK310)) : gb310 ≠ gb315))
     have n7_ := jA ((by rw [hg]; exact Nat.ne_of_gt (blk_lt (g := gb310) (o := .cells #[.int .i64 a0_0, .slice A0_1 l0_1.length c0_1] 28 (0, 0)) (zk BK310)) : gb315 ≠ gb310))
     have n8_ := jA ((by rw [hg]; exact jN (blk_lt (g := gb311) (o := .cells #[.int .i64 0, .slice none 0 0] 28 (0, 0)) (zk BK311)) : gb311 ≠ gb315))
     have n9_ := jA ((by rw [hg]; exact Nat.ne_of_gt (blk_lt (g := gb311) (o := .cells #[.int .i64 0, .slice none 0 0] 28 (0, 0)) (zk BK311)) : gb315 ≠ gb311))
     clear BK310
     clear BK311
     clear HB
     have BK310 := n0_
     have BK311 := n1_
     have HB := n2_
     have BK315 := n3_
     have GW315 := n4_
     have GE315 := n5_
     have NB310_315 := n6_
     have NB315_310 := n7_
     have NB311_315 := n8_
     have NB315_311 := n9_
     clear n0_ n1_ n2_ n3_ n4_ n5_ n6_ n7_ n8_ n9_
     clear hb hbox hg
     refine hK.out _ _ ⟨(jD BK310.out 0).trans rfl, (jD BK310.out 1).trans rfl⟩ (fun hHeld => ?_)
     clear hK K
     refine norm_ (a' := ?_) ?_ ?_
     rotate_left
     ·show Act.put _ (some 7) _ = _
      simp only [Act.put, jL, jS, jT, i64_w, i32_w]
      rfl
     refine one_ (i := 4) (N := some 12) m8_fa rfl rfl (one_of HT_.out zr) (by decide) (fun K hK => ?_)
     refine goes_ Try.func86 zr rfl #[.slice A0_1 l0_1.length c0_1] (by rfl) rfl rfl zm ?_
     with_reducible refine (spec_l01Own.calls _ _ l0_1 t312 _ ?side1 ?side2 A4.out).mono ?_
     (case side1 => exact zs HR0_1 HB)
     (case side2 => exact HC0_1.out)
     rintro e w12 ⟨v313, rfl, ho0, hb⟩
     refine ⟨_, rfl, ?_⟩
     have n0_ := jA (Kd.R_lower ho0 (jF (zb3 HB GE310 GE311 GE315)))
     have n1_ := jA (jO (g := gb310) (o := .cells #[.int .i64 a0_0, .slice A0_1 l0_1.length c0_1] 28 (0, 0)) (zk BK310) hb)
     have n2_ := jA (jO (g := gb311) (o := .cells #[.int .i64 0, .slice none 0 0] 28 (0, 0)) (zk BK311) hb)
     have n3_ := jA (jO (g := gb315) (o := .cells #[.int .i64 0, .slice none 0 0] 28 (0, 0)) (zk BK315) hb)
     have n4_ := jA (jJ (zb3 HB GE310 GE311 GE315) hb)
     clear BK310
     clear BK311
     clear BK315
     clear HB
     have HO314 := n0_
     have BK310 := n1_
     have BK311 := n2_
     have BK315 := n3_
     have HB := n4_
     clear n0_ n1_ n2_ n3_ n4_
     (try clear hb)
     (try clear hb2)
     (try clear hk)
     (try clear hi)
     (try clear ho0)
     obtain ⟨Ao13, co13, eo13⟩ := Kd.R_slice HO314.out
     (first | subst eo13 | (injection eo13 with f1_ f2_ f3_; have f4_ := f1_.symm; have f5_ := f3_.symm; clear f1_ f2_ f3_; subst f4_; subst f5_))
     refine hK.out _ _ ⟨(jD BK310.out 0).trans rfl, (jD BK310.out 1).trans rfl⟩ (fun hHeld => ?_)
     clear hK K
     refine norm_ (a' := ?_) ?_ ?_
     rotate_left
     ·show Act.put _ (some 12) _ = _
      simp only [Act.put, jL, jS, jT, i64_w, i32_w]
      rfl
     refine zp HT_ 5 13 m8_fe ?_
     exact norm_ (by simp only [putAll, Act.put, jL, jS, jT]) (hCont (.slice Ao13 t312.length co13, gb315) _ ⟨hHeld, (zo HO314), (zk BK310), (zk BK311), (zk BK315), GW315.out, GE315.out, NB310_315.out, NB315_310.out, NB311_315.out, NB315_311.out, (zb3 HB GE310 GE311 GE315)⟩)
   rintro ⟨v313, gb315⟩ w14 ⟨hS_, h0_, h1_, h2_, h3_, h4_, h5_, h6_, h7_, h8_, h9_, h10_⟩
   have n0_ : Aside0 (Kd.R (Kd.int .i64) 2 w14 w.heap.size (fun _ => True) v313 t312) := ⟨h0_⟩
   have n1_ : Aside0 (w14.heap[gb310]? = some (.cells #[.int .i64 a0_0, .slice A0_1 l0_1.length c0_1] 28 (0, 0))) := ⟨h1_⟩
   have n2_ : Aside0 (w14.heap[gb311]? = some (.cells #[.int .i64 0, .slice none 0 0] 28 (0, 0))) := ⟨h2_⟩
   have n3_ : Aside0 (w14.heap[gb315]? = some (.cells #[.int .i64 0, .slice none 0 0] 28 (0, 0))) := ⟨h3_⟩
   have n4_ : Aside0 (w.heap.size ≤ gb315) := ⟨h4_⟩
   have n5_ : Aside0 (w.heap.size ≤ gb315) := ⟨h5_⟩
   have n6_ : Aside0 (gb310 ≠ gb315) := ⟨h6_⟩
   have n7_ : Aside0 (gb315 ≠ gb310) := ⟨h7_⟩
   have n8_ : Aside0 (gb311 ≠ gb315) := ⟨h8_⟩
   have n9_ : Aside0 (gb315 ≠ gb311) := ⟨h9_⟩
   have n10_ : Aside0 (Below w.heap.size w w14) := ⟨h10_⟩
   clear BK310
   clear BK311
   clear HB
   clear h0_ h1_ h2_ h3_ h4_ h5_ h6_ h7_ h8_ h9_ h10_
   have HO314 := n0_
   have BK310 := n1_
   have BK311 := n2_
   have BK315 := n3_
   have GW315 := n4_
   have GE315 := n5_
   have NB310_315 := n6_
   have NB315_310 := n7_
   have NB311_315 := n8_
   have NB315_311 := n9_
   have HB := n10_
   clear n0_ n1_ n2_ n3_ n4_ n5_ n6_ n7_ n8_ n9_ n10_
   have hHeld : w14.cell? ⟨gb310, 0, none⟩ = some (.int .i64 a0_0) ∧ w14.cell? ⟨gb310, 1, none⟩ = some (.slice A0_1 l0_1.length c0_1) := hS_
   obtain ⟨Ao15, co15, eo15⟩ := Kd.R_slice HO314.out
   (first | subst eo15 | (injection eo15 with f1_ f2_ f3_; have f4_ := f1_.symm; have f5_ := f3_.symm; clear f1_ f2_ f3_; subst f4_; subst f5_))
   refine norm_ (a' := ?_) ?_ ?_
   rotate_left
   ·simp only [putAll, Act.put, jL, jS, jT]
    rfl
   refine one_ (i := 7) (N := none) m8_ff rfl rfl (one_of HT_.out zr) (by decide) (fun K hK => ?_)
   have hs16 : w14.cell? ⟨gb315, 0, none⟩ = some (.int .i64 0) := (jD BK315.out 0).trans rfl
   have hfs16 := jC BK315.out 0
   have hns16_0 := NB310_315.out
   have hns16_1 := NB311_315.out
   have hms16_0 := NB315_310.out
   have hms16_1 := NB315_311.out
   have hs17 : w14.cell? ⟨gb315, 1, none⟩ = some (.slice none 0 0) := (jD BK315.out 1).trans rfl
   have hfs17 := jC BK315.out 1
   have hns17_0 := NB310_315.out
   have hns17_1 := NB311_315.out
   have hms17_0 := NB315_310.out
   have hms17_1 := NB315_311.out
   refine skip_ (w1 := ?_) (by rfl) rfl ?_ ?_
   rotate_left
   ·go_simp
    rfl
   refine hK.out _ _ ⟨((jX (p := ⟨gb315, _, none⟩) NB310_315.out _).trans (((jX (p := ⟨gb315, _, none⟩) NB310_315.out _).trans (hHeld.1)))), ((jX (p := ⟨gb315, _, none⟩) NB310_315.out _).trans (((jX (p := ⟨gb315, _, none⟩) NB310_315.out _).trans (hHeld.2))))⟩ (fun hHeld => ?_)
   clear hK K
   refine done_ (done_of HT_.out zr) ?_
   try go_wp2
   have n0_ : Aside0 (Kd.R (Kd.int .i64) 2 ((w14.setCell ⟨gb315, 0, none⟩ (.int .i64 a0_0)).setCell ⟨gb315, 1, none⟩ (.slice Ao15 t312.length co15)) w.heap.size (fun _ => True) (.slice Ao15 t312.length co15) t312) := ⟨by (with_reducible repeat (first | apply Kd.R_alloc | apply Kd.R_drewN | apply Kd.R_drew)); exact Kd.R_mono (Kd.R_far (p := ⟨gb315, 1, none⟩) (Kd.R_far (p := ⟨gb315, 0, none⟩) (Kd.R_types HO314.out BK315.out (by decide)) (fun _ hk => hk.2) (.int .i64 a0_0)) (fun _ hk => hk.2) (.slice Ao15 t312.length co15)) (fun _ hk => trivial)⟩
   have n1_ : Aside0 (((w14.setCell ⟨gb315, 0, none⟩ (.int .i64 a0_0)).setCell ⟨gb315, 1, none⟩ (.slice Ao15 t312.length co15)).heap[gb310]? = some (.cells #[.int .i64 a0_0, .slice A0_1 l0_1.length c0_1] 28 (0, 0))) := ⟨by (with_reducible repeat (first | refine jG ?_ _ | refine jI ?_ | refine jH ?_ _)); refine ja ?_ NB310_315.out _; (with_reducible repeat (first | refine jG ?_ _ | refine jI ?_ | refine jH ?_ _)); refine ja ?_ NB310_315.out _; (with_reducible repeat (first | refine jG ?_ _ | refine jI ?_ | refine jH ?_ _)); exact BK310.out⟩
   have n2_ : Aside0 (((w14.setCell ⟨gb315, 0, none⟩ (.int .i64 a0_0)).setCell ⟨gb315, 1, none⟩ (.slice Ao15 t312.length co15)).heap[gb311]? = some (.cells #[.int .i64 0, .slice none 0 0] 28 (0, 0))) := ⟨by (with_reducible repeat (first | refine jG ?_ _ | refine jI ?_ | refine jH ?_ _)); refine ja ?_ NB311_315.out _; (with_reducible repeat (first | refine jG ?_ _ | refine jI ?_ | refine jH ?_ _)); refine ja ?_ NB311_315.out _; (with_reducible repeat (first | refine jG ?_ _ | refine jI ?_ | refine jH ?_ _)); exact BK311.out⟩
   have n3_ : Aside0 (((w14.setCell ⟨gb315, 0, none⟩ (.int .i64 a0_0)).setCell ⟨gb315, 1, none⟩ (.slice Ao15 t312.length co15)).heap[gb315]? = some (.cells #[.int .i64 a0_0, .slice Ao15 t312.length co15] 28 (0, 0))) := ⟨by (with_reducible repeat (first | refine jG ?_ _ | refine jI ?_ | refine jH ?_ _)); refine jZ (cs := #[.int .i64 a0_0, .slice none 0 0]) ?_ 1 _ rfl; (with_reducible repeat (first | refine jG ?_ _ | refine jI ?_ | refine jH ?_ _)); refine jZ (cs := #[.int .i64 0, .slice none 0 0]) ?_ 0 _ rfl; (with_reducible repeat (first | refine jG ?_ _ | refine jI ?_ | refine jH ?_ _)); exact BK315.out⟩
   have n4_ : Aside0 (Below w.heap.size w ((w14.setCell ⟨gb315, 0, none⟩ (.int .i64 a0_0)).setCell ⟨gb315, 1, none⟩ (.slice Ao15 t312.length co15))) := ⟨zb3 HB GE310 GE311 GE315⟩
   (try clear HO314)
   (try clear BK310)
   (try clear BK311)
   (try clear BK315)
   (try clear HB)
   generalize ((w14.setCell ⟨gb315, 0, none⟩ (.int .i64 a0_0)).setCell ⟨gb315, 1, none⟩ (.slice Ao15 t312.length co15)) = w18 at n0_ n1_ n2_ n3_ n4_ ⊢
   have HO314 := n0_
   have BK310 := n1_
   have BK311 := n2_
   have BK315 := n3_
   have HB := n4_
   clear n0_ n1_ n2_ n3_ n4_
   have n0_ := jA (Kd.R_drew HO314.out)
   have n1_ := jA (jI BK310.out)
   have n2_ := jA (jI BK311.out)
   have n3_ := jA (jI BK315.out)
   have n4_ := jA (below_drew1 HB.out)
   clear HO314
   clear BK310
   clear BK311
   clear BK315
   clear HB
   have HO314 := n0_
   have BK310 := n1_
   have BK311 := n2_
   have BK315 := n3_
   have HB := n4_
   clear n0_ n1_ n2_ n3_ n4_
   have p316 : 0 ≤ (a1 : Int) := jE za
   have q316 : a1 < (t312.length : Int) := jE za
   obtain ⟨ad316, e316, hx316_0⟩ := Kd.at_int (jb HO314.out).2.2 a1 p316 q316
   cases e316
   replace p316 := eq_true p316
   replace q316 := eq_true q316
   have p7 : 0 ≤ (a1 : Int) := jE za
   have q7 : (a1 : Int) < ((t312.length : Int) : Int) := jE za
   obtain ⟨go7, co7, eo7, gb7, gl7, cl7, HG7⟩ := Kd.R_form HO314.out (by omega)
   (first | cases eo7 | (injection eo7 with ea_ en_ ec_; (first | subst ea_ | (injection ea_ with ea_; subst ea_)); subst ec_; clear en_))
   have GB7 := jA gb7
   have GG7 := jA HG7
   clear gb7 gl7 HG7
   (first | simp only [add_plain] at hx316_0 | skip)
   obtain ⟨hx7_0, hf7_0⟩ := Kd.R_celln 0 HO314.out (a1 : Int) p7 q7
   replace p7 := eq_true p7
   replace q7 := eq_true q7
   have HP20 := Kd.R_putn HO314.out (a1 : Int) (wrap64 ((rd t312 a1) + a2))
   rw [← Ny317.out] at HP20
   have HQ20 := jA HP20
   clear HP20
   refine start_ (n := 12) (S := fun w' => w'.cell? ⟨gb315, 0, none⟩ = some (.int .i64 a0_0) ∧ w'.cell? ⟨gb315, 1, none⟩ = some (.slice (some ⟨go7, 0, none⟩) t312.length co15) ∧ w'.cell? ⟨go7, (a1).toNat, none⟩ = some (.int .i64 (rd t312 a1))) (ds := [11]) #[false, false, false, false, false, false, false, false, false, false, false, false] zr rfl rfl ⟨(jD BK315.out 0).trans rfl, (jD BK315.out 1).trans rfl, hx316_0⟩ (fun hHeld => ?_); refine with_tabW spec_l26With.tab2 spec_l26With.bits2 (fun HT_ HW_ => ?_)
   generalize w18.drew = w19 at HO314 BK310 BK311 BK315 HB GG7 HQ20 hf7_0 hx316_0 hx7_0 hHeld ⊢
   refine zp HT_ 0 14 #[true, false, false, false, false, false, false, false, false, false, false, false] ?_
   refine zp HT_ 2 16 #[true, false, true, false, false, false, false, false, false, false, false, false] ?_
   refine zp HT_ 3 17 #[true, false, true, true, false, false, false, false, false, false, false, false] ?_
   refine zp HT_ 5 19 #[true, false, true, true, false, true, false, false, false, false, false, false] ?_
   refine zp HT_ 8 22 #[true, false, true, true, false, true, false, false, true, false, false, false] ?_
   refine zt3 HT_ HW_ hHeld 1 15 #[true, true, true, true, false, true, false, false, true, false, false, false] ?_
   refine zt3 HT_ HW_ hHeld 4 18 #[true, true, true, true, true, true, false, false, true, false, false, false] ?_
   refine zp HT_ 6 20 #[true, true, true, true, true, true, true, false, true, false, false, false] ?_
   refine zt3 HT_ HW_ hHeld 7 21 #[true, true, true, true, true, true, true, true, true, false, false, false] ?_
   refine zp HT_ 9 23 #[true, true, true, true, true, true, true, true, true, true, false, false] ?_
   refine zp HT_ 10 24 #[true, true, true, true, true, true, true, true, true, true, true, false] ?_
   refine last_ (i := 11) (N := none) #[true, true, true, true, true, true, true, true, true, true, true, true] rfl rfl (one_of HT_.out zr) (by decide) (fun K hK => ?_)
   refine skip_ (w1 := ?_) (by rfl) rfl ?_ ?_
   rotate_left
   ·go_simp
    rfl
   refine hK.out _ _ ?_
   clear hK K
   refine done_ (done_of HT_.out zr) ?_
   have n0_ : Aside0 (Kd.R (Kd.int .i64) 2 (w19.setCell ⟨go7, (a1 : Int).toNat, none⟩ (.int .i64 (wrap64 ((rd t312 a1) + a2)))) w.heap.size (fun _ => True) (.slice (some ⟨go7, 0, none⟩) t312.length co15) y317) := ⟨by (with_reducible repeat (first | apply Kd.R_alloc | apply Kd.R_drewN | apply Kd.R_drew)); exact HQ20.out⟩
   have n1_ : Aside0 ((w19.setCell ⟨go7, (a1 : Int).toNat, none⟩ (.int .i64 (wrap64 ((rd t312 a1) + a2)))).heap[gb310]? = some (.cells #[.int .i64 a0_0, .slice A0_1 l0_1.length c0_1] 28 (0, 0))) := ⟨by (with_reducible repeat (first | refine jG ?_ _ | refine jI ?_ | refine jH ?_ _)); refine ja ?_ (by have h_ := Kd.R_ne HO314.out BK310.out (by decide); intro e_; exact h_ (by rw [e_]; rfl)) _; (with_reducible repeat (first | refine jG ?_ _ | refine jI ?_ | refine jH ?_ _)); exact BK310.out⟩
   have n2_ : Aside0 ((w19.setCell ⟨go7, (a1 : Int).toNat, none⟩ (.int .i64 (wrap64 ((rd t312 a1) + a2)))).heap[gb311]? = some (.cells #[.int .i64 0, .slice none 0 0] 28 (0, 0))) := ⟨by (with_reducible repeat (first | refine jG ?_ _ | refine jI ?_ | refine jH ?_ _)); refine ja ?_ (by have h_ := Kd.R_ne HO314.out BK311.out (by decide); intro e_; exact h_ (by rw [e_]; rfl)) _; (with_reducible repeat (first | refine jG ?_ _ | refine jI ?_ | refine jH ?_ _)); exact BK311.out⟩
   have n3_ : Aside0 ((w19.setCell ⟨go7, (a1 : Int).toNat, none⟩ (.int .i64 (wrap64 ((rd t312 a1) + a2)))).heap[gb315]? = some (.cells #[.int .i64 a0_0, .slice (some ⟨go7, 0, none⟩) t312.length co15] 28 (0, 0))) := ⟨by (with_reducible repeat (first | refine jG ?_ _ | refine jI ?_ | refine jH ?_ _)); refine ja ?_ (by have h_ := Kd.R_ne HO314.out BK315.out (by decide); intro e_; exact h_ (by rw [e_]; rfl)) _; (with_reducible repeat (first | refine jG ?_ _ | refine jI ?_ | refine jH ?_ _)); exact BK315.out⟩
   have n4_ : Aside0 (Below w.heap.size w (w19.setCell ⟨go7, (a1 : Int).toNat, none⟩ (.int .i64 (wrap64 ((rd t312 a1) + a2))))) := ⟨by repeat (first | (with_reducible first | exact HB.out | apply below_alloc | apply pw_below_drewN | apply below_drew1 | refine below_set ?_ GB7.out | refine below_set ?_ GE310.out | refine below_set ?_ GE311.out | refine below_set ?_ GE315.out) | exact HB.out)⟩
   (try clear HO314)
   (try clear BK310)
   (try clear BK311)
   (try clear BK315)
   (try clear HB)
   generalize (w19.setCell ⟨go7, (a1 : Int).toNat, none⟩ (.int .i64 (wrap64 ((rd t312 a1) + a2)))) = w21 at n0_ n1_ n2_ n3_ n4_ ⊢
   have HO314 := n0_
   have BK310 := n1_
   have BK311 := n2_
   have BK315 := n3_
   have HB := n4_
   clear n0_ n1_ n2_ n3_ n4_
   have hnb22 := NB315_310.out
   have hnc22 := NB310_315.out
   have hnb23 := NB315_311.out
   have hnc23 := NB311_315.out
   have hcz24_0 : w21.cell? ⟨gb315, 0, none⟩ = some (.int .i64 a0_0) := (jD BK315.out 0).trans rfl
   have hcz24_1 : w21.cell? ⟨gb315, 1, none⟩ = some (.slice (some ⟨go7, 0, none⟩) t312.length co15) := (jD BK315.out 1).trans rfl
   have hfz24_0 := jC BK315.out 0
   have hfz24_1 := jC BK315.out 1
   have hnb25 := NB311_310.out
   have hnc25 := NB310_311.out
   have hcz26_0 : w21.cell? ⟨gb311, 0, none⟩ = some (.int .i64 0) := (jD BK311.out 0).trans rfl
   have hcz26_1 : w21.cell? ⟨gb311, 1, none⟩ = some (.slice none 0 0) := (jD BK311.out 1).trans rfl
   have hfz26_0 := jC BK311.out 0
   have hfz26_1 := jC BK311.out 1
   try go_wp2
   refine bodyPost_ret (results_cell_row rfl _ _ gb311 28 #[.int .i64 a0_0, .slice (some ⟨go7, 0, none⟩) t312.length co15] (0, 0) _ rfl (by (with_reducible repeat (first | refine jG ?_ _ | refine jI ?_ | refine jH ?_ _)); refine jZ (cs := #[.int .i64 a0_0, .slice none 0 0]) ?_ 1 _ rfl; (with_reducible repeat (first | refine jG ?_ _ | refine jI ?_ | refine jH ?_ _)); refine jZ (cs := #[.int .i64 0, .slice none 0 0]) ?_ 0 _ rfl; (with_reducible repeat (first | refine jG ?_ _ | refine jI ?_ | refine jH ?_ _)); exact BK311.out) Try.underlying28 rfl zr) rfl ?_
   exact ⟨_, by first | rfl | (simp [errW_none, errW_some] <;> rfl) | (simp [*, errW_none, errW_some] <;> rfl), by (with_reducible repeat (first | apply Kd.R_alloc | apply Kd.R_drewN | apply Kd.R_drew)); exact Kd.R_mono (Kd.R_far (p := ⟨gb311, 1, none⟩) (Kd.R_far (p := ⟨gb311, 0, none⟩) (Kd.R_types HO314.out BK311.out (by decide)) (fun _ hk => hk.2) (.int .i64 a0_0)) (fun _ hk => hk.2) (.slice (some ⟨go7, 0, none⟩) t312.length co15)) (fun _ hk => trivial), zb3 HB GE310 GE311 GE315⟩
  ·rw [if_neg c6] at H
   exact absurd H (by simp)
 ·rw [if_neg c5] at H
  exact absurd H (by simp)

end Go.Proofs.Ytdgglhfnlljmeaa.PFnExactStorePieces
