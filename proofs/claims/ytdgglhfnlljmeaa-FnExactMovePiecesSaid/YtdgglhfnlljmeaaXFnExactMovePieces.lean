/- FnExactMovePieces: the parts of the law that look behind a row's length, and the law's walk: with the answers that the functions give, it tells true. -/
import Derived.Test.YtdgglhfnlljmeaaQFnExactMovePiecesx24
namespace Go.Proofs.Ytdgglhfnlljmeaa.PFnExactMovePieces
open Go.RowKit Go.Proofs.YtdgglhfnlljmeaaW.PrintWords Go.Proofs.YtdgglhfnlljmeaaW.PrintLast Go.Proofs.YtdgglhfnlljmeaaW.PrintMore
attribute [local go_sem] max2_int min2_int max_two min_two max_three min_three max_four min_four   -- for this text's walks alone
set_option linter.unusedVariables false
set_option linter.unusedSimpArgs false
open Go.Proofs.YtdgglhfnlljmeaaX
def m18_20800 : Array Bool := #[true, false, false, false, false, false, true, false, false, false, false, false, false, false, false, false, false, false]
def m18_20c00 : Array Bool := #[true, false, false, false, false, false, true, true, false, false, false, false, false, false, false, false, false, false]
def m18_28c00 : Array Bool := #[true, false, true, false, false, false, true, true, false, false, false, false, false, false, false, false, false, false]
def m18_2ac00 : Array Bool := #[true, false, true, false, true, false, true, true, false, false, false, false, false, false, false, false, false, false]
def m18_2ac08 : Array Bool := #[true, false, true, false, true, false, true, true, false, false, false, false, false, false, true, false, false, false]
def m18_2ac10 : Array Bool := #[true, false, true, false, true, false, true, true, false, false, false, false, false, true, false, false, false, false]
def m18_2ac18 : Array Bool := #[true, false, true, false, true, false, true, true, false, false, false, false, false, true, true, false, false, false]
def m18_3ac00 : Array Bool := #[true, true, true, false, true, false, true, true, false, false, false, false, false, false, false, false, false, false]
def m18_3ac08 : Array Bool := #[true, true, true, false, true, false, true, true, false, false, false, false, false, false, true, false, false, false]
def m18_3ac10 : Array Bool := #[true, true, true, false, true, false, true, true, false, false, false, false, false, true, false, false, false, false]
def m18_3ac18 : Array Bool := #[true, true, true, false, true, false, true, true, false, false, false, false, false, true, true, false, false, false]
def m18_3ec00 : Array Bool := #[true, true, true, true, true, false, true, true, false, false, false, false, false, false, false, false, false, false]
def m18_3ec08 : Array Bool := #[true, true, true, true, true, false, true, true, false, false, false, false, false, false, true, false, false, false]
def m18_3ec10 : Array Bool := #[true, true, true, true, true, false, true, true, false, false, false, false, false, true, false, false, false, false]
def m18_3ec18 : Array Bool := #[true, true, true, true, true, false, true, true, false, false, false, false, false, true, true, false, false, false]
def m18_3fc08 : Array Bool := #[true, true, true, true, true, true, true, true, false, false, false, false, false, false, true, false, false, false]
def m18_3fc10 : Array Bool := #[true, true, true, true, true, true, true, true, false, false, false, false, false, true, false, false, false, false]
def m18_3fc18 : Array Bool := #[true, true, true, true, true, true, true, true, false, false, false, false, false, true, true, false, false, false]
def m18_3fe08 : Array Bool := #[true, true, true, true, true, true, true, true, true, false, false, false, false, false, true, false, false, false]
def m18_3fe10 : Array Bool := #[true, true, true, true, true, true, true, true, true, false, false, false, false, true, false, false, false, false]
def m18_3fe18 : Array Bool := #[true, true, true, true, true, true, true, true, true, false, false, false, false, true, true, false, false, false]
def m18_3ff08 : Array Bool := #[true, true, true, true, true, true, true, true, true, true, false, false, false, false, true, false, false, false]
def m18_3ff10 : Array Bool := #[true, true, true, true, true, true, true, true, true, true, false, false, false, true, false, false, false, false]
def m18_3ff18 : Array Bool := #[true, true, true, true, true, true, true, true, true, true, false, false, false, true, true, false, false, false]
def m18_3ff88 : Array Bool := #[true, true, true, true, true, true, true, true, true, true, true, false, false, false, true, false, false, false]
def m18_3ff90 : Array Bool := #[true, true, true, true, true, true, true, true, true, true, true, false, false, true, false, false, false, false]
def m18_3ff98 : Array Bool := #[true, true, true, true, true, true, true, true, true, true, true, false, false, true, true, false, false, false]
def m18_3ffc8 : Array Bool := #[true, true, true, true, true, true, true, true, true, true, true, true, false, false, true, false, false, false]
def m18_3ffd8 : Array Bool := #[true, true, true, true, true, true, true, true, true, true, true, true, false, true, true, false, false, false]
def m18_3ffe8 : Array Bool := #[true, true, true, true, true, true, true, true, true, true, true, true, true, false, true, false, false, false]
theorem zt16 {P : Program} {ops : Array Oper} {Q : Exit → Act → World → Prop} {md : Region.Mode} {S : World → Prop} {ds : List Nat} {T : Bool × List (List Nat × List Nat)} {oi : Oper} {v : Value} {fuel : Nat} {l : Array Bool} {a a' : Act} {w : World} {B : List Nat} (HT : Aside0 (rtab md ops = T)) (HW : Aside0 (waitsOk T.2 B = true)) (hS : S w) (i : Nat) (N : Tmp) (l' : Array Bool) (h : wpAnyLast P md ops Q S ds fuel l' a' w) (hi : ops[i]? = some oi := by rfl) (hN : oi.dst = some N := by rfl) (hc : takeW T B ds l.toList l'.toList i = true := by kernel_rfl) (hQ : ∀ c a w, Q (.panic c) (a.put oi.dst v) w → Q (.panic c) a w := by exact fun _ _ _ h => h) (hy : YieldsIf P ops S oi v a := by exact Or.inl ⟨by rfl, by rintro w' ⟨s0, s1, s2, s3, s4, s5, s6, s7, s8, s9, s10, s11, s12, s13, s14, s15⟩; go_simp; with_reducible rfl⟩) (ha : a.put (some N) v = a' := by simp only [Act.put, List.setIfInBounds_toArray, List.set_cons_zero, List.set_cons_succ, i64_w, i32_w]; rfl) : wpAnyLast P md ops Q S ds (fuel + 1) l a w := take_ l' hi hN (take_ofW HT.out HW.out hc) hQ hy hS ha h
theorem zt4 {P : Program} {ops : Array Oper} {Q : Exit → Act → World → Prop} {md : Region.Mode} {S : World → Prop} {ds : List Nat} {T : Bool × List (List Nat × List Nat)} {oi : Oper} {v : Value} {fuel : Nat} {l : Array Bool} {a a' : Act} {w : World} {B : List Nat} (HT : Aside0 (rtab md ops = T)) (HW : Aside0 (waitsOk T.2 B = true)) (hS : S w) (i : Nat) (N : Tmp) (l' : Array Bool) (h : wpAnyLast P md ops Q S ds fuel l' a' w) (hi : ops[i]? = some oi := by rfl) (hN : oi.dst = some N := by rfl) (hc : takeW T B ds l.toList l'.toList i = true := by kernel_rfl) (hQ : ∀ c a w, Q (.panic c) (a.put oi.dst v) w → Q (.panic c) a w := by exact fun _ _ _ h => h) (hy : YieldsIf P ops S oi v a := by exact Or.inl ⟨by rfl, by rintro w' ⟨s0, s1, s2, s3⟩; go_simp; with_reducible rfl⟩) (ha : a.put (some N) v = a' := by simp only [Act.put, List.setIfInBounds_toArray, List.set_cons_zero, List.set_cons_succ, i64_w, i32_w]; rfl) : wpAnyLast P md ops Q S ds (fuel + 1) l a w := take_ l' hi hN (take_ofW HT.out HW.out hc) hQ hy hS ha h
theorem zr5 {p q : Prop} (H : Aside0 q) (h : q → p := by intro h_; repeat (first | (with_reducible first | exact h_ | apply below_alloc | apply pw_below_drewN | apply below_drew1) | exact h_)) : p := h H.out
theorem zy {p : Prop} (h : p := by repeat (first | (with_reducible first | exact Below.refl _ _ | apply below_alloc | apply pw_below_drewN | apply below_drew1) | exact Below.refl _ _)) : p := h
theorem zA {p q r : Prop} (f : p → q → r) (h : Aside0 p) (k : Aside0 q) : Aside0 r := ⟨f h.out k.out⟩
theorem zM {α : Type} {d : Kd α} {e : Nat} {w : World} {base : Nat} {ok : Nat → Prop} {v : Value} {xs : List α} (W W1 : World) (h : Aside0 (d.R e w base ok v xs)) (hk : ∀ k, ok k → W.heap.size ≤ k ∧ k < W1.heap.size := by exact fun k_ hk_ => hk_) : Aside0 (d.R e w base (fun k_ => W.heap.size ≤ k_ ∧ k_ < W1.heap.size) v xs) := ⟨Kd.R_mono h.out hk⟩
theorem zJ {W : World} (w w2 : World) (k : Below W.heap.size W w2) (h : Below w.heap.size w W := by repeat (first | (with_reducible first | exact Below.refl _ _ | apply below_alloc | apply pw_below_drewN | apply jR) | exact Below.refl _ _)) : Aside0 (Below w.heap.size w w2) := ⟨below_step h k⟩
theorem zH {W W2 : World} {S : Nat → Prop} {g : Nat} {o : Obj} (hk : Aside0 (Kept W W2 S)) (h : Aside0 (W.heap[g]? = some o)) (hn : ¬ S g := by intro h_; omega) : Aside0 (W2.heap[g]? = some o) := ⟨(hk.out.2 g (blk_lt h.out) hn).trans h.out⟩



/-! ### the law: function 3 -/
set_option maxHeartbeats 8000000 in
set_option maxRecDepth 100000 in
theorem laws_FnExactMovePieces.true_ (k : Nat) (A0 : Option Addr) (c0 : Nat) (l0 : List (S62)) (a1_0 : Int) (A1_1 : Option Addr) (c1_1 : Nat) (l1_1 : List Int) (a2_0 : Int) (A2_1 : Option Addr) (c2_1 : Nat) (l2_1 : List Int) (a3 : ByteArray) (a4 : Int) (w : World) (hr0 : Kd.C k62 w A0 l0.length l0) (hc0 : l0.length ≤ c0) (hr1_1 : Kd.C (Kd.int .i64) w A1_1 l1_1.length l1_1) (hc1_1 : l1_1.length ≤ c1_1) (hr2_1 : Kd.C (Kd.int .i64) w A2_1 l2_1.length l2_1) (hc2_1 : l2_1.length ≤ c2_1) (xs0 ext0 extb0 : List (S65)) (rm0 : Int) (xs1_1 ext1_1 extb1_1 : List Int) (rm1_1 : Int) (xs2_1 ext2_1 extb2_1 : List Int) (rm2_1 : Int) (t_1 : Int) (t_2 : Int) (t_3 : Int) (res_r1 : Int) (ws_r2 : List Int) (res_r3 : Int) (ws_r4 : List Int) (res_r5 : Int) (gs_r2 : List Int) (gs_r4 : List Int) (mk_0 : Int) (ml_0 : List (S65)) (mk_1 : Int) (ml_1 : List Int) (mk_2 : Int) (ml_2 : List Int) (mk_3 : Int) (ml_3 : List Int) (mk_4 : Int) (ml_4 : List Int) (hto0_ : laws_toArticleSX.f k l0 false = some ext0) (htob0_ : laws_toArticleSX.f k l0 true = some extb0) (hxl0_ : xs0.length = l0.length) (hnb0_ : extb0 = [] → l0.length = 0) (hne0_ : ¬ (ext0 = [])) (hxe0_ : xs0 = ext0.take xs0.length) (hxb0_ : xs0 = extb0.take xs0.length) (hle0_ : xs0.length ≤ ext0.length) (hlb0_ : xs0.length ≤ extb0.length) (hrm0_ : laws_roomBehind.f (xs0.length : Int) = some rm0) (hj0_ : wrap64 ((xs0.length : Int) + rm0) = (ext0.length : Int)) (heqx0_ : laws_eqArticleS.f k ext0 ext0 = some true) (hto1_1_ : laws_toInt64SX.f k l1_1 false = some ext1_1) (htob1_1_ : laws_toInt64SX.f k l1_1 true = some extb1_1) (hxl1_1_ : xs1_1.length = l1_1.length) (hnb1_1_ : extb1_1 = [] → l1_1.length = 0) (hne1_1_ : ¬ (ext1_1 = [])) (hxe1_1_ : xs1_1 = ext1_1.take xs1_1.length) (hxb1_1_ : xs1_1 = extb1_1.take xs1_1.length) (hle1_1_ : xs1_1.length ≤ ext1_1.length) (hlb1_1_ : xs1_1.length ≤ extb1_1.length) (hrm1_1_ : laws_roomBehind.f (xs1_1.length : Int) = some rm1_1) (hj1_1_ : wrap64 ((xs1_1.length : Int) + rm1_1) = (ext1_1.length : Int)) (heqx1_1_ : laws_eqInt64S.f k ext1_1 ext1_1 = some true) (hto2_1_ : laws_toInt64SX.f k l2_1 false = some ext2_1) (htob2_1_ : laws_toInt64SX.f k l2_1 true = some extb2_1) (hxl2_1_ : xs2_1.length = l2_1.length) (hnb2_1_ : extb2_1 = [] → l2_1.length = 0) (hne2_1_ : ¬ (ext2_1 = [])) (hxe2_1_ : xs2_1 = ext2_1.take xs2_1.length) (hxb2_1_ : xs2_1 = extb2_1.take xs2_1.length) (hle2_1_ : xs2_1.length ≤ ext2_1.length) (hlb2_1_ : xs2_1.length ≤ extb2_1.length) (hrm2_1_ : laws_roomBehind.f (xs2_1.length : Int) = some rm2_1) (hj2_1_ : wrap64 ((xs2_1.length : Int) + rm2_1) = (ext2_1.length : Int)) (heqx2_1_ : laws_eqInt64S.f k ext2_1 ext2_1 = some true) (hz1_ : laws_szArticleS.f k l0 (wrap64 (1000000 - ((a3.size : Int)))) = some t_1) (hn1_ : decide (t_1 < 0) = false) (hz2_ : laws_szMagazine.f a1_0 l1_1 t_1 = some t_2) (hn2_ : decide (t_2 < 0) = false) (hz3_ : laws_szMagazine.f a2_0 l2_1 t_2 = some t_3) (hn3_ : decide (t_3 < 0) = false) (hfspec_ : spec_MovePieces.f k xs0 a1_0 xs1_1 a2_0 xs2_1 a3 a4 = some (res_r1, ws_r2, res_r3, ws_r4, res_r5)) (hfimpl_ : impl_MovePieces.f k xs0 a1_0 xs1_1 a2_0 xs2_1 a3 a4 = some (res_r1, gs_r2, res_r3, gs_r4, res_r5)) (he_gs_r2_ws_r2_ : laws_eqMagazine.f k res_r1 gs_r2 res_r1 ws_r2 = some true) (he_gs_r4_ws_r4_ : laws_eqMagazine.f k res_r3 gs_r4 res_r3 ws_r4 = some true) (hm0_ : laws_markArticleS.f k xs0 101 = some (mk_0, ml_0)) (hmn0_ : decide (mk_0 < 0) = false) (hm1_ : laws_markMagazine.f k a1_0 xs1_1 mk_0 = some (mk_1, ml_1)) (hmn1_ : decide (mk_1 < 0) = false) (hm2_ : laws_markMagazine.f k a2_0 xs2_1 mk_1 = some (mk_2, ml_2)) (hmn2_ : decide (mk_2 < 0) = false) (hm3_ : laws_markMagazine.f k res_r1 gs_r2 101 = some (mk_3, ml_3)) (hmn3_ : decide (mk_3 < 0) = false) (hml3_ : gs_r2.length = ml_3.length) (hm4_ : laws_markMagazine.f k res_r3 gs_r4 mk_3 = some (mk_4, ml_4)) (hmn4_ : decide (mk_4 < 0) = false) (hml4_ : gs_r4.length = ml_4.length) (hh_ml_3_ : laws_heldMagazine.f k res_r1 ml_3 101 = some mk_3) (hh_ml_4_ : laws_heldMagazine.f k res_r3 ml_4 mk_3 = some mk_4) :
  Calls Try.prog 3 #[.slice A0 l0.length c0, .agg #[.int .i64 a1_0, .slice A1_1 l1_1.length c1_1], .agg #[.int .i64 a2_0, .slice A2_1 l2_1.length c2_1], .string a3, .int .i64 a4] w fun e w' => e = .returned (.bool true) ∧ Below w.heap.size w w' := by
 have HR0 := jA hr0
 have HC0 := jA hc0
 have HR1_1 := jA hr1_1
 have HC1_1 := jA hc1_1
 have HR2_1 := jA hr2_1
 have HC2_1 := jA hc2_1
 clear hr0 hc0 hr1_1 hc1_1 hr2_1 hc2_1
 have HTO0 := jA hto0_
 have HTOB0 := jA htob0_
 have HXL0 := jA hxl0_
 have HNB0 := jA hnb0_
 have HNE0 := jA hne0_
 have HXE0 := jA hxe0_
 have HXB0 := jA hxb0_
 have HLE0 := jA hle0_
 have HLB0 := jA hlb0_
 have HRM0 := jA hrm0_
 have HJ0 := jA hj0_
 have HEQX0 := jA heqx0_
 have HTO1_1 := jA hto1_1_
 have HTOB1_1 := jA htob1_1_
 have HXL1_1 := jA hxl1_1_
 have HNB1_1 := jA hnb1_1_
 have HNE1_1 := jA hne1_1_
 have HXE1_1 := jA hxe1_1_
 have HXB1_1 := jA hxb1_1_
 have HLE1_1 := jA hle1_1_
 have HLB1_1 := jA hlb1_1_
 have HRM1_1 := jA hrm1_1_
 have HJ1_1 := jA hj1_1_
 have HEQX1_1 := jA heqx1_1_
 have HTO2_1 := jA hto2_1_
 have HTOB2_1 := jA htob2_1_
 have HXL2_1 := jA hxl2_1_
 have HNB2_1 := jA hnb2_1_
 have HNE2_1 := jA hne2_1_
 have HXE2_1 := jA hxe2_1_
 have HXB2_1 := jA hxb2_1_
 have HLE2_1 := jA hle2_1_
 have HLB2_1 := jA hlb2_1_
 have HRM2_1 := jA hrm2_1_
 have HJ2_1 := jA hj2_1_
 have HEQX2_1 := jA heqx2_1_
 have HZ1 := jA hz1_
 have HN1 := jA hn1_
 have HZ2 := jA hz2_
 have HN2 := jA hn2_
 have HZ3 := jA hz3_
 have HN3 := jA hn3_
 have HFspec := jA hfspec_
 have HFimpl := jA hfimpl_
 have HE_gs_r2_ws_r2 := jA he_gs_r2_ws_r2_
 have HE_gs_r4_ws_r4 := jA he_gs_r4_ws_r4_
 have HM0 := jA hm0_
 have HMN0 := jA hmn0_
 have HM1 := jA hm1_
 have HMN1 := jA hmn1_
 have HM2 := jA hm2_
 have HMN2 := jA hmn2_
 have HM3 := jA hm3_
 have HMN3 := jA hmn3_
 have HML3 := jA hml3_
 have HM4 := jA hm4_
 have HMN4 := jA hmn4_
 have HML4 := jA hml4_
 have HH_ml_3 := jA hh_ml_3_
 have HH_ml_4 := jA hh_ml_4_
 clear hto0_ htob0_ hxl0_ hnb0_ hne0_ hxe0_ hxb0_ hle0_ hlb0_ hrm0_ hj0_ heqx0_ hto1_1_ htob1_1_ hxl1_1_ hnb1_1_ hne1_1_ hxe1_1_ hxb1_1_ hle1_1_ hlb1_1_ hrm1_1_ hj1_1_ heqx1_1_ hto2_1_ htob2_1_ hxl2_1_ hnb2_1_ hne2_1_ hxe2_1_ hxb2_1_ hle2_1_ hlb2_1_ hrm2_1_ hj2_1_ heqx2_1_ hz1_ hn1_ hz2_ hn2_ hz3_ hn3_ hfspec_ hfimpl_ he_gs_r2_ws_r2_ he_gs_r4_ws_r4_ hm0_ hmn0_ hm1_ hmn1_ hm2_ hmn2_ hm3_ hmn3_ hml3_ hm4_ hmn4_ hml4_ hh_ml_3_ hh_ml_4_
 have HB := jA (Below.refl w.heap.size w)
 go_enter Try.func3, Try.ntmps3
 go_wp2_with (first | ((with_reducible refine jJ (N := 6) rfl ?_); refine zE 6 #[.int .i64 a1_0, .slice A1_1 l1_1.length c1_1] 25 ?_; intro gb1 hg_ w_3 hbox hb; have BK2 := jA hbox; have HGgb1 := jA (blk_lt hbox); have HLgb1 : Aside0 (w.heap.size ≤ gb1) := ⟨by rw [hg_]; exact Nat.le_refl _⟩; have hbA0_ := jA hb; clear hbox hg_ hb) | ((with_reducible refine jJ (N := 7) rfl ?_); refine zE 7 #[.int .i64 a2_0, .slice A2_1 l2_1.length c2_1] 25 ?_; intro gb4 hg_ w_6 hbox hb; have BK5 := jA hbox; have HGgb4 := jA (blk_lt hbox); have HLgb4 : Aside0 (w_3.heap.size ≤ gb4) := ⟨by rw [hg_]; exact Nat.le_refl _⟩; have hbA1_ := jA hb; clear hbox hg_ hb))
 have hb := hbA0_.out
 clear hbA0_
 have HBi := zJ w w_3 hb
 clear hb
 have HBn := jA (below_step HB.out HBi.out)
 clear HB
 have HB := HBn
 clear HBn
 have HS7 := jA HBi.out.size
 clear HBi
 have HWw_3 := jA HB.out.size
 have hb := hbA1_.out
 clear hbA1_
 have HBi := zJ w_3 w_6 hb
 clear hb
 have HBn := jA (below_step HB.out HBi.out)
 clear HB
 have HB := HBn
 clear HBn
 have HS8 := jA HBi.out.size
 replace BK2 := zA jO BK2 HBi
 clear HBi
 have HWw_6 := jA HB.out.size
 have hcz1 := zc2 BK2
 have hcz4 := zc2 BK5
 go_wp2_with (fail)
 try clear hcz1
 try clear hcz4
 go_at_call 13
 (with_reducible refine (laws_szArticleS.calls k _ _ l0 (wrap64 (1000000 - ((a3.size : Int)))) t_1 _ ?side1 ?side2 HZ1.out).mono ?_)
 (case side1 => exact zs HR0 HB)
 (case side2 => exact HC0.out)
 rintro e w_9 ⟨rfl, hb⟩
 have HBi := zJ w_6 w_9 hb
 clear hb
 have HBn := jA (below_step HB.out HBi.out)
 clear HB
 have HB := HBn
 clear HBn
 have HS10 := jA HBi.out.size
 replace BK2 := zA jO BK2 HBi
 replace BK5 := zA jO BK5 HBi
 clear HBi
 have HWw_9 := jA HB.out.size
 have hn_ := HN1.out
 have hcz1 := zc2 BK2
 have hcz4 := zc2 BK5
 go_wp2_with (fail)
 try clear hcz1
 try clear hcz4
 clear hn_
 have hcz1 := zc2 BK2
 have hcz4 := zc2 BK5
 go_wp2_with (fail)
 try clear hcz1
 try clear hcz4
 go_at_call 14
 (with_reducible refine (laws_szMagazine.calls a1_0 _ _ l1_1 t_1 t_2 _ ?side1 ?side2 HZ2.out).mono ?_)
 (case side1 => exact zs HR1_1 HB)
 (case side2 => exact HC1_1.out)
 rintro e w_11 ⟨rfl, hb⟩
 have HBi := zJ w_9 w_11 hb
 clear hb
 have HBn := jA (below_step HB.out HBi.out)
 clear HB
 have HB := HBn
 clear HBn
 have HS12 := jA HBi.out.size
 replace BK2 := zA jO BK2 HBi
 replace BK5 := zA jO BK5 HBi
 clear HBi
 have HWw_11 := jA HB.out.size
 have hn_ := HN2.out
 have hcz1 := zc2 BK2
 have hcz4 := zc2 BK5
 go_wp2_with (fail)
 try clear hcz1
 try clear hcz4
 clear hn_
 have hcz1 := zc2 BK2
 have hcz4 := zc2 BK5
 go_wp2_with (fail)
 try clear hcz1
 try clear hcz4
 go_at_call 14
 (with_reducible refine (laws_szMagazine.calls a2_0 _ _ l2_1 t_2 t_3 _ ?side1 ?side2 HZ3.out).mono ?_)
 (case side1 => exact zs HR2_1 HB)
 (case side2 => exact HC2_1.out)
 rintro e w_13 ⟨rfl, hb⟩
 have HBi := zJ w_11 w_13 hb
 clear hb
 have HBn := jA (below_step HB.out HBi.out)
 clear HB
 have HB := HBn
 clear HBn
 have HS14 := jA HBi.out.size
 replace BK2 := zA jO BK2 HBi
 replace BK5 := zA jO BK5 HBi
 clear HBi
 have HWw_13 := jA HB.out.size
 have hn_ := HN3.out
 have hcz1 := zc2 BK2
 have hcz4 := zc2 BK5
 go_wp2_with (fail)
 try clear hcz1
 try clear hcz4
 clear hn_
 have hcz1 := zc2 BK2
 have hcz4 := zc2 BK5
 go_wp2_with (fail)
 try clear hcz1
 try clear hcz4
 refine start_ (n := 18) (S := fun w' => w'.cell? ⟨gb1, 0, none⟩ = some (.int .i64 a1_0) ∧ w'.cell? ⟨gb1, 1, none⟩ = some (.slice A1_1 l1_1.length c1_1) ∧ w'.cell? ⟨gb4, 0, none⟩ = some (.int .i64 a2_0) ∧ w'.cell? ⟨gb4, 1, none⟩ = some (.slice A2_1 l2_1.length c2_1)) (ds := []) m18_0 zr rfl rfl ⟨(jD BK2.out 0).trans rfl, (jD BK2.out 1).trans rfl, (jD BK5.out 0).trans rfl, (jD BK5.out 1).trans rfl⟩ (fun hHeld => ?_)
 refine with_tabW laws_FnExactMovePieces.tab11 laws_FnExactMovePieces.bits11 (fun HT_ HW_ => ?_)
 generalize hq_ : World.drew _ = w_15 at hHeld ⊢
 replace HB : Aside0 (Below w.heap.size w w_15) := ⟨by rw [← hq_]; (repeat (first | (with_reducible first | exact HB.out | apply below_alloc | apply pw_below_drewN | apply jR) | exact HB.out))⟩
 have HS16 : Aside0 (w_13.heap.size ≤ w_15.heap.size) := ⟨by rw [← hq_]; exact Nat.le_refl _⟩
 replace BK2 : Aside0 (w_15.heap[gb1]? = some (.cells #[.int .i64 a1_0, .slice A1_1 l1_1.length c1_1] 25 (0, 0))) := ⟨by rw [← hq_]; (with_reducible repeat (first | refine blk_drewN ?_ _ | refine blk_drew ?_ | refine blk_alloc ?_ _)); exact BK2.out⟩
 replace BK5 : Aside0 (w_15.heap[gb4]? = some (.cells #[.int .i64 a2_0, .slice A2_1 l2_1.length c2_1] 25 (0, 0))) := ⟨by rw [← hq_]; (with_reducible repeat (first | refine blk_drewN ?_ _ | refine blk_drew ?_ | refine blk_alloc ?_ _)); exact BK5.out⟩
 clear hq_
 have HWw_15 := jA HB.out.size
 refine zp HT_ 0 46 m18_20000 ?_
 refine zp HT_ 6 52 m18_20800 ?_
 refine zp HT_ 7 53 m18_20c00 ?_
 refine zt4 HT_ HW_ hHeld 2 48 m18_28c00 ?_
 refine zt4 HT_ HW_ hHeld 4 50 m18_2ac00 ?_
 have hcl17 : w_15.cell? ⟨gb1, 0, none⟩ = some (.int .i64 a1_0) := (jD BK2.out 0).trans rfl
 have hcl18 : w_15.cell? ⟨gb1, 1, none⟩ = some (.slice A1_1 l1_1.length c1_1) := (jD BK2.out 1).trans rfl
 have hcl19 : w_15.cell? ⟨gb4, 0, none⟩ = some (.int .i64 a2_0) := (jD BK5.out 0).trans rfl
 have hcl20 : w_15.cell? ⟨gb4, 1, none⟩ = some (.slice A2_1 l2_1.length c2_1) := (jD BK5.out 1).trans rfl
 have HLTgb1 : Aside0 (gb1 < w_15.heap.size) := ⟨blk_lt BK2.out⟩
 have HLTgb4 : Aside0 (gb4 < w_15.heap.size) := ⟨blk_lt BK5.out⟩
 have hSB_ : ∀ W_ : World, Below w_15.heap.size w_15 W_ → W_.cell? ⟨gb1, 0, none⟩ = some (.int .i64 a1_0) ∧ W_.cell? ⟨gb1, 1, none⟩ = some (.slice A1_1 l1_1.length c1_1) ∧ W_.cell? ⟨gb4, 0, none⟩ = some (.int .i64 a2_0) ∧ W_.cell? ⟨gb4, 1, none⟩ = some (.slice A2_1 l2_1.length c2_1) := fun W_ B_ => ⟨below_keep B_ hcl17, below_keep B_ hcl18, below_keep B_ hcl19, below_keep B_ hcl20⟩
 clear hcl17 hcl18 hcl19 hcl20
 have HB0_ := HB
 have HBr : Aside0 (Below w_15.heap.size w_15 w_15) := ⟨Below.refl _ _⟩
 refine joinN (σ := (Option Addr × Nat) × (Option Addr × Nat) × (Option Addr × Nat) × (Option Addr × Nat) × (Option Addr × Nat) × Nat × Nat) 3 m18_3fff8 (fun s_ => [(47, .slice s_.1.1 xs0.length s_.1.2), (49, .agg #[.int .i64 a1_0, .slice s_.2.1.1 xs1_1.length s_.2.1.2]), (51, .agg #[.int .i64 a2_0, .slice s_.2.2.1.1 xs2_1.length s_.2.2.1.2]), (54, .tuple #[.agg #[.int .i64 res_r1, .slice s_.2.2.2.1.1 ws_r2.length s_.2.2.2.1.2], .agg #[.int .i64 res_r3, .slice s_.2.2.2.2.1.1 ws_r4.length s_.2.2.2.2.1.2], .int .i64 res_r5]), (45, .tuple #[.agg #[.int .i64 res_r1, .slice s_.2.2.2.1.1 ws_r2.length s_.2.2.2.1.2], .agg #[.int .i64 res_r3, .slice s_.2.2.2.2.1.1 ws_r4.length s_.2.2.2.2.1.2], .int .i64 res_r5]), (55, .agg #[.int .i64 res_r1, .slice s_.2.2.2.1.1 ws_r2.length s_.2.2.2.1.2]), (56, .agg #[.int .i64 res_r3, .slice s_.2.2.2.2.1.1 ws_r4.length s_.2.2.2.2.1.2]), (57, .int .i64 res_r5), (12, .pointer (some ⟨s_.2.2.2.2.2.1, 0, none⟩)), (13, .pointer (some ⟨s_.2.2.2.2.2.2, 0, none⟩))]) (fun s_ w' => (Below w_15.heap.size w_15 w') ∧ (Kd.R (Kd.int .i64) 2 w' w.heap.size (fun k_ => ((w_15.heap.size ≤ k_ ∧ k_ < w'.heap.size) ∧ k_ ≠ s_.2.2.2.2.2.1 ∧ k_ ≠ s_.2.2.2.2.2.2) ∧ some k_ = (Value.slice s_.2.2.2.1.1 ws_r2.length s_.2.2.2.1.2).ownBlock) (.slice s_.2.2.2.1.1 ws_r2.length s_.2.2.2.1.2) ws_r2) ∧ (Kd.R (Kd.int .i64) 2 w' w.heap.size (fun k_ => ((w_15.heap.size ≤ k_ ∧ k_ < w'.heap.size) ∧ k_ ≠ s_.2.2.2.2.2.1 ∧ k_ ≠ s_.2.2.2.2.2.2) ∧ some k_ ≠ (Value.slice s_.2.2.2.1.1 ws_r2.length s_.2.2.2.1.2).ownBlock) (.slice s_.2.2.2.2.1.1 ws_r4.length s_.2.2.2.2.1.2) ws_r4) ∧ (w'.heap[s_.2.2.2.2.2.1]? = some (.cells #[.int .i64 0, .slice none 0 0] 28 (0, 0))) ∧ (w_15.heap.size ≤ s_.2.2.2.2.2.1) ∧ (w'.heap[s_.2.2.2.2.2.2]? = some (.cells #[.int .i64 0, .slice none 0 0] 28 (0, 0))) ∧ (w_15.heap.size ≤ s_.2.2.2.2.2.2) ∧ (s_.2.2.2.2.2.1 ≠ s_.2.2.2.2.2.2)) ?_ ?_
 intro hJ4_01
 refine joinN (σ := (Option Addr × Nat) × (Option Addr × Nat) × (Option Addr × Nat) × Nat × Nat) 8 m18_3fc18 (fun s_ => [(47, .slice s_.1.1 xs0.length s_.1.2), (49, .agg #[.int .i64 a1_0, .slice s_.2.1.1 xs1_1.length s_.2.1.2]), (51, .agg #[.int .i64 a2_0, .slice s_.2.2.1.1 xs2_1.length s_.2.2.1.2]), (12, .pointer (some ⟨s_.2.2.2.1, 0, none⟩)), (13, .pointer (some ⟨s_.2.2.2.2, 0, none⟩))]) (fun s_ w' => (Below w_15.heap.size w_15 w') ∧ (Kd.R k65 65 w' w.heap.size (fun k_ => True) (.slice s_.1.1 ext0.length s_.1.2) ext0) ∧ (Kd.R (Kd.int .i64) 2 w' w.heap.size (fun k_ => True) (.slice s_.2.1.1 ext1_1.length s_.2.1.2) ext1_1) ∧ (Kd.R (Kd.int .i64) 2 w' w.heap.size (fun k_ => True) (.slice s_.2.2.1.1 ext2_1.length s_.2.2.1.2) ext2_1) ∧ (w'.heap[s_.2.2.2.1]? = some (.cells #[.int .i64 0, .slice none 0 0] 28 (0, 0))) ∧ (w_15.heap.size ≤ s_.2.2.2.1) ∧ (w'.heap[s_.2.2.2.2]? = some (.cells #[.int .i64 0, .slice none 0 0] 28 (0, 0))) ∧ (w_15.heap.size ≤ s_.2.2.2.2) ∧ (s_.2.2.2.1 ≠ s_.2.2.2.2)) ?_ ?_
 intro hJ3_01
 refine joinN (σ := (Option Addr × Nat) × (Option Addr × Nat) × (Option Addr × Nat) × (Option Addr × Nat) × (Option Addr × Nat) × Nat) 4 m18_3ffe8 (fun s_ => [(47, .slice s_.1.1 xs0.length s_.1.2), (49, .agg #[.int .i64 a1_0, .slice s_.2.1.1 xs1_1.length s_.2.1.2]), (51, .agg #[.int .i64 a2_0, .slice s_.2.2.1.1 xs2_1.length s_.2.2.1.2]), (54, .tuple #[.agg #[.int .i64 res_r1, .slice s_.2.2.2.1.1 ws_r2.length s_.2.2.2.1.2], .agg #[.int .i64 res_r3, .slice s_.2.2.2.2.1.1 ws_r4.length s_.2.2.2.2.1.2], .int .i64 res_r5]), (45, .tuple #[.agg #[.int .i64 res_r1, .slice s_.2.2.2.1.1 ws_r2.length s_.2.2.2.1.2], .agg #[.int .i64 res_r3, .slice s_.2.2.2.2.1.1 ws_r4.length s_.2.2.2.2.1.2], .int .i64 res_r5]), (55, .agg #[.int .i64 res_r1, .slice s_.2.2.2.1.1 ws_r2.length s_.2.2.2.1.2]), (56, .agg #[.int .i64 res_r3, .slice s_.2.2.2.2.1.1 ws_r4.length s_.2.2.2.2.1.2]), (57, .int .i64 res_r5), (13, .pointer (some ⟨s_.2.2.2.2.2, 0, none⟩))]) (fun s_ w' => (Below w_15.heap.size w_15 w') ∧ (Kd.R (Kd.int .i64) 2 w' w.heap.size (fun k_ => ((w_15.heap.size ≤ k_ ∧ k_ < w'.heap.size) ∧ k_ ≠ s_.2.2.2.2.2) ∧ some k_ = (Value.slice s_.2.2.2.1.1 ws_r2.length s_.2.2.2.1.2).ownBlock) (.slice s_.2.2.2.1.1 ws_r2.length s_.2.2.2.1.2) ws_r2) ∧ (Kd.R (Kd.int .i64) 2 w' w.heap.size (fun k_ => ((w_15.heap.size ≤ k_ ∧ k_ < w'.heap.size) ∧ k_ ≠ s_.2.2.2.2.2) ∧ some k_ ≠ (Value.slice s_.2.2.2.1.1 ws_r2.length s_.2.2.2.1.2).ownBlock) (.slice s_.2.2.2.2.1.1 ws_r4.length s_.2.2.2.2.1.2) ws_r4) ∧ (w'.heap[s_.2.2.2.2.2]? = some (.cells #[.int .i64 0, .slice none 0 0] 28 (0, 0))) ∧ (w_15.heap.size ≤ s_.2.2.2.2.2)) ?_ ?_
 intro hJ4_1
 refine joinN (σ := (Option Addr × Nat) × (Option Addr × Nat) × (Option Addr × Nat) × (Option Addr × Nat) × (Option Addr × Nat) × Nat) 4 m18_3fff0 (fun s_ => [(47, .slice s_.1.1 xs0.length s_.1.2), (49, .agg #[.int .i64 a1_0, .slice s_.2.1.1 xs1_1.length s_.2.1.2]), (51, .agg #[.int .i64 a2_0, .slice s_.2.2.1.1 xs2_1.length s_.2.2.1.2]), (54, .tuple #[.agg #[.int .i64 res_r1, .slice s_.2.2.2.1.1 ws_r2.length s_.2.2.2.1.2], .agg #[.int .i64 res_r3, .slice s_.2.2.2.2.1.1 ws_r4.length s_.2.2.2.2.1.2], .int .i64 res_r5]), (45, .tuple #[.agg #[.int .i64 res_r1, .slice s_.2.2.2.1.1 ws_r2.length s_.2.2.2.1.2], .agg #[.int .i64 res_r3, .slice s_.2.2.2.2.1.1 ws_r4.length s_.2.2.2.2.1.2], .int .i64 res_r5]), (55, .agg #[.int .i64 res_r1, .slice s_.2.2.2.1.1 ws_r2.length s_.2.2.2.1.2]), (56, .agg #[.int .i64 res_r3, .slice s_.2.2.2.2.1.1 ws_r4.length s_.2.2.2.2.1.2]), (57, .int .i64 res_r5), (12, .pointer (some ⟨s_.2.2.2.2.2, 0, none⟩))]) (fun s_ w' => (Below w_15.heap.size w_15 w') ∧ (Kd.R (Kd.int .i64) 2 w' w.heap.size (fun k_ => ((w_15.heap.size ≤ k_ ∧ k_ < w'.heap.size) ∧ k_ ≠ s_.2.2.2.2.2) ∧ some k_ = (Value.slice s_.2.2.2.1.1 ws_r2.length s_.2.2.2.1.2).ownBlock) (.slice s_.2.2.2.1.1 ws_r2.length s_.2.2.2.1.2) ws_r2) ∧ (Kd.R (Kd.int .i64) 2 w' w.heap.size (fun k_ => ((w_15.heap.size ≤ k_ ∧ k_ < w'.heap.size) ∧ k_ ≠ s_.2.2.2.2.2) ∧ some k_ ≠ (Value.slice s_.2.2.2.1.1 ws_r2.length s_.2.2.2.1.2).ownBlock) (.slice s_.2.2.2.2.1.1 ws_r4.length s_.2.2.2.2.1.2) ws_r4) ∧ (w'.heap[s_.2.2.2.2.2]? = some (.cells #[.int .i64 0, .slice none 0 0] 28 (0, 0))) ∧ (w_15.heap.size ≤ s_.2.2.2.2.2)) ?_ ?_
 intro hJ4_0
 refine joinN (σ := (Option Addr × Nat) × (Option Addr × Nat) × Nat × Nat) 9 m18_3ec18 (fun s_ => [(47, .slice s_.1.1 xs0.length s_.1.2), (49, .agg #[.int .i64 a1_0, .slice s_.2.1.1 xs1_1.length s_.2.1.2]), (12, .pointer (some ⟨s_.2.2.1, 0, none⟩)), (13, .pointer (some ⟨s_.2.2.2, 0, none⟩))]) (fun s_ w' => (Below w_15.heap.size w_15 w') ∧ (Kd.R k65 65 w' w.heap.size (fun k_ => True) (.slice s_.1.1 ext0.length s_.1.2) ext0) ∧ (Kd.R (Kd.int .i64) 2 w' w.heap.size (fun k_ => True) (.slice s_.2.1.1 ext1_1.length s_.2.1.2) ext1_1) ∧ (w'.heap[s_.2.2.1]? = some (.cells #[.int .i64 0, .slice none 0 0] 28 (0, 0))) ∧ (w_15.heap.size ≤ s_.2.2.1) ∧ (w'.heap[s_.2.2.2]? = some (.cells #[.int .i64 0, .slice none 0 0] 28 (0, 0))) ∧ (w_15.heap.size ≤ s_.2.2.2) ∧ (s_.2.2.1 ≠ s_.2.2.2)) ?_ ?_
 intro hJ2_01
 refine joinN (σ := (Option Addr × Nat) × (Option Addr × Nat) × (Option Addr × Nat) × Nat) 9 m18_3fc08 (fun s_ => [(47, .slice s_.1.1 xs0.length s_.1.2), (49, .agg #[.int .i64 a1_0, .slice s_.2.1.1 xs1_1.length s_.2.1.2]), (51, .agg #[.int .i64 a2_0, .slice s_.2.2.1.1 xs2_1.length s_.2.2.1.2]), (13, .pointer (some ⟨s_.2.2.2, 0, none⟩))]) (fun s_ w' => (Below w_15.heap.size w_15 w') ∧ (Kd.R k65 65 w' w.heap.size (fun k_ => True) (.slice s_.1.1 ext0.length s_.1.2) ext0) ∧ (Kd.R (Kd.int .i64) 2 w' w.heap.size (fun k_ => True) (.slice s_.2.1.1 ext1_1.length s_.2.1.2) ext1_1) ∧ (Kd.R (Kd.int .i64) 2 w' w.heap.size (fun k_ => True) (.slice s_.2.2.1.1 ext2_1.length s_.2.2.1.2) ext2_1) ∧ (w'.heap[s_.2.2.2]? = some (.cells #[.int .i64 0, .slice none 0 0] 28 (0, 0))) ∧ (w_15.heap.size ≤ s_.2.2.2)) ?_ ?_
 intro hJ3_1
 refine joinN (σ := (Option Addr × Nat) × (Option Addr × Nat) × (Option Addr × Nat) × Nat) 9 m18_3fc10 (fun s_ => [(47, .slice s_.1.1 xs0.length s_.1.2), (49, .agg #[.int .i64 a1_0, .slice s_.2.1.1 xs1_1.length s_.2.1.2]), (51, .agg #[.int .i64 a2_0, .slice s_.2.2.1.1 xs2_1.length s_.2.2.1.2]), (12, .pointer (some ⟨s_.2.2.2, 0, none⟩))]) (fun s_ w' => (Below w_15.heap.size w_15 w') ∧ (Kd.R k65 65 w' w.heap.size (fun k_ => True) (.slice s_.1.1 ext0.length s_.1.2) ext0) ∧ (Kd.R (Kd.int .i64) 2 w' w.heap.size (fun k_ => True) (.slice s_.2.1.1 ext1_1.length s_.2.1.2) ext1_1) ∧ (Kd.R (Kd.int .i64) 2 w' w.heap.size (fun k_ => True) (.slice s_.2.2.1.1 ext2_1.length s_.2.2.1.2) ext2_1) ∧ (w'.heap[s_.2.2.2]? = some (.cells #[.int .i64 0, .slice none 0 0] 28 (0, 0))) ∧ (w_15.heap.size ≤ s_.2.2.2)) ?_ ?_
 intro hJ3_0
 refine joinN (σ := (Option Addr × Nat) × (Option Addr × Nat) × (Option Addr × Nat) × (Option Addr × Nat) × (Option Addr × Nat)) 5 m18_3ffe0 (fun s_ => [(47, .slice s_.1.1 xs0.length s_.1.2), (49, .agg #[.int .i64 a1_0, .slice s_.2.1.1 xs1_1.length s_.2.1.2]), (51, .agg #[.int .i64 a2_0, .slice s_.2.2.1.1 xs2_1.length s_.2.2.1.2]), (54, .tuple #[.agg #[.int .i64 res_r1, .slice s_.2.2.2.1.1 ws_r2.length s_.2.2.2.1.2], .agg #[.int .i64 res_r3, .slice s_.2.2.2.2.1 ws_r4.length s_.2.2.2.2.2], .int .i64 res_r5]), (45, .tuple #[.agg #[.int .i64 res_r1, .slice s_.2.2.2.1.1 ws_r2.length s_.2.2.2.1.2], .agg #[.int .i64 res_r3, .slice s_.2.2.2.2.1 ws_r4.length s_.2.2.2.2.2], .int .i64 res_r5]), (55, .agg #[.int .i64 res_r1, .slice s_.2.2.2.1.1 ws_r2.length s_.2.2.2.1.2]), (56, .agg #[.int .i64 res_r3, .slice s_.2.2.2.2.1 ws_r4.length s_.2.2.2.2.2]), (57, .int .i64 res_r5)]) (fun s_ w' => (Below w_15.heap.size w_15 w') ∧ (Kd.R (Kd.int .i64) 2 w' w.heap.size (fun k_ => (w_15.heap.size ≤ k_ ∧ k_ < w'.heap.size) ∧ some k_ = (Value.slice s_.2.2.2.1.1 ws_r2.length s_.2.2.2.1.2).ownBlock) (.slice s_.2.2.2.1.1 ws_r2.length s_.2.2.2.1.2) ws_r2) ∧ (Kd.R (Kd.int .i64) 2 w' w.heap.size (fun k_ => (w_15.heap.size ≤ k_ ∧ k_ < w'.heap.size) ∧ some k_ ≠ (Value.slice s_.2.2.2.1.1 ws_r2.length s_.2.2.2.1.2).ownBlock) (.slice s_.2.2.2.2.1 ws_r4.length s_.2.2.2.2.2) ws_r4)) ?_ ?_
 intro hJ4_
 refine joinN (σ := (Option Addr × Nat) × Nat × Nat) 10 m18_3ac18 (fun s_ => [(47, .slice s_.1.1 xs0.length s_.1.2), (12, .pointer (some ⟨s_.2.1, 0, none⟩)), (13, .pointer (some ⟨s_.2.2, 0, none⟩))]) (fun s_ w' => (Below w_15.heap.size w_15 w') ∧ (Kd.R k65 65 w' w.heap.size (fun k_ => True) (.slice s_.1.1 ext0.length s_.1.2) ext0) ∧ (w'.heap[s_.2.1]? = some (.cells #[.int .i64 0, .slice none 0 0] 28 (0, 0))) ∧ (w_15.heap.size ≤ s_.2.1) ∧ (w'.heap[s_.2.2]? = some (.cells #[.int .i64 0, .slice none 0 0] 28 (0, 0))) ∧ (w_15.heap.size ≤ s_.2.2) ∧ (s_.2.1 ≠ s_.2.2)) ?_ ?_
 intro hJ1_01
 refine joinN (σ := (Option Addr × Nat) × (Option Addr × Nat) × Nat) 10 m18_3ec08 (fun s_ => [(47, .slice s_.1.1 xs0.length s_.1.2), (49, .agg #[.int .i64 a1_0, .slice s_.2.1.1 xs1_1.length s_.2.1.2]), (13, .pointer (some ⟨s_.2.2, 0, none⟩))]) (fun s_ w' => (Below w_15.heap.size w_15 w') ∧ (Kd.R k65 65 w' w.heap.size (fun k_ => True) (.slice s_.1.1 ext0.length s_.1.2) ext0) ∧ (Kd.R (Kd.int .i64) 2 w' w.heap.size (fun k_ => True) (.slice s_.2.1.1 ext1_1.length s_.2.1.2) ext1_1) ∧ (w'.heap[s_.2.2]? = some (.cells #[.int .i64 0, .slice none 0 0] 28 (0, 0))) ∧ (w_15.heap.size ≤ s_.2.2)) ?_ ?_
 intro hJ2_1
 refine joinN (σ := (Option Addr × Nat) × (Option Addr × Nat) × Nat) 10 m18_3ec10 (fun s_ => [(47, .slice s_.1.1 xs0.length s_.1.2), (49, .agg #[.int .i64 a1_0, .slice s_.2.1.1 xs1_1.length s_.2.1.2]), (12, .pointer (some ⟨s_.2.2, 0, none⟩))]) (fun s_ w' => (Below w_15.heap.size w_15 w') ∧ (Kd.R k65 65 w' w.heap.size (fun k_ => True) (.slice s_.1.1 ext0.length s_.1.2) ext0) ∧ (Kd.R (Kd.int .i64) 2 w' w.heap.size (fun k_ => True) (.slice s_.2.1.1 ext1_1.length s_.2.1.2) ext1_1) ∧ (w'.heap[s_.2.2]? = some (.cells #[.int .i64 0, .slice none 0 0] 28 (0, 0))) ∧ (w_15.heap.size ≤ s_.2.2)) ?_ ?_
 intro hJ2_0
 refine joinN (σ := (Option Addr × Nat) × (Option Addr × Nat) × (Option Addr × Nat)) 10 m18_3fc00 (fun s_ => [(47, .slice s_.1.1 xs0.length s_.1.2), (49, .agg #[.int .i64 a1_0, .slice s_.2.1.1 xs1_1.length s_.2.1.2]), (51, .agg #[.int .i64 a2_0, .slice s_.2.2.1 xs2_1.length s_.2.2.2])]) (fun s_ w' => (Below w_15.heap.size w_15 w') ∧ (Kd.R k65 65 w' w.heap.size (fun k_ => True) (.slice s_.1.1 ext0.length s_.1.2) ext0) ∧ (Kd.R (Kd.int .i64) 2 w' w.heap.size (fun k_ => True) (.slice s_.2.1.1 ext1_1.length s_.2.1.2) ext1_1) ∧ (Kd.R (Kd.int .i64) 2 w' w.heap.size (fun k_ => True) (.slice s_.2.2.1 ext2_1.length s_.2.2.2) ext2_1)) ?_ ?_
 intro hJ3_
 refine joinN (σ := Nat × Nat) 11 m18_2ac18 (fun s_ => [(12, .pointer (some ⟨s_.1, 0, none⟩)), (13, .pointer (some ⟨s_.2, 0, none⟩))]) (fun s_ w' => (Below w_15.heap.size w_15 w') ∧ (w'.heap[s_.1]? = some (.cells #[.int .i64 0, .slice none 0 0] 28 (0, 0))) ∧ (w_15.heap.size ≤ s_.1) ∧ (w'.heap[s_.2]? = some (.cells #[.int .i64 0, .slice none 0 0] 28 (0, 0))) ∧ (w_15.heap.size ≤ s_.2) ∧ (s_.1 ≠ s_.2)) ?_ ?_
 intro hJ0_01
 refine joinN (σ := (Option Addr × Nat) × Nat) 11 m18_3ac08 (fun s_ => [(47, .slice s_.1.1 xs0.length s_.1.2), (13, .pointer (some ⟨s_.2, 0, none⟩))]) (fun s_ w' => (Below w_15.heap.size w_15 w') ∧ (Kd.R k65 65 w' w.heap.size (fun k_ => True) (.slice s_.1.1 ext0.length s_.1.2) ext0) ∧ (w'.heap[s_.2]? = some (.cells #[.int .i64 0, .slice none 0 0] 28 (0, 0))) ∧ (w_15.heap.size ≤ s_.2)) ?_ ?_
 intro hJ1_1
 refine joinN (σ := (Option Addr × Nat) × Nat) 11 m18_3ac10 (fun s_ => [(47, .slice s_.1.1 xs0.length s_.1.2), (12, .pointer (some ⟨s_.2, 0, none⟩))]) (fun s_ w' => (Below w_15.heap.size w_15 w') ∧ (Kd.R k65 65 w' w.heap.size (fun k_ => True) (.slice s_.1.1 ext0.length s_.1.2) ext0) ∧ (w'.heap[s_.2]? = some (.cells #[.int .i64 0, .slice none 0 0] 28 (0, 0))) ∧ (w_15.heap.size ≤ s_.2)) ?_ ?_
 intro hJ1_0
 refine joinN (σ := (Option Addr × Nat) × (Option Addr × Nat)) 11 m18_3ec00 (fun s_ => [(47, .slice s_.1.1 xs0.length s_.1.2), (49, .agg #[.int .i64 a1_0, .slice s_.2.1 xs1_1.length s_.2.2])]) (fun s_ w' => (Below w_15.heap.size w_15 w') ∧ (Kd.R k65 65 w' w.heap.size (fun k_ => True) (.slice s_.1.1 ext0.length s_.1.2) ext0) ∧ (Kd.R (Kd.int .i64) 2 w' w.heap.size (fun k_ => True) (.slice s_.2.1 ext1_1.length s_.2.2) ext1_1)) ?_ ?_
 intro hJ2_
 refine joinN (σ := Nat) 12 m18_2ac08 (fun s_ => [(13, .pointer (some ⟨s_, 0, none⟩))]) (fun s_ w' => (Below w_15.heap.size w_15 w') ∧ (w'.heap[s_]? = some (.cells #[.int .i64 0, .slice none 0 0] 28 (0, 0))) ∧ (w_15.heap.size ≤ s_)) ?_ ?_
 intro hJ0_1
 refine joinN (σ := Nat) 12 m18_2ac10 (fun s_ => [(12, .pointer (some ⟨s_, 0, none⟩))]) (fun s_ w' => (Below w_15.heap.size w_15 w') ∧ (w'.heap[s_]? = some (.cells #[.int .i64 0, .slice none 0 0] 28 (0, 0))) ∧ (w_15.heap.size ≤ s_)) ?_ ?_
 intro hJ0_0
 refine joinN (σ := (Option Addr × Nat)) 12 m18_3ac00 (fun s_ => [(47, .slice s_.1 xs0.length s_.2)]) (fun s_ w' => (Below w_15.heap.size w_15 w') ∧ (Kd.R k65 65 w' w.heap.size (fun k_ => True) (.slice s_.1 ext0.length s_.2) ext0)) ?_ ?_
 intro hJ1_
 refine three_ (i := 1) (j := 13) (k := 14) (Ni := some 47) (Nj := some 12) (Nk := some 13) m18_3ac00 m18_2ac10 m18_2ac08 rfl rfl rfl rfl rfl rfl (three_of HT_.out zr) (by decide) (by decide) (by decide) (fun K hK => ?_) (fun K hK => ?_) (fun K hK => ?_)
 ·skip
  refine goes_ Try.func16 zr rfl #[.slice A0 l0.length c0, .bool false] (by rfl) rfl rfl zm ?_
  (with_reducible refine (laws_toArticleSX.calls k _ _ l0 false ext0 _ ?side1 ?side2 HTO0.out).mono ?_)
  (case side1 => exact zs HR0 HB)
  (case side2 => exact HC0.out)
  rintro e w_51 ⟨Ao53, no54, co55, rfl, hn, ho, hb⟩
  obtain rfl : no54 = xs0.length := hn.full HXL0.out HNE0.out
  clear hn
  have ho1 := jA (Kd.R_lower (R_span ho) (Nat.le_trans HB.out.size (zy : Below w_15.heap.size w_15 _).size))
  clear ho
  have HBi := zJ w_15 w_51 hb
  clear hb
  have HS56 := jA HBi.out.size
  replace HBr := jA (below_step HBr.out HBi.out)
  clear HBi
  have HO52 := zM w_15 w_51 ho1
  clear ho1
  refine ⟨_, rfl, ?_⟩
  refine hK.out _ _ (hSB_ _ HBr.out) (fun hHeld => putN 47 ?_)
  clear hK K
  have sHS56 := HS56.out
  exact putsJ (hJ1_ (Ao53, co55) _ ⟨(zr5 HBr), latT HO52⟩)
 ·skip
  refine boxN 12 #[.int .i64 0, .slice none 0 0] 28 ?_
  intro gb59 hg_ w_58 hbox hb
  have BK57 := jA hbox
  have HGgb59 := jA (blk_lt hbox)
  have HLgb59 : Aside0 (w_15.heap.size ≤ gb59) := ⟨by rw [hg_]; exact Nat.le_refl _⟩
  clear hbox hg_
  have HBi := zJ w_15 w_58 hb
  clear hb
  have HS60 := jA HBi.out.size
  replace HBr := jA (below_step HBr.out HBi.out)
  clear HBi
  refine hK.out _ _ (hSB_ _ HBr.out) (fun hHeld => putN 12 ?_)
  clear hK K
  have sHS60 := HS60.out; have sHGgb59 := HGgb59.out; have sHLgb59 := HLgb59.out
  exact putsJ (hJ0_0 gb59 _ ⟨(zr5 HBr), (zk BK57), (show w_15.heap.size ≤ gb59 from by omega)⟩)
 ·skip
  refine boxN 13 #[.int .i64 0, .slice none 0 0] 28 ?_
  intro gb63 hg_ w_62 hbox hb
  have BK61 := jA hbox
  have HGgb63 := jA (blk_lt hbox)
  have HLgb63 : Aside0 (w_15.heap.size ≤ gb63) := ⟨by rw [hg_]; exact Nat.le_refl _⟩
  clear hbox hg_
  have HBi := zJ w_15 w_62 hb
  clear hb
  have HS64 := jA HBi.out.size
  replace HBr := jA (below_step HBr.out HBi.out)
  clear HBi
  refine hK.out _ _ (hSB_ _ HBr.out) (fun hHeld => putN 13 ?_)
  clear hK K
  have sHS64 := HS64.out; have sHGgb63 := HGgb63.out; have sHLgb63 := HLgb63.out
  exact putsJ (hJ0_1 gb63 _ ⟨(zr5 HBr), (zk BK61), (show w_15.heap.size ≤ gb63 from by omega)⟩)
 clear HBr hHeld
 rintro ⟨Ao66, co67⟩ w_65 ⟨h0_, h1_⟩
 try dsimp only at h0_ h1_
 have HBr := jA h0_
 have HF68 := jA h1_
 clear h0_ h1_
 have HS69 := jA HBr.out.size
 refine putsN ?_
 replace HB := jA (below_step HB0_.out HBr.out)
 refine three_ (i := 3) (j := 13) (k := 14) (Ni := some 49) (Nj := some 12) (Nk := some 13) m18_3ec00 m18_3ac10 m18_3ac08 rfl rfl rfl rfl rfl rfl (three_of HT_.out zr) (by decide) (by decide) (by decide) (fun K hK => ?_) (fun K hK => ?_) (fun K hK => ?_)
 ·skip
  refine goes_ Try.func17 zr rfl #[.agg #[.int .i64 a1_0, .slice A1_1 l1_1.length c1_1], .bool false] (by rfl) rfl rfl zm ?_
  (with_reducible refine (laws_toMagazineX.calls k a1_0 _ _ l1_1 false a1_0 ext1_1 _ ?side1 ?side2 (by unfold laws_toMagazineX.f; rw [HTO1_1.out, Option.bind_some])).mono ?_)
  (case side1 => exact zs HR1_1 HB)
  (case side2 => exact HC1_1.out)
  rintro e w_70 ⟨Ao72, no73, co74, rfl, hn, ho, hb⟩
  obtain rfl : no73 = xs1_1.length := hn.full HXL1_1.out HNE1_1.out
  clear hn
  have ho1 := jA (Kd.R_lower (R_span ho) (Nat.le_trans HB.out.size (zy : Below w_65.heap.size w_65 _).size))
  clear ho
  have HBi := zJ w_65 w_70 hb
  clear hb
  have HS75 := jA HBi.out.size
  replace HBr := jA (below_step HBr.out HBi.out)
  replace HF68 := zA Kd.R_below HF68 HBi
  clear HBi
  have HO71 := zM w_65 w_70 ho1
  clear ho1
  refine ⟨_, rfl, ?_⟩
  refine hK.out _ _ (hSB_ _ HBr.out) (fun hHeld => putN 49 ?_)
  clear hK K
  have sHS69 := HS69.out; have sHS75 := HS75.out
  exact putsJ (hJ2_ ((Ao66, co67), (Ao72, co74)) _ ⟨(zr5 HBr), latT HF68, latT HO71⟩)
 ·skip
  refine boxN 12 #[.int .i64 0, .slice none 0 0] 28 ?_
  intro gb78 hg_ w_77 hbox hb
  have BK76 := jA hbox
  have HGgb78 := jA (blk_lt hbox)
  have HLgb78 : Aside0 (w_65.heap.size ≤ gb78) := ⟨by rw [hg_]; exact Nat.le_refl _⟩
  clear hbox hg_
  have HBi := zJ w_65 w_77 hb
  clear hb
  have HS79 := jA HBi.out.size
  replace HBr := jA (below_step HBr.out HBi.out)
  replace HF68 := zA Kd.R_below HF68 HBi
  clear HBi
  refine hK.out _ _ (hSB_ _ HBr.out) (fun hHeld => putN 12 ?_)
  clear hK K
  have sHS69 := HS69.out; have sHS79 := HS79.out; have sHGgb78 := HGgb78.out; have sHLgb78 := HLgb78.out
  exact putsJ (hJ1_0 ((Ao66, co67), gb78) _ ⟨(zr5 HBr), latT HF68, (zk BK76), (show w_15.heap.size ≤ gb78 from by omega)⟩)
 ·skip
  refine boxN 13 #[.int .i64 0, .slice none 0 0] 28 ?_
  intro gb82 hg_ w_81 hbox hb
  have BK80 := jA hbox
  have HGgb82 := jA (blk_lt hbox)
  have HLgb82 : Aside0 (w_65.heap.size ≤ gb82) := ⟨by rw [hg_]; exact Nat.le_refl _⟩
  clear hbox hg_
  have HBi := zJ w_65 w_81 hb
  clear hb
  have HS83 := jA HBi.out.size
  replace HBr := jA (below_step HBr.out HBi.out)
  replace HF68 := zA Kd.R_below HF68 HBi
  clear HBi
  refine hK.out _ _ (hSB_ _ HBr.out) (fun hHeld => putN 13 ?_)
  clear hK K
  have sHS69 := HS69.out; have sHS83 := HS83.out; have sHGgb82 := HGgb82.out; have sHLgb82 := HLgb82.out
  exact putsJ (hJ1_1 ((Ao66, co67), gb82) _ ⟨(zr5 HBr), latT HF68, (zk BK80), (show w_15.heap.size ≤ gb82 from by omega)⟩)
 clear HBr hHeld
 rintro gb85 w_84 ⟨h0_, h1_, h2_⟩
 try dsimp only at h0_ h1_ h2_
 have HBr := jA h0_
 have HF86 := jA h1_
 have HF87 := jA h2_
 clear h0_ h1_ h2_
 have HS88 := jA HBr.out.size
 have HG89 := jA (blk_lt HF86.out)
 refine putsN ?_
 replace HB := jA (below_step HB0_.out HBr.out)
 refine two_ (i := 1) (j := 14) (Ni := some 47) (Nj := some 13) m18_3ac10 m18_2ac18 rfl rfl rfl rfl (two_of HT_.out zr) (by decide) (by decide) (fun K hK => ?_) (fun K hK => ?_)
 ·skip
  refine goes_ Try.func16 zr rfl #[.slice A0 l0.length c0, .bool false] (by rfl) rfl rfl zm ?_
  (with_reducible refine (laws_toArticleSX.calls k _ _ l0 false ext0 _ ?side1 ?side2 HTO0.out).mono ?_)
  (case side1 => exact zs HR0 HB)
  (case side2 => exact HC0.out)
  rintro e w_90 ⟨Ao92, no93, co94, rfl, hn, ho, hb⟩
  obtain rfl : no93 = xs0.length := hn.full HXL0.out HNE0.out
  clear hn
  have ho1 := jA (Kd.R_lower (R_span ho) (Nat.le_trans HB.out.size (zy : Below w_84.heap.size w_84 _).size))
  clear ho
  have HBi := zJ w_84 w_90 hb
  clear hb
  have HS95 := jA HBi.out.size
  replace HBr := jA (below_step HBr.out HBi.out)
  replace HF86 := zA jO HF86 HBi
  clear HBi
  have HO91 := zM w_84 w_90 ho1
  clear ho1
  refine ⟨_, rfl, ?_⟩
  refine hK.out _ _ (hSB_ _ HBr.out) (fun hHeld => putN 47 ?_)
  clear hK K
  have sHS88 := HS88.out; have sHG89 := HG89.out; have sHF87 := HF87.out; have sHS95 := HS95.out
  exact putsJ (hJ1_0 ((Ao92, co94), gb85) _ ⟨(zr5 HBr), latT HO91, (by (with_reducible repeat (first | refine blk_drewN ?_ _ | refine blk_drew ?_ | refine blk_alloc ?_ _)); exact HF86.out), (show w_15.heap.size ≤ gb85 from by omega)⟩)
 ·skip
  refine boxN 13 #[.int .i64 0, .slice none 0 0] 28 ?_
  intro gb98 hg_ w_97 hbox hb
  have BK96 := jA hbox
  have HGgb98 := jA (blk_lt hbox)
  have HLgb98 : Aside0 (w_84.heap.size ≤ gb98) := ⟨by rw [hg_]; exact Nat.le_refl _⟩
  clear hbox hg_
  have HBi := zJ w_84 w_97 hb
  clear hb
  have HS99 := jA HBi.out.size
  replace HBr := jA (below_step HBr.out HBi.out)
  replace HF86 := zA jO HF86 HBi
  clear HBi
  refine hK.out _ _ (hSB_ _ HBr.out) (fun hHeld => putN 13 ?_)
  clear hK K
  have sHS88 := HS88.out; have sHG89 := HG89.out; have sHF87 := HF87.out; have sHS99 := HS99.out; have sHGgb98 := HGgb98.out; have sHLgb98 := HLgb98.out
  exact putsJ (hJ0_01 (gb85, gb98) _ ⟨(zr5 HBr), (by (with_reducible repeat (first | refine blk_drewN ?_ _ | refine blk_drew ?_ | refine blk_alloc ?_ _)); exact HF86.out), (show w_15.heap.size ≤ gb85 from by omega), (zk BK96), (show w_15.heap.size ≤ gb98 from by omega), (show gb85 ≠ gb98 from by omega)⟩)
 clear HBr hHeld
 rintro gb101 w_100 ⟨h0_, h1_, h2_⟩
 try dsimp only at h0_ h1_ h2_
 have HBr := jA h0_
 have HF102 := jA h1_
 have HF103 := jA h2_
 clear h0_ h1_ h2_
 have HS104 := jA HBr.out.size
 have HG105 := jA (blk_lt HF102.out)
 refine putsN ?_
 replace HB := jA (below_step HB0_.out HBr.out)
 refine two_ (i := 1) (j := 13) (Ni := some 47) (Nj := some 12) m18_3ac08 m18_2ac18 rfl rfl rfl rfl (two_of HT_.out zr) (by decide) (by decide) (fun K hK => ?_) (fun K hK => ?_)
 ·skip
  refine goes_ Try.func16 zr rfl #[.slice A0 l0.length c0, .bool false] (by rfl) rfl rfl zm ?_
  (with_reducible refine (laws_toArticleSX.calls k _ _ l0 false ext0 _ ?side1 ?side2 HTO0.out).mono ?_)
  (case side1 => exact zs HR0 HB)
  (case side2 => exact HC0.out)
  rintro e w_106 ⟨Ao108, no109, co110, rfl, hn, ho, hb⟩
  obtain rfl : no109 = xs0.length := hn.full HXL0.out HNE0.out
  clear hn
  have ho1 := jA (Kd.R_lower (R_span ho) (Nat.le_trans HB.out.size (zy : Below w_100.heap.size w_100 _).size))
  clear ho
  have HBi := zJ w_100 w_106 hb
  clear hb
  have HS111 := jA HBi.out.size
  replace HBr := jA (below_step HBr.out HBi.out)
  replace HF102 := zA jO HF102 HBi
  clear HBi
  have HO107 := zM w_100 w_106 ho1
  clear ho1
  refine ⟨_, rfl, ?_⟩
  refine hK.out _ _ (hSB_ _ HBr.out) (fun hHeld => putN 47 ?_)
  clear hK K
  have sHS104 := HS104.out; have sHG105 := HG105.out; have sHF103 := HF103.out; have sHS111 := HS111.out
  exact putsJ (hJ1_1 ((Ao108, co110), gb101) _ ⟨(zr5 HBr), latT HO107, (by (with_reducible repeat (first | refine blk_drewN ?_ _ | refine blk_drew ?_ | refine blk_alloc ?_ _)); exact HF102.out), (show w_15.heap.size ≤ gb101 from by omega)⟩)
 ·skip
  refine boxN 12 #[.int .i64 0, .slice none 0 0] 28 ?_
  intro gb114 hg_ w_113 hbox hb
  have BK112 := jA hbox
  have HGgb114 := jA (blk_lt hbox)
  have HLgb114 : Aside0 (w_100.heap.size ≤ gb114) := ⟨by rw [hg_]; exact Nat.le_refl _⟩
  clear hbox hg_
  have HBi := zJ w_100 w_113 hb
  clear hb
  have HS115 := jA HBi.out.size
  replace HBr := jA (below_step HBr.out HBi.out)
  replace HF102 := zA jO HF102 HBi
  clear HBi
  refine hK.out _ _ (hSB_ _ HBr.out) (fun hHeld => putN 12 ?_)
  clear hK K
  have sHS104 := HS104.out; have sHG105 := HG105.out; have sHF103 := HF103.out; have sHS115 := HS115.out; have sHGgb114 := HGgb114.out; have sHLgb114 := HLgb114.out
  exact putsJ (hJ0_01 (gb114, gb101) _ ⟨(zr5 HBr), (zk BK112), (show w_15.heap.size ≤ gb114 from by omega), (by (with_reducible repeat (first | refine blk_drewN ?_ _ | refine blk_drew ?_ | refine blk_alloc ?_ _)); exact HF102.out), (show w_15.heap.size ≤ gb101 from by omega), (show gb114 ≠ gb101 from by omega)⟩)
 clear HBr hHeld
 rintro ⟨⟨Ao117, co118⟩, ⟨Ao119, co120⟩⟩ w_116 ⟨h0_, h1_, h2_⟩
 try dsimp only at h0_ h1_ h2_
 have HBr := jA h0_
 have HF121 := jA h1_
 have HF122 := jA h2_
 clear h0_ h1_ h2_
 have HS123 := jA HBr.out.size
 refine putsN ?_
 replace HB := jA (below_step HB0_.out HBr.out)
 refine three_ (i := 5) (j := 13) (k := 14) (Ni := some 51) (Nj := some 12) (Nk := some 13) m18_3fc00 m18_3ec10 m18_3ec08 rfl rfl rfl rfl rfl rfl (three_of HT_.out zr) (by decide) (by decide) (by decide) (fun K hK => ?_) (fun K hK => ?_) (fun K hK => ?_)
 ·skip
  refine goes_ Try.func17 zr rfl #[.agg #[.int .i64 a2_0, .slice A2_1 l2_1.length c2_1], .bool false] (by rfl) rfl rfl zm ?_
  (with_reducible refine (laws_toMagazineX.calls k a2_0 _ _ l2_1 false a2_0 ext2_1 _ ?side1 ?side2 (by unfold laws_toMagazineX.f; rw [HTO2_1.out, Option.bind_some])).mono ?_)
  (case side1 => exact zs HR2_1 HB)
  (case side2 => exact HC2_1.out)
  rintro e w_124 ⟨Ao126, no127, co128, rfl, hn, ho, hb⟩
  obtain rfl : no127 = xs2_1.length := hn.full HXL2_1.out HNE2_1.out
  clear hn
  have ho1 := jA (Kd.R_lower (R_span ho) (Nat.le_trans HB.out.size (zy : Below w_116.heap.size w_116 _).size))
  clear ho
  have HBi := zJ w_116 w_124 hb
  clear hb
  have HS129 := jA HBi.out.size
  replace HBr := jA (below_step HBr.out HBi.out)
  replace HF121 := zA Kd.R_below HF121 HBi
  replace HF122 := zA Kd.R_below HF122 HBi
  clear HBi
  have HO125 := zM w_116 w_124 ho1
  clear ho1
  refine ⟨_, rfl, ?_⟩
  refine hK.out _ _ (hSB_ _ HBr.out) (fun hHeld => putN 51 ?_)
  clear hK K
  have sHS123 := HS123.out; have sHS129 := HS129.out
  exact putsJ (hJ3_ ((Ao117, co118), (Ao119, co120), (Ao126, co128)) _ ⟨(zr5 HBr), latT HF121, latT HF122, latT HO125⟩)
 ·skip
  refine boxN 12 #[.int .i64 0, .slice none 0 0] 28 ?_
  intro gb132 hg_ w_131 hbox hb
  have BK130 := jA hbox
  have HGgb132 := jA (blk_lt hbox)
  have HLgb132 : Aside0 (w_116.heap.size ≤ gb132) := ⟨by rw [hg_]; exact Nat.le_refl _⟩
  clear hbox hg_
  have HBi := zJ w_116 w_131 hb
  clear hb
  have HS133 := jA HBi.out.size
  replace HBr := jA (below_step HBr.out HBi.out)
  replace HF121 := zA Kd.R_below HF121 HBi
  replace HF122 := zA Kd.R_below HF122 HBi
  clear HBi
  refine hK.out _ _ (hSB_ _ HBr.out) (fun hHeld => putN 12 ?_)
  clear hK K
  have sHS123 := HS123.out; have sHS133 := HS133.out; have sHGgb132 := HGgb132.out; have sHLgb132 := HLgb132.out
  exact putsJ (hJ2_0 ((Ao117, co118), (Ao119, co120), gb132) _ ⟨(zr5 HBr), latT HF121, latT HF122, (zk BK130), (show w_15.heap.size ≤ gb132 from by omega)⟩)
 ·skip
  refine boxN 13 #[.int .i64 0, .slice none 0 0] 28 ?_
  intro gb136 hg_ w_135 hbox hb
  have BK134 := jA hbox
  have HGgb136 := jA (blk_lt hbox)
  have HLgb136 : Aside0 (w_116.heap.size ≤ gb136) := ⟨by rw [hg_]; exact Nat.le_refl _⟩
  clear hbox hg_
  have HBi := zJ w_116 w_135 hb
  clear hb
  have HS137 := jA HBi.out.size
  replace HBr := jA (below_step HBr.out HBi.out)
  replace HF121 := zA Kd.R_below HF121 HBi
  replace HF122 := zA Kd.R_below HF122 HBi
  clear HBi
  refine hK.out _ _ (hSB_ _ HBr.out) (fun hHeld => putN 13 ?_)
  clear hK K
  have sHS123 := HS123.out; have sHS137 := HS137.out; have sHGgb136 := HGgb136.out; have sHLgb136 := HLgb136.out
  exact putsJ (hJ2_1 ((Ao117, co118), (Ao119, co120), gb136) _ ⟨(zr5 HBr), latT HF121, latT HF122, (zk BK134), (show w_15.heap.size ≤ gb136 from by omega)⟩)
 clear HBr hHeld
 rintro ⟨⟨Ao139, co140⟩, gb141⟩ w_138 ⟨h0_, h1_, h2_, h3_⟩
 try dsimp only at h0_ h1_ h2_ h3_
 have HBr := jA h0_
 have HF142 := jA h1_
 have HF143 := jA h2_
 have HF144 := jA h3_
 clear h0_ h1_ h2_ h3_
 have HS145 := jA HBr.out.size
 have HG146 := jA (blk_lt HF143.out)
 refine putsN ?_
 replace HB := jA (below_step HB0_.out HBr.out)
 refine two_ (i := 3) (j := 14) (Ni := some 49) (Nj := some 13) m18_3ec10 m18_3ac18 rfl rfl rfl rfl (two_of HT_.out zr) (by decide) (by decide) (fun K hK => ?_) (fun K hK => ?_)
 ·skip
  refine goes_ Try.func17 zr rfl #[.agg #[.int .i64 a1_0, .slice A1_1 l1_1.length c1_1], .bool false] (by rfl) rfl rfl zm ?_
  (with_reducible refine (laws_toMagazineX.calls k a1_0 _ _ l1_1 false a1_0 ext1_1 _ ?side1 ?side2 (by unfold laws_toMagazineX.f; rw [HTO1_1.out, Option.bind_some])).mono ?_)
  (case side1 => exact zs HR1_1 HB)
  (case side2 => exact HC1_1.out)
  rintro e w_147 ⟨Ao149, no150, co151, rfl, hn, ho, hb⟩
  obtain rfl : no150 = xs1_1.length := hn.full HXL1_1.out HNE1_1.out
  clear hn
  have ho1 := jA (Kd.R_lower (R_span ho) (Nat.le_trans HB.out.size (zy : Below w_138.heap.size w_138 _).size))
  clear ho
  have HBi := zJ w_138 w_147 hb
  clear hb
  have HS152 := jA HBi.out.size
  replace HBr := jA (below_step HBr.out HBi.out)
  replace HF142 := zA Kd.R_below HF142 HBi
  replace HF143 := zA jO HF143 HBi
  clear HBi
  have HO148 := zM w_138 w_147 ho1
  clear ho1
  refine ⟨_, rfl, ?_⟩
  refine hK.out _ _ (hSB_ _ HBr.out) (fun hHeld => putN 49 ?_)
  clear hK K
  have sHS145 := HS145.out; have sHG146 := HG146.out; have sHF144 := HF144.out; have sHS152 := HS152.out
  exact putsJ (hJ2_0 ((Ao139, co140), (Ao149, co151), gb141) _ ⟨(zr5 HBr), latT HF142, latT HO148, (by (with_reducible repeat (first | refine blk_drewN ?_ _ | refine blk_drew ?_ | refine blk_alloc ?_ _)); exact HF143.out), (show w_15.heap.size ≤ gb141 from by omega)⟩)
 ·skip
  refine boxN 13 #[.int .i64 0, .slice none 0 0] 28 ?_
  intro gb155 hg_ w_154 hbox hb
  have BK153 := jA hbox
  have HGgb155 := jA (blk_lt hbox)
  have HLgb155 : Aside0 (w_138.heap.size ≤ gb155) := ⟨by rw [hg_]; exact Nat.le_refl _⟩
  clear hbox hg_
  have HBi := zJ w_138 w_154 hb
  clear hb
  have HS156 := jA HBi.out.size
  replace HBr := jA (below_step HBr.out HBi.out)
  replace HF142 := zA Kd.R_below HF142 HBi
  replace HF143 := zA jO HF143 HBi
  clear HBi
  refine hK.out _ _ (hSB_ _ HBr.out) (fun hHeld => putN 13 ?_)
  clear hK K
  have sHS145 := HS145.out; have sHG146 := HG146.out; have sHF144 := HF144.out; have sHS156 := HS156.out; have sHGgb155 := HGgb155.out; have sHLgb155 := HLgb155.out
  exact putsJ (hJ1_01 ((Ao139, co140), gb141, gb155) _ ⟨(zr5 HBr), latT HF142, (by (with_reducible repeat (first | refine blk_drewN ?_ _ | refine blk_drew ?_ | refine blk_alloc ?_ _)); exact HF143.out), (show w_15.heap.size ≤ gb141 from by omega), (zk BK153), (show w_15.heap.size ≤ gb155 from by omega), (show gb141 ≠ gb155 from by omega)⟩)
 clear HBr hHeld
 rintro ⟨⟨Ao158, co159⟩, gb160⟩ w_157 ⟨h0_, h1_, h2_, h3_⟩
 try dsimp only at h0_ h1_ h2_ h3_
 have HBr := jA h0_
 have HF161 := jA h1_
 have HF162 := jA h2_
 have HF163 := jA h3_
 clear h0_ h1_ h2_ h3_
 have HS164 := jA HBr.out.size
 have HG165 := jA (blk_lt HF162.out)
 refine putsN ?_
 replace HB := jA (below_step HB0_.out HBr.out)
 refine two_ (i := 3) (j := 13) (Ni := some 49) (Nj := some 12) m18_3ec08 m18_3ac18 rfl rfl rfl rfl (two_of HT_.out zr) (by decide) (by decide) (fun K hK => ?_) (fun K hK => ?_)
 ·skip
  refine goes_ Try.func17 zr rfl #[.agg #[.int .i64 a1_0, .slice A1_1 l1_1.length c1_1], .bool false] (by rfl) rfl rfl zm ?_
  (with_reducible refine (laws_toMagazineX.calls k a1_0 _ _ l1_1 false a1_0 ext1_1 _ ?side1 ?side2 (by unfold laws_toMagazineX.f; rw [HTO1_1.out, Option.bind_some])).mono ?_)
  (case side1 => exact zs HR1_1 HB)
  (case side2 => exact HC1_1.out)
  rintro e w_166 ⟨Ao168, no169, co170, rfl, hn, ho, hb⟩
  obtain rfl : no169 = xs1_1.length := hn.full HXL1_1.out HNE1_1.out
  clear hn
  have ho1 := jA (Kd.R_lower (R_span ho) (Nat.le_trans HB.out.size (zy : Below w_157.heap.size w_157 _).size))
  clear ho
  have HBi := zJ w_157 w_166 hb
  clear hb
  have HS171 := jA HBi.out.size
  replace HBr := jA (below_step HBr.out HBi.out)
  replace HF161 := zA Kd.R_below HF161 HBi
  replace HF162 := zA jO HF162 HBi
  clear HBi
  have HO167 := zM w_157 w_166 ho1
  clear ho1
  refine ⟨_, rfl, ?_⟩
  refine hK.out _ _ (hSB_ _ HBr.out) (fun hHeld => putN 49 ?_)
  clear hK K
  have sHS164 := HS164.out; have sHG165 := HG165.out; have sHF163 := HF163.out; have sHS171 := HS171.out
  exact putsJ (hJ2_1 ((Ao158, co159), (Ao168, co170), gb160) _ ⟨(zr5 HBr), latT HF161, latT HO167, (by (with_reducible repeat (first | refine blk_drewN ?_ _ | refine blk_drew ?_ | refine blk_alloc ?_ _)); exact HF162.out), (show w_15.heap.size ≤ gb160 from by omega)⟩)
 ·skip
  refine boxN 12 #[.int .i64 0, .slice none 0 0] 28 ?_
  intro gb174 hg_ w_173 hbox hb
  have BK172 := jA hbox
  have HGgb174 := jA (blk_lt hbox)
  have HLgb174 : Aside0 (w_157.heap.size ≤ gb174) := ⟨by rw [hg_]; exact Nat.le_refl _⟩
  clear hbox hg_
  have HBi := zJ w_157 w_173 hb
  clear hb
  have HS175 := jA HBi.out.size
  replace HBr := jA (below_step HBr.out HBi.out)
  replace HF161 := zA Kd.R_below HF161 HBi
  replace HF162 := zA jO HF162 HBi
  clear HBi
  refine hK.out _ _ (hSB_ _ HBr.out) (fun hHeld => putN 12 ?_)
  clear hK K
  have sHS164 := HS164.out; have sHG165 := HG165.out; have sHF163 := HF163.out; have sHS175 := HS175.out; have sHGgb174 := HGgb174.out; have sHLgb174 := HLgb174.out
  exact putsJ (hJ1_01 ((Ao158, co159), gb174, gb160) _ ⟨(zr5 HBr), latT HF161, (zk BK172), (show w_15.heap.size ≤ gb174 from by omega), (by (with_reducible repeat (first | refine blk_drewN ?_ _ | refine blk_drew ?_ | refine blk_alloc ?_ _)); exact HF162.out), (show w_15.heap.size ≤ gb160 from by omega), (show gb174 ≠ gb160 from by omega)⟩)
 clear HBr hHeld
 rintro ⟨gb177, gb178⟩ w_176 ⟨h0_, h1_, h2_, h3_, h4_, h5_⟩
 try dsimp only at h0_ h1_ h2_ h3_ h4_ h5_
 have HBr := jA h0_
 have HF179 := jA h1_
 have HF180 := jA h2_
 have HF181 := jA h3_
 have HF182 := jA h4_
 have HF183 := jA h5_
 clear h0_ h1_ h2_ h3_ h4_ h5_
 have HS184 := jA HBr.out.size
 have HG185 := jA (blk_lt HF179.out)
 have HG186 := jA (blk_lt HF181.out)
 refine putsN ?_
 replace HB := jA (below_step HB0_.out HBr.out)
 refine one_ (i := 1) (N := some 47) m18_3ac18 rfl rfl (one_of HT_.out zr) (by decide) (fun K hK => ?_)
 ·skip
  refine goes_ Try.func16 zr rfl #[.slice A0 l0.length c0, .bool false] (by rfl) rfl rfl zm ?_
  (with_reducible refine (laws_toArticleSX.calls k _ _ l0 false ext0 _ ?side1 ?side2 HTO0.out).mono ?_)
  (case side1 => exact zs HR0 HB)
  (case side2 => exact HC0.out)
  rintro e w_187 ⟨Ao189, no190, co191, rfl, hn, ho, hb⟩
  obtain rfl : no190 = xs0.length := hn.full HXL0.out HNE0.out
  clear hn
  have ho1 := jA (Kd.R_lower (R_span ho) (Nat.le_trans HB.out.size (zy : Below w_176.heap.size w_176 _).size))
  clear ho
  have HBi := zJ w_176 w_187 hb
  clear hb
  have HS192 := jA HBi.out.size
  replace HBr := jA (below_step HBr.out HBi.out)
  replace HF179 := zA jO HF179 HBi
  replace HF181 := zA jO HF181 HBi
  clear HBi
  have HO188 := zM w_176 w_187 ho1
  clear ho1
  refine ⟨_, rfl, ?_⟩
  refine hK.out _ _ (hSB_ _ HBr.out) (fun hHeld => putN 47 ?_)
  clear hK K
  have sHS184 := HS184.out; have sHG185 := HG185.out; have sHF180 := HF180.out; have sHG186 := HG186.out; have sHF182 := HF182.out; have sHF183 := HF183.out; have sHS192 := HS192.out
  exact putsJ (hJ1_01 ((Ao189, co191), gb177, gb178) _ ⟨(zr5 HBr), latT HO188, (by (with_reducible repeat (first | refine blk_drewN ?_ _ | refine blk_drew ?_ | refine blk_alloc ?_ _)); exact HF179.out), (show w_15.heap.size ≤ gb177 from by omega), (by (with_reducible repeat (first | refine blk_drewN ?_ _ | refine blk_drew ?_ | refine blk_alloc ?_ _)); exact HF181.out), (show w_15.heap.size ≤ gb178 from by omega), (show gb177 ≠ gb178 from by omega)⟩)
 clear HBr hHeld
 rintro ⟨⟨Ao194, co195⟩, ⟨Ao196, co197⟩, ⟨Ao198, co199⟩⟩ w_193 ⟨h0_, h1_, h2_, h3_⟩
 try dsimp only at h0_ h1_ h2_ h3_
 have HBr := jA h0_
 have HF200 := jA h1_
 have HF201 := jA h2_
 have HF202 := jA h3_
 clear h0_ h1_ h2_ h3_
 have HS203 := jA HBr.out.size
 refine putsN ?_
 replace HB := jA (below_step HB0_.out HBr.out)
 refine three_ (i := 8) (j := 13) (k := 14) (Ni := some 54) (Nj := some 12) (Nk := some 13) m18_3fe00 m18_3fc10 m18_3fc08 rfl rfl rfl rfl rfl rfl (three_of HT_.out zr) (by decide) (by decide) (by decide) (fun K hK => ?_) (fun K hK => ?_) (fun K hK => ?_)
 ·skip
  refine goes_ Try.func15 zr rfl #[.slice Ao194 xs0.length co195, .agg #[.int .i64 a1_0, .slice Ao196 xs1_1.length co197], .agg #[.int .i64 a2_0, .slice Ao198 xs2_1.length co199], .string a3, .int .i64 a4] (by rfl) rfl rfl zm ?_
  (with_reducible refine (spec_MovePieces.calls k _ _ xs0 a1_0 _ _ xs1_1 a2_0 _ _ xs2_1 a3 a4 res_r1 ws_r2 res_r3 ws_r4 res_r5 _ ?side1 ?side2 ?side3 ?side4 ?side5 ?side6 HFspec.out).mono ?_)
  (case side1 => repeat (first | exact C_ext (jP HF200.out).2.2 HXE0.out HLE0.out | (with_reducible refine Kd.C_alloc ?_ _) | (with_reducible refine Kd.C_drewN ?_ _) | (with_reducible refine Kd.C_drew ?_)))
  (case side2 => exact Nat.le_trans HLE0.out (jP HF200.out).2.1)
  (case side3 => repeat (first | exact C_ext (jP HF201.out).2.2 HXE1_1.out HLE1_1.out | (with_reducible refine Kd.C_alloc ?_ _) | (with_reducible refine Kd.C_drewN ?_ _) | (with_reducible refine Kd.C_drew ?_)))
  (case side4 => exact Nat.le_trans HLE1_1.out (jP HF201.out).2.1)
  (case side5 => repeat (first | exact C_ext (jP HF202.out).2.2 HXE2_1.out HLE2_1.out | (with_reducible refine Kd.C_alloc ?_ _) | (with_reducible refine Kd.C_drewN ?_ _) | (with_reducible refine Kd.C_drew ?_)))
  (case side6 => exact Nat.le_trans HLE2_1.out (jP HF202.out).2.1)
  rintro e w_204 ⟨v_205, v_206, rfl, ho1, ho2, hb⟩
  have hoA := jA (Kd.R_lower (R_own rfl ho1) (Nat.le_trans HB.out.size (zy : Below w_193.heap.size w_193 _).size))
  have hoB := jA (Kd.R_lower (R_near ho2) (Nat.le_trans HB.out.size (zy : Below w_193.heap.size w_193 _).size))
  clear ho1 ho2
  have HBi := zJ w_193 w_204 hb
  clear hb
  have HS207 := jA HBi.out.size
  replace HBr := jA (below_step HBr.out HBi.out)
  replace HF200 := zA Kd.R_below HF200 HBi
  replace HF201 := zA Kd.R_below HF201 HBi
  replace HF202 := zA Kd.R_below HF202 HBi
  clear HBi
  obtain ⟨Ao209, co210, eo211⟩ := Kd.R_slice hoA.out
  subst eo211
  obtain ⟨Ao213, co214, eo215⟩ := Kd.R_slice hoB.out
  subst eo215
  have HO208 := jA (Kd.R_mono (ok' := fun k_ => (w_193.heap.size ≤ k_ ∧ k_ < w_204.heap.size) ∧ some k_ = (Value.slice Ao209 ws_r2.length co210).ownBlock) hoA.out (fun k_ hk_ => hk_))
  clear hoA
  have HO212 := jA (Kd.R_mono (ok' := fun k_ => (w_193.heap.size ≤ k_ ∧ k_ < w_204.heap.size) ∧ some k_ ≠ (Value.slice Ao209 ws_r2.length co210).ownBlock) hoB.out (fun k_ hk_ => hk_))
  clear hoB
  refine ⟨_, rfl, ?_⟩
  refine hK.out _ _ (hSB_ _ HBr.out) (fun hHeld => putN 54 ?_)
  clear hK K
  refine zp HT_ 9 45 m18_3ff00 ?_
  refine zp HT_ 10 55 m18_3ff80 ?_
  refine zp HT_ 11 56 m18_3ffc0 ?_
  refine zp HT_ 12 57 m18_3ffe0 ?_
  have sHS203 := HS203.out; have sHS207 := HS207.out
  exact putsJ (hJ4_ ((Ao194, co195), (Ao196, co197), (Ao198, co199), (Ao209, co210), (Ao213, co214)) _ ⟨(zr5 HBr), latP HO208, latP HO212⟩)
 ·skip
  refine boxN 12 #[.int .i64 0, .slice none 0 0] 28 ?_
  intro gb218 hg_ w_217 hbox hb
  have BK216 := jA hbox
  have HGgb218 := jA (blk_lt hbox)
  have HLgb218 : Aside0 (w_193.heap.size ≤ gb218) := ⟨by rw [hg_]; exact Nat.le_refl _⟩
  clear hbox hg_
  have HBi := zJ w_193 w_217 hb
  clear hb
  have HS219 := jA HBi.out.size
  replace HBr := jA (below_step HBr.out HBi.out)
  replace HF200 := zA Kd.R_below HF200 HBi
  replace HF201 := zA Kd.R_below HF201 HBi
  replace HF202 := zA Kd.R_below HF202 HBi
  clear HBi
  refine hK.out _ _ (hSB_ _ HBr.out) (fun hHeld => putN 12 ?_)
  clear hK K
  have sHS203 := HS203.out; have sHS219 := HS219.out; have sHGgb218 := HGgb218.out; have sHLgb218 := HLgb218.out
  exact putsJ (hJ3_0 ((Ao194, co195), (Ao196, co197), (Ao198, co199), gb218) _ ⟨(zr5 HBr), latT HF200, latT HF201, latT HF202, (zk BK216), (show w_15.heap.size ≤ gb218 from by omega)⟩)
 ·skip
  refine boxN 13 #[.int .i64 0, .slice none 0 0] 28 ?_
  intro gb222 hg_ w_221 hbox hb
  have BK220 := jA hbox
  have HGgb222 := jA (blk_lt hbox)
  have HLgb222 : Aside0 (w_193.heap.size ≤ gb222) := ⟨by rw [hg_]; exact Nat.le_refl _⟩
  clear hbox hg_
  have HBi := zJ w_193 w_221 hb
  clear hb
  have HS223 := jA HBi.out.size
  replace HBr := jA (below_step HBr.out HBi.out)
  replace HF200 := zA Kd.R_below HF200 HBi
  replace HF201 := zA Kd.R_below HF201 HBi
  replace HF202 := zA Kd.R_below HF202 HBi
  clear HBi
  refine hK.out _ _ (hSB_ _ HBr.out) (fun hHeld => putN 13 ?_)
  clear hK K
  have sHS203 := HS203.out; have sHS223 := HS223.out; have sHGgb222 := HGgb222.out; have sHLgb222 := HLgb222.out
  exact putsJ (hJ3_1 ((Ao194, co195), (Ao196, co197), (Ao198, co199), gb222) _ ⟨(zr5 HBr), latT HF200, latT HF201, latT HF202, (zk BK220), (show w_15.heap.size ≤ gb222 from by omega)⟩)
 clear HBr hHeld
 rintro ⟨⟨Ao225, co226⟩, ⟨Ao227, co228⟩, gb229⟩ w_224 ⟨h0_, h1_, h2_, h3_, h4_⟩
 try dsimp only at h0_ h1_ h2_ h3_ h4_
 have HBr := jA h0_
 have HF230 := jA h1_
 have HF231 := jA h2_
 have HF232 := jA h3_
 have HF233 := jA h4_
 clear h0_ h1_ h2_ h3_ h4_
 have HS234 := jA HBr.out.size
 have HG235 := jA (blk_lt HF232.out)
 refine putsN ?_
 replace HB := jA (below_step HB0_.out HBr.out)
 refine two_ (i := 5) (j := 14) (Ni := some 51) (Nj := some 13) m18_3fc10 m18_3ec18 rfl rfl rfl rfl (two_of HT_.out zr) (by decide) (by decide) (fun K hK => ?_) (fun K hK => ?_)
 ·skip
  refine goes_ Try.func17 zr rfl #[.agg #[.int .i64 a2_0, .slice A2_1 l2_1.length c2_1], .bool false] (by rfl) rfl rfl zm ?_
  (with_reducible refine (laws_toMagazineX.calls k a2_0 _ _ l2_1 false a2_0 ext2_1 _ ?side1 ?side2 (by unfold laws_toMagazineX.f; rw [HTO2_1.out, Option.bind_some])).mono ?_)
  (case side1 => exact zs HR2_1 HB)
  (case side2 => exact HC2_1.out)
  rintro e w_236 ⟨Ao238, no239, co240, rfl, hn, ho, hb⟩
  obtain rfl : no239 = xs2_1.length := hn.full HXL2_1.out HNE2_1.out
  clear hn
  have ho1 := jA (Kd.R_lower (R_span ho) (Nat.le_trans HB.out.size (zy : Below w_224.heap.size w_224 _).size))
  clear ho
  have HBi := zJ w_224 w_236 hb
  clear hb
  have HS241 := jA HBi.out.size
  replace HBr := jA (below_step HBr.out HBi.out)
  replace HF230 := zA Kd.R_below HF230 HBi
  replace HF231 := zA Kd.R_below HF231 HBi
  replace HF232 := zA jO HF232 HBi
  clear HBi
  have HO237 := zM w_224 w_236 ho1
  clear ho1
  refine ⟨_, rfl, ?_⟩
  refine hK.out _ _ (hSB_ _ HBr.out) (fun hHeld => putN 51 ?_)
  clear hK K
  have sHS234 := HS234.out; have sHG235 := HG235.out; have sHF233 := HF233.out; have sHS241 := HS241.out
  exact putsJ (hJ3_0 ((Ao225, co226), (Ao227, co228), (Ao238, co240), gb229) _ ⟨(zr5 HBr), latT HF230, latT HF231, latT HO237, (by (with_reducible repeat (first | refine blk_drewN ?_ _ | refine blk_drew ?_ | refine blk_alloc ?_ _)); exact HF232.out), (show w_15.heap.size ≤ gb229 from by omega)⟩)
 ·skip
  refine boxN 13 #[.int .i64 0, .slice none 0 0] 28 ?_
  intro gb244 hg_ w_243 hbox hb
  have BK242 := jA hbox
  have HGgb244 := jA (blk_lt hbox)
  have HLgb244 : Aside0 (w_224.heap.size ≤ gb244) := ⟨by rw [hg_]; exact Nat.le_refl _⟩
  clear hbox hg_
  have HBi := zJ w_224 w_243 hb
  clear hb
  have HS245 := jA HBi.out.size
  replace HBr := jA (below_step HBr.out HBi.out)
  replace HF230 := zA Kd.R_below HF230 HBi
  replace HF231 := zA Kd.R_below HF231 HBi
  replace HF232 := zA jO HF232 HBi
  clear HBi
  refine hK.out _ _ (hSB_ _ HBr.out) (fun hHeld => putN 13 ?_)
  clear hK K
  have sHS234 := HS234.out; have sHG235 := HG235.out; have sHF233 := HF233.out; have sHS245 := HS245.out; have sHGgb244 := HGgb244.out; have sHLgb244 := HLgb244.out
  exact putsJ (hJ2_01 ((Ao225, co226), (Ao227, co228), gb229, gb244) _ ⟨(zr5 HBr), latT HF230, latT HF231, (by (with_reducible repeat (first | refine blk_drewN ?_ _ | refine blk_drew ?_ | refine blk_alloc ?_ _)); exact HF232.out), (show w_15.heap.size ≤ gb229 from by omega), (zk BK242), (show w_15.heap.size ≤ gb244 from by omega), (show gb229 ≠ gb244 from by omega)⟩)
 clear HBr hHeld
 rintro ⟨⟨Ao247, co248⟩, ⟨Ao249, co250⟩, gb251⟩ w_246 ⟨h0_, h1_, h2_, h3_, h4_⟩
 try dsimp only at h0_ h1_ h2_ h3_ h4_
 have HBr := jA h0_
 have HF252 := jA h1_
 have HF253 := jA h2_
 have HF254 := jA h3_
 have HF255 := jA h4_
 clear h0_ h1_ h2_ h3_ h4_
 have HS256 := jA HBr.out.size
 have HG257 := jA (blk_lt HF254.out)
 refine putsN ?_
 replace HB := jA (below_step HB0_.out HBr.out)
 refine two_ (i := 5) (j := 13) (Ni := some 51) (Nj := some 12) m18_3fc08 m18_3ec18 rfl rfl rfl rfl (two_of HT_.out zr) (by decide) (by decide) (fun K hK => ?_) (fun K hK => ?_)
 ·skip
  refine goes_ Try.func17 zr rfl #[.agg #[.int .i64 a2_0, .slice A2_1 l2_1.length c2_1], .bool false] (by rfl) rfl rfl zm ?_
  (with_reducible refine (laws_toMagazineX.calls k a2_0 _ _ l2_1 false a2_0 ext2_1 _ ?side1 ?side2 (by unfold laws_toMagazineX.f; rw [HTO2_1.out, Option.bind_some])).mono ?_)
  (case side1 => exact zs HR2_1 HB)
  (case side2 => exact HC2_1.out)
  rintro e w_258 ⟨Ao260, no261, co262, rfl, hn, ho, hb⟩
  obtain rfl : no261 = xs2_1.length := hn.full HXL2_1.out HNE2_1.out
  clear hn
  have ho1 := jA (Kd.R_lower (R_span ho) (Nat.le_trans HB.out.size (zy : Below w_246.heap.size w_246 _).size))
  clear ho
  have HBi := zJ w_246 w_258 hb
  clear hb
  have HS263 := jA HBi.out.size
  replace HBr := jA (below_step HBr.out HBi.out)
  replace HF252 := zA Kd.R_below HF252 HBi
  replace HF253 := zA Kd.R_below HF253 HBi
  replace HF254 := zA jO HF254 HBi
  clear HBi
  have HO259 := zM w_246 w_258 ho1
  clear ho1
  refine ⟨_, rfl, ?_⟩
  refine hK.out _ _ (hSB_ _ HBr.out) (fun hHeld => putN 51 ?_)
  clear hK K
  have sHS256 := HS256.out; have sHG257 := HG257.out; have sHF255 := HF255.out; have sHS263 := HS263.out
  exact putsJ (hJ3_1 ((Ao247, co248), (Ao249, co250), (Ao260, co262), gb251) _ ⟨(zr5 HBr), latT HF252, latT HF253, latT HO259, (by (with_reducible repeat (first | refine blk_drewN ?_ _ | refine blk_drew ?_ | refine blk_alloc ?_ _)); exact HF254.out), (show w_15.heap.size ≤ gb251 from by omega)⟩)
 ·skip
  refine boxN 12 #[.int .i64 0, .slice none 0 0] 28 ?_
  intro gb266 hg_ w_265 hbox hb
  have BK264 := jA hbox
  have HGgb266 := jA (blk_lt hbox)
  have HLgb266 : Aside0 (w_246.heap.size ≤ gb266) := ⟨by rw [hg_]; exact Nat.le_refl _⟩
  clear hbox hg_
  have HBi := zJ w_246 w_265 hb
  clear hb
  have HS267 := jA HBi.out.size
  replace HBr := jA (below_step HBr.out HBi.out)
  replace HF252 := zA Kd.R_below HF252 HBi
  replace HF253 := zA Kd.R_below HF253 HBi
  replace HF254 := zA jO HF254 HBi
  clear HBi
  refine hK.out _ _ (hSB_ _ HBr.out) (fun hHeld => putN 12 ?_)
  clear hK K
  have sHS256 := HS256.out; have sHG257 := HG257.out; have sHF255 := HF255.out; have sHS267 := HS267.out; have sHGgb266 := HGgb266.out; have sHLgb266 := HLgb266.out
  exact putsJ (hJ2_01 ((Ao247, co248), (Ao249, co250), gb266, gb251) _ ⟨(zr5 HBr), latT HF252, latT HF253, (zk BK264), (show w_15.heap.size ≤ gb266 from by omega), (by (with_reducible repeat (first | refine blk_drewN ?_ _ | refine blk_drew ?_ | refine blk_alloc ?_ _)); exact HF254.out), (show w_15.heap.size ≤ gb251 from by omega), (show gb266 ≠ gb251 from by omega)⟩)
 clear HBr hHeld
 rintro ⟨⟨Ao269, co270⟩, gb271, gb272⟩ w_268 ⟨h0_, h1_, h2_, h3_, h4_, h5_, h6_⟩
 try dsimp only at h0_ h1_ h2_ h3_ h4_ h5_ h6_
 have HBr := jA h0_
 have HF273 := jA h1_
 have HF274 := jA h2_
 have HF275 := jA h3_
 have HF276 := jA h4_
 have HF277 := jA h5_
 have HF278 := jA h6_
 clear h0_ h1_ h2_ h3_ h4_ h5_ h6_
 have HS279 := jA HBr.out.size
 have HG280 := jA (blk_lt HF274.out)
 have HG281 := jA (blk_lt HF276.out)
 refine putsN ?_
 replace HB := jA (below_step HB0_.out HBr.out)
 refine one_ (i := 3) (N := some 49) m18_3ec18 rfl rfl (one_of HT_.out zr) (by decide) (fun K hK => ?_)
 ·skip
  refine goes_ Try.func17 zr rfl #[.agg #[.int .i64 a1_0, .slice A1_1 l1_1.length c1_1], .bool false] (by rfl) rfl rfl zm ?_
  (with_reducible refine (laws_toMagazineX.calls k a1_0 _ _ l1_1 false a1_0 ext1_1 _ ?side1 ?side2 (by unfold laws_toMagazineX.f; rw [HTO1_1.out, Option.bind_some])).mono ?_)
  (case side1 => exact zs HR1_1 HB)
  (case side2 => exact HC1_1.out)
  rintro e w_282 ⟨Ao284, no285, co286, rfl, hn, ho, hb⟩
  obtain rfl : no285 = xs1_1.length := hn.full HXL1_1.out HNE1_1.out
  clear hn
  have ho1 := jA (Kd.R_lower (R_span ho) (Nat.le_trans HB.out.size (zy : Below w_268.heap.size w_268 _).size))
  clear ho
  have HBi := zJ w_268 w_282 hb
  clear hb
  have HS287 := jA HBi.out.size
  replace HBr := jA (below_step HBr.out HBi.out)
  replace HF273 := zA Kd.R_below HF273 HBi
  replace HF274 := zA jO HF274 HBi
  replace HF276 := zA jO HF276 HBi
  clear HBi
  have HO283 := zM w_268 w_282 ho1
  clear ho1
  refine ⟨_, rfl, ?_⟩
  refine hK.out _ _ (hSB_ _ HBr.out) (fun hHeld => putN 49 ?_)
  clear hK K
  have sHS279 := HS279.out; have sHG280 := HG280.out; have sHF275 := HF275.out; have sHG281 := HG281.out; have sHF277 := HF277.out; have sHF278 := HF278.out; have sHS287 := HS287.out
  exact putsJ (hJ2_01 ((Ao269, co270), (Ao284, co286), gb271, gb272) _ ⟨(zr5 HBr), latT HF273, latT HO283, (by (with_reducible repeat (first | refine blk_drewN ?_ _ | refine blk_drew ?_ | refine blk_alloc ?_ _)); exact HF274.out), (show w_15.heap.size ≤ gb271 from by omega), (by (with_reducible repeat (first | refine blk_drewN ?_ _ | refine blk_drew ?_ | refine blk_alloc ?_ _)); exact HF276.out), (show w_15.heap.size ≤ gb272 from by omega), (show gb271 ≠ gb272 from by omega)⟩)
 clear HBr hHeld
 rintro ⟨⟨Ao289, co290⟩, ⟨Ao291, co292⟩, ⟨Ao293, co294⟩, ⟨Ao295, co296⟩, ⟨Ao297, co298⟩⟩ w_288 ⟨h0_, h1_, h2_⟩
 try dsimp only at h0_ h1_ h2_
 have HBr := jA h0_
 have HF299 := jA h1_
 have HF300 := jA h2_
 clear h0_ h1_ h2_
 have HS301 := jA HBr.out.size
 refine putsN ?_
 replace HB := jA (below_step HB0_.out HBr.out)
 refine two_ (i := 13) (j := 14) (Ni := some 12) (Nj := some 13) m18_3fff0 m18_3ffe8 rfl rfl rfl rfl (two_of HT_.out zr) (by decide) (by decide) (fun K hK => ?_) (fun K hK => ?_)
 ·skip
  refine boxN 12 #[.int .i64 0, .slice none 0 0] 28 ?_
  intro gb304 hg_ w_303 hbox hb
  have BK302 := jA hbox
  have HGgb304 := jA (blk_lt hbox)
  have HLgb304 : Aside0 (w_288.heap.size ≤ gb304) := ⟨by rw [hg_]; exact Nat.le_refl _⟩
  clear hbox hg_
  have HBi := zJ w_288 w_303 hb
  clear hb
  have HS305 := jA HBi.out.size
  replace HBr := jA (below_step HBr.out HBi.out)
  replace HF299 := zA Kd.R_below HF299 HBi
  replace HF300 := zA Kd.R_below HF300 HBi
  clear HBi
  refine hK.out _ _ (hSB_ _ HBr.out) (fun hHeld => putN 12 ?_)
  clear hK K
  have sHS301 := HS301.out; have sHS305 := HS305.out; have sHGgb304 := HGgb304.out; have sHLgb304 := HLgb304.out
  exact putsJ (hJ4_0 ((Ao289, co290), (Ao291, co292), (Ao293, co294), (Ao295, co296), (Ao297, co298), gb304) _ ⟨(zr5 HBr), latP HF299, latP HF300, (zk BK302), (show w_15.heap.size ≤ gb304 from by omega)⟩)
 ·skip
  refine boxN 13 #[.int .i64 0, .slice none 0 0] 28 ?_
  intro gb308 hg_ w_307 hbox hb
  have BK306 := jA hbox
  have HGgb308 := jA (blk_lt hbox)
  have HLgb308 : Aside0 (w_288.heap.size ≤ gb308) := ⟨by rw [hg_]; exact Nat.le_refl _⟩
  clear hbox hg_
  have HBi := zJ w_288 w_307 hb
  clear hb
  have HS309 := jA HBi.out.size
  replace HBr := jA (below_step HBr.out HBi.out)
  replace HF299 := zA Kd.R_below HF299 HBi
  replace HF300 := zA Kd.R_below HF300 HBi
  clear HBi
  refine hK.out _ _ (hSB_ _ HBr.out) (fun hHeld => putN 13 ?_)
  clear hK K
  have sHS301 := HS301.out; have sHS309 := HS309.out; have sHGgb308 := HGgb308.out; have sHLgb308 := HLgb308.out
  exact putsJ (hJ4_1 ((Ao289, co290), (Ao291, co292), (Ao293, co294), (Ao295, co296), (Ao297, co298), gb308) _ ⟨(zr5 HBr), latP HF299, latP HF300, (zk BK306), (show w_15.heap.size ≤ gb308 from by omega)⟩)
 clear HBr hHeld
 rintro ⟨⟨Ao311, co312⟩, ⟨Ao313, co314⟩, ⟨Ao315, co316⟩, gb317⟩ w_310 ⟨h0_, h1_, h2_, h3_, h4_, h5_⟩
 try dsimp only at h0_ h1_ h2_ h3_ h4_ h5_
 have HBr := jA h0_
 have HF318 := jA h1_
 have HF319 := jA h2_
 have HF320 := jA h3_
 have HF321 := jA h4_
 have HF322 := jA h5_
 clear h0_ h1_ h2_ h3_ h4_ h5_
 have HS323 := jA HBr.out.size
 have HG324 := jA (blk_lt HF321.out)
 refine putsN ?_
 replace HB := jA (below_step HB0_.out HBr.out)
 refine two_ (i := 8) (j := 14) (Ni := some 54) (Nj := some 13) m18_3fe10 m18_3fc18 rfl rfl rfl rfl (two_of HT_.out zr) (by decide) (by decide) (fun K hK => ?_) (fun K hK => ?_)
 ·skip
  refine goes_ Try.func15 zr rfl #[.slice Ao311 xs0.length co312, .agg #[.int .i64 a1_0, .slice Ao313 xs1_1.length co314], .agg #[.int .i64 a2_0, .slice Ao315 xs2_1.length co316], .string a3, .int .i64 a4] (by rfl) rfl rfl zm ?_
  (with_reducible refine (spec_MovePieces.calls k _ _ xs0 a1_0 _ _ xs1_1 a2_0 _ _ xs2_1 a3 a4 res_r1 ws_r2 res_r3 ws_r4 res_r5 _ ?side1 ?side2 ?side3 ?side4 ?side5 ?side6 HFspec.out).mono ?_)
  (case side1 => repeat (first | exact C_ext (jP HF318.out).2.2 HXE0.out HLE0.out | (with_reducible refine Kd.C_alloc ?_ _) | (with_reducible refine Kd.C_drewN ?_ _) | (with_reducible refine Kd.C_drew ?_)))
  (case side2 => exact Nat.le_trans HLE0.out (jP HF318.out).2.1)
  (case side3 => repeat (first | exact C_ext (jP HF319.out).2.2 HXE1_1.out HLE1_1.out | (with_reducible refine Kd.C_alloc ?_ _) | (with_reducible refine Kd.C_drewN ?_ _) | (with_reducible refine Kd.C_drew ?_)))
  (case side4 => exact Nat.le_trans HLE1_1.out (jP HF319.out).2.1)
  (case side5 => repeat (first | exact C_ext (jP HF320.out).2.2 HXE2_1.out HLE2_1.out | (with_reducible refine Kd.C_alloc ?_ _) | (with_reducible refine Kd.C_drewN ?_ _) | (with_reducible refine Kd.C_drew ?_)))
  (case side6 => exact Nat.le_trans HLE2_1.out (jP HF320.out).2.1)
  rintro e w_325 ⟨v_326, v_327, rfl, ho1, ho2, hb⟩
  have hoA := jA (Kd.R_lower (R_own rfl ho1) (Nat.le_trans HB.out.size (zy : Below w_310.heap.size w_310 _).size))
  have hoB := jA (Kd.R_lower (R_near ho2) (Nat.le_trans HB.out.size (zy : Below w_310.heap.size w_310 _).size))
  clear ho1 ho2
  have HBi := zJ w_310 w_325 hb
  clear hb
  have HS328 := jA HBi.out.size
  replace HBr := jA (below_step HBr.out HBi.out)
  replace HF318 := zA Kd.R_below HF318 HBi
  replace HF319 := zA Kd.R_below HF319 HBi
  replace HF320 := zA Kd.R_below HF320 HBi
  replace HF321 := zA jO HF321 HBi
  clear HBi
  obtain ⟨Ao330, co331, eo332⟩ := Kd.R_slice hoA.out
  subst eo332
  obtain ⟨Ao334, co335, eo336⟩ := Kd.R_slice hoB.out
  subst eo336
  have HO329 := jA (Kd.R_mono (ok' := fun k_ => (w_310.heap.size ≤ k_ ∧ k_ < w_325.heap.size) ∧ some k_ = (Value.slice Ao330 ws_r2.length co331).ownBlock) hoA.out (fun k_ hk_ => hk_))
  clear hoA
  have HO333 := jA (Kd.R_mono (ok' := fun k_ => (w_310.heap.size ≤ k_ ∧ k_ < w_325.heap.size) ∧ some k_ ≠ (Value.slice Ao330 ws_r2.length co331).ownBlock) hoB.out (fun k_ hk_ => hk_))
  clear hoB
  refine ⟨_, rfl, ?_⟩
  refine hK.out _ _ (hSB_ _ HBr.out) (fun hHeld => putN 54 ?_)
  clear hK K
  refine zp HT_ 9 45 m18_3ff10 ?_
  refine zp HT_ 10 55 m18_3ff90 ?_
  refine zp HT_ 11 56 m18_3ffd0 ?_
  refine zp HT_ 12 57 m18_3fff0 ?_
  have sHS323 := HS323.out; have sHG324 := HG324.out; have sHF322 := HF322.out; have sHS328 := HS328.out
  exact putsJ (hJ4_0 ((Ao311, co312), (Ao313, co314), (Ao315, co316), (Ao330, co331), (Ao334, co335), gb317) _ ⟨(zr5 HBr), latP HO329, latP HO333, (by (with_reducible repeat (first | refine blk_drewN ?_ _ | refine blk_drew ?_ | refine blk_alloc ?_ _)); exact HF321.out), (show w_15.heap.size ≤ gb317 from by omega)⟩)
 ·skip
  refine boxN 13 #[.int .i64 0, .slice none 0 0] 28 ?_
  intro gb339 hg_ w_338 hbox hb
  have BK337 := jA hbox
  have HGgb339 := jA (blk_lt hbox)
  have HLgb339 : Aside0 (w_310.heap.size ≤ gb339) := ⟨by rw [hg_]; exact Nat.le_refl _⟩
  clear hbox hg_
  have HBi := zJ w_310 w_338 hb
  clear hb
  have HS340 := jA HBi.out.size
  replace HBr := jA (below_step HBr.out HBi.out)
  replace HF318 := zA Kd.R_below HF318 HBi
  replace HF319 := zA Kd.R_below HF319 HBi
  replace HF320 := zA Kd.R_below HF320 HBi
  replace HF321 := zA jO HF321 HBi
  clear HBi
  refine hK.out _ _ (hSB_ _ HBr.out) (fun hHeld => putN 13 ?_)
  clear hK K
  have sHS323 := HS323.out; have sHG324 := HG324.out; have sHF322 := HF322.out; have sHS340 := HS340.out; have sHGgb339 := HGgb339.out; have sHLgb339 := HLgb339.out
  exact putsJ (hJ3_01 ((Ao311, co312), (Ao313, co314), (Ao315, co316), gb317, gb339) _ ⟨(zr5 HBr), latT HF318, latT HF319, latT HF320, (by (with_reducible repeat (first | refine blk_drewN ?_ _ | refine blk_drew ?_ | refine blk_alloc ?_ _)); exact HF321.out), (show w_15.heap.size ≤ gb317 from by omega), (zk BK337), (show w_15.heap.size ≤ gb339 from by omega), (show gb317 ≠ gb339 from by omega)⟩)
 clear HBr hHeld
 rintro ⟨⟨Ao342, co343⟩, ⟨Ao344, co345⟩, ⟨Ao346, co347⟩, gb348⟩ w_341 ⟨h0_, h1_, h2_, h3_, h4_, h5_⟩
 try dsimp only at h0_ h1_ h2_ h3_ h4_ h5_
 have HBr := jA h0_
 have HF349 := jA h1_
 have HF350 := jA h2_
 have HF351 := jA h3_
 have HF352 := jA h4_
 have HF353 := jA h5_
 clear h0_ h1_ h2_ h3_ h4_ h5_
 have HS354 := jA HBr.out.size
 have HG355 := jA (blk_lt HF352.out)
 refine putsN ?_
 replace HB := jA (below_step HB0_.out HBr.out)
 refine two_ (i := 8) (j := 13) (Ni := some 54) (Nj := some 12) m18_3fe08 m18_3fc18 rfl rfl rfl rfl (two_of HT_.out zr) (by decide) (by decide) (fun K hK => ?_) (fun K hK => ?_)
 ·skip
  refine goes_ Try.func15 zr rfl #[.slice Ao342 xs0.length co343, .agg #[.int .i64 a1_0, .slice Ao344 xs1_1.length co345], .agg #[.int .i64 a2_0, .slice Ao346 xs2_1.length co347], .string a3, .int .i64 a4] (by rfl) rfl rfl zm ?_
  (with_reducible refine (spec_MovePieces.calls k _ _ xs0 a1_0 _ _ xs1_1 a2_0 _ _ xs2_1 a3 a4 res_r1 ws_r2 res_r3 ws_r4 res_r5 _ ?side1 ?side2 ?side3 ?side4 ?side5 ?side6 HFspec.out).mono ?_)
  (case side1 => repeat (first | exact C_ext (jP HF349.out).2.2 HXE0.out HLE0.out | (with_reducible refine Kd.C_alloc ?_ _) | (with_reducible refine Kd.C_drewN ?_ _) | (with_reducible refine Kd.C_drew ?_)))
  (case side2 => exact Nat.le_trans HLE0.out (jP HF349.out).2.1)
  (case side3 => repeat (first | exact C_ext (jP HF350.out).2.2 HXE1_1.out HLE1_1.out | (with_reducible refine Kd.C_alloc ?_ _) | (with_reducible refine Kd.C_drewN ?_ _) | (with_reducible refine Kd.C_drew ?_)))
  (case side4 => exact Nat.le_trans HLE1_1.out (jP HF350.out).2.1)
  (case side5 => repeat (first | exact C_ext (jP HF351.out).2.2 HXE2_1.out HLE2_1.out | (with_reducible refine Kd.C_alloc ?_ _) | (with_reducible refine Kd.C_drewN ?_ _) | (with_reducible refine Kd.C_drew ?_)))
  (case side6 => exact Nat.le_trans HLE2_1.out (jP HF351.out).2.1)
  rintro e w_356 ⟨v_357, v_358, rfl, ho1, ho2, hb⟩
  have hoA := jA (Kd.R_lower (R_own rfl ho1) (Nat.le_trans HB.out.size (zy : Below w_341.heap.size w_341 _).size))
  have hoB := jA (Kd.R_lower (R_near ho2) (Nat.le_trans HB.out.size (zy : Below w_341.heap.size w_341 _).size))
  clear ho1 ho2
  have HBi := zJ w_341 w_356 hb
  clear hb
  have HS359 := jA HBi.out.size
  replace HBr := jA (below_step HBr.out HBi.out)
  replace HF349 := zA Kd.R_below HF349 HBi
  replace HF350 := zA Kd.R_below HF350 HBi
  replace HF351 := zA Kd.R_below HF351 HBi
  replace HF352 := zA jO HF352 HBi
  clear HBi
  obtain ⟨Ao361, co362, eo363⟩ := Kd.R_slice hoA.out
  subst eo363
  obtain ⟨Ao365, co366, eo367⟩ := Kd.R_slice hoB.out
  subst eo367
  have HO360 := jA (Kd.R_mono (ok' := fun k_ => (w_341.heap.size ≤ k_ ∧ k_ < w_356.heap.size) ∧ some k_ = (Value.slice Ao361 ws_r2.length co362).ownBlock) hoA.out (fun k_ hk_ => hk_))
  clear hoA
  have HO364 := jA (Kd.R_mono (ok' := fun k_ => (w_341.heap.size ≤ k_ ∧ k_ < w_356.heap.size) ∧ some k_ ≠ (Value.slice Ao361 ws_r2.length co362).ownBlock) hoB.out (fun k_ hk_ => hk_))
  clear hoB
  refine ⟨_, rfl, ?_⟩
  refine hK.out _ _ (hSB_ _ HBr.out) (fun hHeld => putN 54 ?_)
  clear hK K
  refine zp HT_ 9 45 m18_3ff08 ?_
  refine zp HT_ 10 55 m18_3ff88 ?_
  refine zp HT_ 11 56 m18_3ffc8 ?_
  refine zp HT_ 12 57 m18_3ffe8 ?_
  have sHS354 := HS354.out; have sHG355 := HG355.out; have sHF353 := HF353.out; have sHS359 := HS359.out
  exact putsJ (hJ4_1 ((Ao342, co343), (Ao344, co345), (Ao346, co347), (Ao361, co362), (Ao365, co366), gb348) _ ⟨(zr5 HBr), latP HO360, latP HO364, (by (with_reducible repeat (first | refine blk_drewN ?_ _ | refine blk_drew ?_ | refine blk_alloc ?_ _)); exact HF352.out), (show w_15.heap.size ≤ gb348 from by omega)⟩)
 ·skip
  refine boxN 12 #[.int .i64 0, .slice none 0 0] 28 ?_
  intro gb370 hg_ w_369 hbox hb
  have BK368 := jA hbox
  have HGgb370 := jA (blk_lt hbox)
  have HLgb370 : Aside0 (w_341.heap.size ≤ gb370) := ⟨by rw [hg_]; exact Nat.le_refl _⟩
  clear hbox hg_
  have HBi := zJ w_341 w_369 hb
  clear hb
  have HS371 := jA HBi.out.size
  replace HBr := jA (below_step HBr.out HBi.out)
  replace HF349 := zA Kd.R_below HF349 HBi
  replace HF350 := zA Kd.R_below HF350 HBi
  replace HF351 := zA Kd.R_below HF351 HBi
  replace HF352 := zA jO HF352 HBi
  clear HBi
  refine hK.out _ _ (hSB_ _ HBr.out) (fun hHeld => putN 12 ?_)
  clear hK K
  have sHS354 := HS354.out; have sHG355 := HG355.out; have sHF353 := HF353.out; have sHS371 := HS371.out; have sHGgb370 := HGgb370.out; have sHLgb370 := HLgb370.out
  exact putsJ (hJ3_01 ((Ao342, co343), (Ao344, co345), (Ao346, co347), gb370, gb348) _ ⟨(zr5 HBr), latT HF349, latT HF350, latT HF351, (zk BK368), (show w_15.heap.size ≤ gb370 from by omega), (by (with_reducible repeat (first | refine blk_drewN ?_ _ | refine blk_drew ?_ | refine blk_alloc ?_ _)); exact HF352.out), (show w_15.heap.size ≤ gb348 from by omega), (show gb370 ≠ gb348 from by omega)⟩)
 clear HBr hHeld
 rintro ⟨⟨Ao373, co374⟩, ⟨Ao375, co376⟩, gb377, gb378⟩ w_372 ⟨h0_, h1_, h2_, h3_, h4_, h5_, h6_, h7_⟩
 try dsimp only at h0_ h1_ h2_ h3_ h4_ h5_ h6_ h7_
 have HBr := jA h0_
 have HF379 := jA h1_
 have HF380 := jA h2_
 have HF381 := jA h3_
 have HF382 := jA h4_
 have HF383 := jA h5_
 have HF384 := jA h6_
 have HF385 := jA h7_
 clear h0_ h1_ h2_ h3_ h4_ h5_ h6_ h7_
 have HS386 := jA HBr.out.size
 have HG387 := jA (blk_lt HF381.out)
 have HG388 := jA (blk_lt HF383.out)
 refine putsN ?_
 replace HB := jA (below_step HB0_.out HBr.out)
 refine one_ (i := 5) (N := some 51) m18_3fc18 rfl rfl (one_of HT_.out zr) (by decide) (fun K hK => ?_)
 ·skip
  refine goes_ Try.func17 zr rfl #[.agg #[.int .i64 a2_0, .slice A2_1 l2_1.length c2_1], .bool false] (by rfl) rfl rfl zm ?_
  (with_reducible refine (laws_toMagazineX.calls k a2_0 _ _ l2_1 false a2_0 ext2_1 _ ?side1 ?side2 (by unfold laws_toMagazineX.f; rw [HTO2_1.out, Option.bind_some])).mono ?_)
  (case side1 => exact zs HR2_1 HB)
  (case side2 => exact HC2_1.out)
  rintro e w_389 ⟨Ao391, no392, co393, rfl, hn, ho, hb⟩
  obtain rfl : no392 = xs2_1.length := hn.full HXL2_1.out HNE2_1.out
  clear hn
  have ho1 := jA (Kd.R_lower (R_span ho) (Nat.le_trans HB.out.size (zy : Below w_372.heap.size w_372 _).size))
  clear ho
  have HBi := zJ w_372 w_389 hb
  clear hb
  have HS394 := jA HBi.out.size
  replace HBr := jA (below_step HBr.out HBi.out)
  replace HF379 := zA Kd.R_below HF379 HBi
  replace HF380 := zA Kd.R_below HF380 HBi
  replace HF381 := zA jO HF381 HBi
  replace HF383 := zA jO HF383 HBi
  clear HBi
  have HO390 := zM w_372 w_389 ho1
  clear ho1
  refine ⟨_, rfl, ?_⟩
  refine hK.out _ _ (hSB_ _ HBr.out) (fun hHeld => putN 51 ?_)
  clear hK K
  have sHS386 := HS386.out; have sHG387 := HG387.out; have sHF382 := HF382.out; have sHG388 := HG388.out; have sHF384 := HF384.out; have sHF385 := HF385.out; have sHS394 := HS394.out
  exact putsJ (hJ3_01 ((Ao373, co374), (Ao375, co376), (Ao391, co393), gb377, gb378) _ ⟨(zr5 HBr), latT HF379, latT HF380, latT HO390, (by (with_reducible repeat (first | refine blk_drewN ?_ _ | refine blk_drew ?_ | refine blk_alloc ?_ _)); exact HF381.out), (show w_15.heap.size ≤ gb377 from by omega), (by (with_reducible repeat (first | refine blk_drewN ?_ _ | refine blk_drew ?_ | refine blk_alloc ?_ _)); exact HF383.out), (show w_15.heap.size ≤ gb378 from by omega), (show gb377 ≠ gb378 from by omega)⟩)
 clear HBr hHeld
 rintro ⟨⟨Ao396, co397⟩, ⟨Ao398, co399⟩, ⟨Ao400, co401⟩, ⟨Ao402, co403⟩, ⟨Ao404, co405⟩, gb406⟩ w_395 ⟨h0_, h1_, h2_, h3_, h4_⟩
 try dsimp only at h0_ h1_ h2_ h3_ h4_
 have HBr := jA h0_
 have HF407 := jA h1_
 have HF408 := jA h2_
 have HF409 := jA h3_
 have HF410 := jA h4_
 clear h0_ h1_ h2_ h3_ h4_
 have HS411 := jA HBr.out.size
 have HG412 := jA (blk_lt HF409.out)
 refine putsN ?_
 replace HB := jA (below_step HB0_.out HBr.out)
 refine one_ (i := 14) (N := some 13) m18_3fff8 rfl rfl (one_of HT_.out zr) (by decide) (fun K hK => ?_)
 ·skip
  refine boxN 13 #[.int .i64 0, .slice none 0 0] 28 ?_
  intro gb415 hg_ w_414 hbox hb
  have BK413 := jA hbox
  have HGgb415 := jA (blk_lt hbox)
  have HLgb415 : Aside0 (w_395.heap.size ≤ gb415) := ⟨by rw [hg_]; exact Nat.le_refl _⟩
  clear hbox hg_
  have HBi := zJ w_395 w_414 hb
  clear hb
  have HS416 := jA HBi.out.size
  replace HBr := jA (below_step HBr.out HBi.out)
  replace HF407 := zA Kd.R_below HF407 HBi
  replace HF408 := zA Kd.R_below HF408 HBi
  replace HF409 := zA jO HF409 HBi
  clear HBi
  refine hK.out _ _ (hSB_ _ HBr.out) (fun hHeld => putN 13 ?_)
  clear hK K
  have sHS411 := HS411.out; have sHG412 := HG412.out; have sHF410 := HF410.out; have sHS416 := HS416.out; have sHGgb415 := HGgb415.out; have sHLgb415 := HLgb415.out
  exact putsJ (hJ4_01 ((Ao396, co397), (Ao398, co399), (Ao400, co401), (Ao402, co403), (Ao404, co405), gb406, gb415) _ ⟨(zr5 HBr), latP HF407, latP HF408, (by (with_reducible repeat (first | refine blk_drewN ?_ _ | refine blk_drew ?_ | refine blk_alloc ?_ _)); exact HF409.out), (show w_15.heap.size ≤ gb406 from by omega), (zk BK413), (show w_15.heap.size ≤ gb415 from by omega), (show gb406 ≠ gb415 from by omega)⟩)
 clear HBr hHeld
 rintro ⟨⟨Ao418, co419⟩, ⟨Ao420, co421⟩, ⟨Ao422, co423⟩, ⟨Ao424, co425⟩, ⟨Ao426, co427⟩, gb428⟩ w_417 ⟨h0_, h1_, h2_, h3_, h4_⟩
 try dsimp only at h0_ h1_ h2_ h3_ h4_
 have HBr := jA h0_
 have HF429 := jA h1_
 have HF430 := jA h2_
 have HF431 := jA h3_
 have HF432 := jA h4_
 clear h0_ h1_ h2_ h3_ h4_
 have HS433 := jA HBr.out.size
 have HG434 := jA (blk_lt HF431.out)
 refine putsN ?_
 replace HB := jA (below_step HB0_.out HBr.out)
 refine one_ (i := 13) (N := some 12) m18_3fff8 rfl rfl (one_of HT_.out zr) (by decide) (fun K hK => ?_)
 ·skip
  refine boxN 12 #[.int .i64 0, .slice none 0 0] 28 ?_
  intro gb437 hg_ w_436 hbox hb
  have BK435 := jA hbox
  have HGgb437 := jA (blk_lt hbox)
  have HLgb437 : Aside0 (w_417.heap.size ≤ gb437) := ⟨by rw [hg_]; exact Nat.le_refl _⟩
  clear hbox hg_
  have HBi := zJ w_417 w_436 hb
  clear hb
  have HS438 := jA HBi.out.size
  replace HBr := jA (below_step HBr.out HBi.out)
  replace HF429 := zA Kd.R_below HF429 HBi
  replace HF430 := zA Kd.R_below HF430 HBi
  replace HF431 := zA jO HF431 HBi
  clear HBi
  refine hK.out _ _ (hSB_ _ HBr.out) (fun hHeld => putN 12 ?_)
  clear hK K
  have sHS433 := HS433.out; have sHG434 := HG434.out; have sHF432 := HF432.out; have sHS438 := HS438.out; have sHGgb437 := HGgb437.out; have sHLgb437 := HLgb437.out
  exact putsJ (hJ4_01 ((Ao418, co419), (Ao420, co421), (Ao422, co423), (Ao424, co425), (Ao426, co427), gb437, gb428) _ ⟨(zr5 HBr), latP HF429, latP HF430, (zk BK435), (show w_15.heap.size ≤ gb437 from by omega), (by (with_reducible repeat (first | refine blk_drewN ?_ _ | refine blk_drew ?_ | refine blk_alloc ?_ _)); exact HF431.out), (show w_15.heap.size ≤ gb428 from by omega), (show gb437 ≠ gb428 from by omega)⟩)
 clear HBr hHeld
 rintro ⟨⟨Ao440, co441⟩, ⟨Ao442, co443⟩, ⟨Ao444, co445⟩, gb446, gb447⟩ w_439 ⟨h0_, h1_, h2_, h3_, h4_, h5_, h6_, h7_, h8_⟩
 try dsimp only at h0_ h1_ h2_ h3_ h4_ h5_ h6_ h7_ h8_
 have HBr := jA h0_
 have HF448 := jA h1_
 have HF449 := jA h2_
 have HF450 := jA h3_
 have HF451 := jA h4_
 have HF452 := jA h5_
 have HF453 := jA h6_
 have HF454 := jA h7_
 have HF455 := jA h8_
 clear h0_ h1_ h2_ h3_ h4_ h5_ h6_ h7_ h8_
 have HS456 := jA HBr.out.size
 have HG457 := jA (blk_lt HF451.out)
 have HG458 := jA (blk_lt HF453.out)
 refine putsN ?_
 replace HB := jA (below_step HB0_.out HBr.out)
 refine one_ (i := 8) (N := some 54) m18_3fe18 rfl rfl (one_of HT_.out zr) (by decide) (fun K hK => ?_)
 ·skip
  refine goes_ Try.func15 zr rfl #[.slice Ao440 xs0.length co441, .agg #[.int .i64 a1_0, .slice Ao442 xs1_1.length co443], .agg #[.int .i64 a2_0, .slice Ao444 xs2_1.length co445], .string a3, .int .i64 a4] (by rfl) rfl rfl zm ?_
  (with_reducible refine (spec_MovePieces.calls k _ _ xs0 a1_0 _ _ xs1_1 a2_0 _ _ xs2_1 a3 a4 res_r1 ws_r2 res_r3 ws_r4 res_r5 _ ?side1 ?side2 ?side3 ?side4 ?side5 ?side6 HFspec.out).mono ?_)
  (case side1 => repeat (first | exact C_ext (jP HF448.out).2.2 HXE0.out HLE0.out | (with_reducible refine Kd.C_alloc ?_ _) | (with_reducible refine Kd.C_drewN ?_ _) | (with_reducible refine Kd.C_drew ?_)))
  (case side2 => exact Nat.le_trans HLE0.out (jP HF448.out).2.1)
  (case side3 => repeat (first | exact C_ext (jP HF449.out).2.2 HXE1_1.out HLE1_1.out | (with_reducible refine Kd.C_alloc ?_ _) | (with_reducible refine Kd.C_drewN ?_ _) | (with_reducible refine Kd.C_drew ?_)))
  (case side4 => exact Nat.le_trans HLE1_1.out (jP HF449.out).2.1)
  (case side5 => repeat (first | exact C_ext (jP HF450.out).2.2 HXE2_1.out HLE2_1.out | (with_reducible refine Kd.C_alloc ?_ _) | (with_reducible refine Kd.C_drewN ?_ _) | (with_reducible refine Kd.C_drew ?_)))
  (case side6 => exact Nat.le_trans HLE2_1.out (jP HF450.out).2.1)
  rintro e w_459 ⟨v_460, v_461, rfl, ho1, ho2, hb⟩
  have hoA := jA (Kd.R_lower (R_own rfl ho1) (Nat.le_trans HB.out.size (zy : Below w_439.heap.size w_439 _).size))
  have hoB := jA (Kd.R_lower (R_near ho2) (Nat.le_trans HB.out.size (zy : Below w_439.heap.size w_439 _).size))
  clear ho1 ho2
  have HBi := zJ w_439 w_459 hb
  clear hb
  have HS462 := jA HBi.out.size
  replace HBr := jA (below_step HBr.out HBi.out)
  replace HF448 := zA Kd.R_below HF448 HBi
  replace HF449 := zA Kd.R_below HF449 HBi
  replace HF450 := zA Kd.R_below HF450 HBi
  replace HF451 := zA jO HF451 HBi
  replace HF453 := zA jO HF453 HBi
  clear HBi
  obtain ⟨Ao464, co465, eo466⟩ := Kd.R_slice hoA.out
  subst eo466
  obtain ⟨Ao468, co469, eo470⟩ := Kd.R_slice hoB.out
  subst eo470
  have HO463 := jA (Kd.R_mono (ok' := fun k_ => (w_439.heap.size ≤ k_ ∧ k_ < w_459.heap.size) ∧ some k_ = (Value.slice Ao464 ws_r2.length co465).ownBlock) hoA.out (fun k_ hk_ => hk_))
  clear hoA
  have HO467 := jA (Kd.R_mono (ok' := fun k_ => (w_439.heap.size ≤ k_ ∧ k_ < w_459.heap.size) ∧ some k_ ≠ (Value.slice Ao464 ws_r2.length co465).ownBlock) hoB.out (fun k_ hk_ => hk_))
  clear hoB
  refine ⟨_, rfl, ?_⟩
  refine hK.out _ _ (hSB_ _ HBr.out) (fun hHeld => putN 54 ?_)
  clear hK K
  refine zp HT_ 9 45 m18_3ff18 ?_
  refine zp HT_ 10 55 m18_3ff98 ?_
  refine zp HT_ 11 56 m18_3ffd8 ?_
  refine zp HT_ 12 57 m18_3fff8 ?_
  have sHS456 := HS456.out; have sHG457 := HG457.out; have sHF452 := HF452.out; have sHG458 := HG458.out; have sHF454 := HF454.out; have sHF455 := HF455.out; have sHS462 := HS462.out
  exact putsJ (hJ4_01 ((Ao440, co441), (Ao442, co443), (Ao444, co445), (Ao464, co465), (Ao468, co469), gb446, gb447) _ ⟨(zr5 HBr), latP HO463, latP HO467, (by (with_reducible repeat (first | refine blk_drewN ?_ _ | refine blk_drew ?_ | refine blk_alloc ?_ _)); exact HF451.out), (show w_15.heap.size ≤ gb446 from by omega), (by (with_reducible repeat (first | refine blk_drewN ?_ _ | refine blk_drew ?_ | refine blk_alloc ?_ _)); exact HF453.out), (show w_15.heap.size ≤ gb447 from by omega), (show gb446 ≠ gb447 from by omega)⟩)
 clear HBr hHeld
 rintro ⟨⟨Ao472, co473⟩, ⟨Ao474, co475⟩, ⟨Ao476, co477⟩, ⟨Ao478, co479⟩, ⟨Ao480, co481⟩, gb482, gb483⟩ w_471 ⟨h0_, h1_, h2_, h3_, h4_, h5_, h6_, h7_⟩
 try dsimp only at h0_ h1_ h2_ h3_ h4_ h5_ h6_ h7_
 have HBr := jA h0_
 have HF484 := jA h1_
 have HF485 := jA h2_
 have HF486 := jA h3_
 have HF487 := jA h4_
 have HF488 := jA h5_
 have HF489 := jA h6_
 have HF490 := jA h7_
 clear h0_ h1_ h2_ h3_ h4_ h5_ h6_ h7_
 have HS491 := jA HBr.out.size
 have HG492 := jA (blk_lt HF486.out)
 have HG493 := jA (blk_lt HF488.out)
 refine putsN ?_
 have hb := HBr.out
 have HBi := zJ w_15 w_471 hb
 clear hb
 have HBn := jA (below_step HB.out HBi.out)
 clear HB
 have HB := HBn
 clear HBn
 have HS494 := jA HBi.out.size
 replace BK2 := zA jO BK2 HBi
 replace BK5 := zA jO BK5 HBi
 clear HBi
 have HWw_471 := jA HB.out.size
 clear HBr HB0_ hSB_
 obtain ⟨P495, hP_⟩ : ∃ P : Option Nat, P = (Value.slice Ao478 ws_r2.length co479).ownBlock := ⟨_, rfl⟩
 have n0_ := jA HF484.out
 rw [← hP_] at n0_
 clear HF484
 have HF484 := n0_
 clear n0_
 have n0_ := jA HF485.out
 rw [← hP_] at n0_
 clear HF485
 have HF485 := n0_
 clear n0_
 clear hP_
 refine one_ (i := 15) (N := none) m18_3fffc rfl rfl (one_of HT_.out zr) (by decide) (fun K hK => ?_)
 have hcz482 := zc2 HF486
 have hnegb1 := Nat.ne_of_lt (Nat.lt_of_lt_of_le HLTgb1.out HF487.out)
 have hnfgb1 := hnegb1.symm
 have hnegb4 := Nat.ne_of_lt (Nat.lt_of_lt_of_le HLTgb4.out HF487.out)
 have hnfgb4 := hnegb4.symm
 refine skip_ (w1 := ?_) (by rfl) rfl ?_ ?_
 rotate_left
 ·go_simp
  rfl
 refine hK.out _ _ ⟨((jL (p := ⟨gb482, _, none⟩) hnegb1 _).trans ((jL (p := ⟨gb482, _, none⟩) hnegb1 _).trans ((jD BK2.out 0).trans rfl))), ((jL (p := ⟨gb482, _, none⟩) hnegb1 _).trans ((jL (p := ⟨gb482, _, none⟩) hnegb1 _).trans ((jD BK2.out 1).trans rfl))), ((jL (p := ⟨gb482, _, none⟩) hnegb4 _).trans ((jL (p := ⟨gb482, _, none⟩) hnegb4 _).trans ((jD BK5.out 0).trans rfl))), ((jL (p := ⟨gb482, _, none⟩) hnegb4 _).trans ((jL (p := ⟨gb482, _, none⟩) hnegb4 _).trans ((jD BK5.out 1).trans rfl)))⟩ (fun hHeld => ?_)
 clear hK K hHeld hnegb1 hnfgb1 hnegb4 hnfgb4
 try clear hcz482
 have HLgb482 : Aside0 (w_15.heap.size ≤ gb482) := HF487
 generalize hq_ : World.setCell (World.setCell w_471 ⟨gb482, 0, none⟩ (.int .i64 res_r1)) ⟨gb482, 1, none⟩ (.slice Ao478 ws_r2.length co479) = w_497
 have hk1 : Aside0 (Kept w_471 w_497 (fun k_ => k_ = gb482)) := ⟨by rw [← hq_]; exact Kept.then_ (kept_set w_471 gb482 0 _) (kept_set (World.setCell w_471 ⟨gb482, 0, none⟩ (.int .i64 res_r1)) gb482 1 _) (fun _ h_ => .inl h_)⟩
 have hz_ : w.heap.size ≤ w_15.heap.size := HWw_15.out
 replace HB : Aside0 (Below w.heap.size w w_497) := ⟨by rw [← hq_]; exact (below_set (below_set HB.out (Nat.le_trans hz_ HLgb482.out)) (Nat.le_trans hz_ HLgb482.out))⟩
 clear hz_
 replace HF486 : Aside0 (w_497.heap[gb482]? = some (.cells #[.int .i64 res_r1, .slice Ao478 ws_r2.length co479] 28 (0, 0))) := ⟨by rw [← hq_]; exact (blk_put (cs := #[.int .i64 res_r1, .slice none 0 0]) (blk_put (cs := #[.int .i64 0, .slice none 0 0]) HF486.out 0 _ rfl) 1 _ rfl)⟩
 clear hq_
 have HS498 := jA hk1.out.1
 have HSZ499 := jA (And.intro HGgb1.out (And.intro HLgb1.out (And.intro HS7.out (And.intro HGgb4.out (And.intro HLgb4.out (And.intro HS8.out (And.intro HS10.out (And.intro HS12.out (And.intro HS14.out (And.intro HS16.out (And.intro HS494.out (And.intro HS491.out (And.intro HG492.out (And.intro HF487.out (And.intro HG493.out (And.intro HF489.out (And.intro HF490.out (HS498.out))))))))))))))))))
 have sz_ := HSZ499.out
 replace BK2 := zH hk1 BK2
 replace BK5 := zH hk1 BK5
 replace HF484 := jA (Kd.R_kept HF484.out hk1.out (fun k_ (h1_ : ((w_15.heap.size ≤ k_ ∧ k_ < w_471.heap.size) ∧ k_ ≠ gb482 ∧ k_ ≠ gb483) ∧ some k_ = P495) (h2_ : k_ = gb482) => by have qh1_ := h1_.1; omega))
 replace HF485 := jA (Kd.R_kept HF485.out hk1.out (fun k_ (h1_ : ((w_15.heap.size ≤ k_ ∧ k_ < w_471.heap.size) ∧ k_ ≠ gb482 ∧ k_ ≠ gb483) ∧ some k_ ≠ P495) (h2_ : k_ = gb482) => by have qh1_ := h1_.1; omega))
 replace HF488 := zH hk1 HF488
 clear sz_
 clear hk1
 have HWw_497 := jA HB.out.size
 refine one_ (i := 16) (N := none) m18_3fffe rfl rfl (one_of HT_.out zr) (by decide) (fun K hK => ?_)
 have hcz483 := zc2 HF488
 have hnegb1 := Nat.ne_of_lt (Nat.lt_of_lt_of_le HLTgb1.out HF489.out)
 have hnfgb1 := hnegb1.symm
 have hnegb4 := Nat.ne_of_lt (Nat.lt_of_lt_of_le HLTgb4.out HF489.out)
 have hnfgb4 := hnegb4.symm
 refine skip_ (w1 := ?_) (by rfl) rfl ?_ ?_
 rotate_left
 ·go_simp
  rfl
 refine hK.out _ _ ⟨((jL (p := ⟨gb483, _, none⟩) hnegb1 _).trans ((jL (p := ⟨gb483, _, none⟩) hnegb1 _).trans ((jD BK2.out 0).trans rfl))), ((jL (p := ⟨gb483, _, none⟩) hnegb1 _).trans ((jL (p := ⟨gb483, _, none⟩) hnegb1 _).trans ((jD BK2.out 1).trans rfl))), ((jL (p := ⟨gb483, _, none⟩) hnegb4 _).trans ((jL (p := ⟨gb483, _, none⟩) hnegb4 _).trans ((jD BK5.out 0).trans rfl))), ((jL (p := ⟨gb483, _, none⟩) hnegb4 _).trans ((jL (p := ⟨gb483, _, none⟩) hnegb4 _).trans ((jD BK5.out 1).trans rfl)))⟩ (fun hHeld => ?_)
 clear hK K hHeld hnegb1 hnfgb1 hnegb4 hnfgb4
 try clear hcz483
 have HLgb483 : Aside0 (w_15.heap.size ≤ gb483) := HF489
 generalize hq_ : World.setCell (World.setCell w_497 ⟨gb483, 0, none⟩ (.int .i64 res_r3)) ⟨gb483, 1, none⟩ (.slice Ao480 ws_r4.length co481) = w_500
 have hk1 : Aside0 (Kept w_497 w_500 (fun k_ => k_ = gb483)) := ⟨by rw [← hq_]; exact Kept.then_ (kept_set w_497 gb483 0 _) (kept_set (World.setCell w_497 ⟨gb483, 0, none⟩ (.int .i64 res_r3)) gb483 1 _) (fun _ h_ => .inl h_)⟩
 have hz_ : w.heap.size ≤ w_15.heap.size := HWw_15.out
 replace HB : Aside0 (Below w.heap.size w w_500) := ⟨by rw [← hq_]; exact (below_set (below_set HB.out (Nat.le_trans hz_ HLgb483.out)) (Nat.le_trans hz_ HLgb483.out))⟩
 clear hz_
 replace HF488 : Aside0 (w_500.heap[gb483]? = some (.cells #[.int .i64 res_r3, .slice Ao480 ws_r4.length co481] 28 (0, 0))) := ⟨by rw [← hq_]; exact (blk_put (cs := #[.int .i64 res_r3, .slice none 0 0]) (blk_put (cs := #[.int .i64 0, .slice none 0 0]) HF488.out 0 _ rfl) 1 _ rfl)⟩
 clear hq_
 have HS501 := jA hk1.out.1
 have HSZ502 := jA (And.intro HSZ499.out (HS501.out))
 clear HSZ499
 have sz_ := HSZ502.out
 replace BK2 := zH hk1 BK2
 replace BK5 := zH hk1 BK5
 replace HF484 := jA (Kd.R_kept HF484.out hk1.out (fun k_ (h1_ : ((w_15.heap.size ≤ k_ ∧ k_ < w_471.heap.size) ∧ k_ ≠ gb482 ∧ k_ ≠ gb483) ∧ some k_ = P495) (h2_ : k_ = gb483) => by have qh1_ := h1_.1; omega))
 replace HF485 := jA (Kd.R_kept HF485.out hk1.out (fun k_ (h1_ : ((w_15.heap.size ≤ k_ ∧ k_ < w_471.heap.size) ∧ k_ ≠ gb482 ∧ k_ ≠ gb483) ∧ some k_ ≠ P495) (h2_ : k_ = gb483) => by have qh1_ := h1_.1; omega))
 replace HF486 := zH hk1 HF486
 clear sz_
 clear hk1
 have HWw_500 := jA HB.out.size
 refine zp HT_ 17 14 m18_3ffff ?_
 refine done_ (done_of HT_.out zr) ?_
 replace HF484 := jA (Kd.R_mono (ok' := fun k_ => (w_15.heap.size ≤ k_ ∧ k_ < w_471.heap.size) ∧ some k_ = P495) HF484.out (fun k_ (h_ : ((w_15.heap.size ≤ k_ ∧ k_ < w_471.heap.size) ∧ k_ ≠ gb482 ∧ k_ ≠ gb483) ∧ some k_ = P495) => ⟨h_.1.1, h_.2⟩))
 replace HF485 := jA (Kd.R_mono (ok' := fun k_ => (w_15.heap.size ≤ k_ ∧ k_ < w_471.heap.size) ∧ some k_ ≠ P495) HF485.out (fun k_ (h_ : ((w_15.heap.size ≤ k_ ∧ k_ < w_471.heap.size) ∧ k_ ≠ gb482 ∧ k_ ≠ gb483) ∧ some k_ ≠ P495) => ⟨h_.1.1, h_.2⟩))
 have hcz1 := zc2 BK2
 have hcz4 := zc2 BK5
 have hcz482 := zc2 HF486
 have hcz483 := zc2 HF488
 go_wp2_with (fail)
 try clear hcz1
 try clear hcz4
 try clear hcz482
 try clear hcz483
 go_at_call 16
 (with_reducible refine (laws_toArticleSX.calls k _ _ l0 false ext0 _ ?side1 ?side2 HTO0.out).mono ?_)
 (case side1 => exact zs HR0 HB)
 (case side2 => exact HC0.out)
 rintro e w_503 ⟨Ao505, no506, co507, rfl, hn, ho, hb⟩
 obtain rfl : no506 = xs0.length := hn.full HXL0.out HNE0.out
 clear hn
 have ho1 := jA (Kd.R_lower (R_span ho) (Nat.le_trans HB.out.size (zy : Below w_500.heap.size w_500 _).size))
 clear ho
 have HBi := zJ w_500 w_503 hb
 clear hb
 have HBn := jA (below_step HB.out HBi.out)
 clear HB
 have HB := HBn
 clear HBn
 have HS508 := jA HBi.out.size
 replace BK2 := zA jO BK2 HBi
 replace BK5 := zA jO BK5 HBi
 replace HF484 := zA Kd.R_below HF484 HBi
 replace HF485 := zA Kd.R_below HF485 HBi
 replace HF486 := zA jO HF486 HBi
 replace HF488 := zA jO HF488 HBi
 clear HBi
 have HWw_503 := jA HB.out.size
 have HO504 := zM w_500 w_503 ho1
 clear ho1
 have hcz1 := zc2 BK2
 have hcz4 := zc2 BK5
 have hcz482 := zc2 HF486
 have hcz483 := zc2 HF488
 go_wp2_with (fail)
 try clear hcz1
 try clear hcz4
 try clear hcz482
 try clear hcz483
 go_at_call 17
 (with_reducible refine (laws_toMagazineX.calls k a1_0 _ _ l1_1 false a1_0 ext1_1 _ ?side1 ?side2 (by unfold laws_toMagazineX.f; rw [HTO1_1.out, Option.bind_some])).mono ?_)
 (case side1 => exact zs HR1_1 HB)
 (case side2 => exact HC1_1.out)
 rintro e w_509 ⟨Ao511, no512, co513, rfl, hn, ho, hb⟩
 obtain rfl : no512 = xs1_1.length := hn.full HXL1_1.out HNE1_1.out
 clear hn
 have ho1 := jA (Kd.R_lower (R_span ho) (Nat.le_trans HB.out.size (zy : Below w_503.heap.size w_503 _).size))
 clear ho
 have HBi := zJ w_503 w_509 hb
 clear hb
 have HBn := jA (below_step HB.out HBi.out)
 clear HB
 have HB := HBn
 clear HBn
 have HS514 := jA HBi.out.size
 replace BK2 := zA jO BK2 HBi
 replace BK5 := zA jO BK5 HBi
 replace HF484 := zA Kd.R_below HF484 HBi
 replace HF485 := zA Kd.R_below HF485 HBi
 replace HF486 := zA jO HF486 HBi
 replace HF488 := zA jO HF488 HBi
 replace HO504 := zA Kd.R_below HO504 HBi
 clear HBi
 have HWw_509 := jA HB.out.size
 have HO510 := zM w_503 w_509 ho1
 clear ho1
 go_wp2_with (first | ((with_reducible refine jJ (N := 16) rfl ?_); refine zE 16 #[.int .i64 0, .slice none 0 0] 28 ?_; intro gb515 hg_ w_517 hbox hb; have BK516 := jA hbox; have HGgb515 := jA (blk_lt hbox); have HLgb515 : Aside0 (w_509.heap.size ≤ gb515) := ⟨by rw [hg_]; exact Nat.le_refl _⟩; have hbA_ := jA hb; have hbB_ := zJ w_509 w_517 hb; clear hbox hg_ hb; have hcz515 := zc2 BK516; have hcy1 := zc2 (jA (jO BK2.out hbB_.out)); have hcy4 := zc2 (jA (jO BK5.out hbB_.out)); have hcy482 := zc2 (jA (jO HF486.out hbB_.out)); have hcy483 := zc2 (jA (jO HF488.out hbB_.out)); have hnegb1 : gb1 ≠ gb515 := Nat.ne_of_lt (Nat.lt_of_lt_of_le (blk_lt BK2.out) HLgb515.out); have hnfgb1 := hnegb1.symm; have hnegb4 : gb4 ≠ gb515 := Nat.ne_of_lt (Nat.lt_of_lt_of_le (blk_lt BK5.out) HLgb515.out); have hnfgb4 := hnegb4.symm; have hnegb482 : gb482 ≠ gb515 := Nat.ne_of_lt (Nat.lt_of_lt_of_le (blk_lt HF486.out) HLgb515.out); have hnfgb482 := hnegb482.symm; have hnegb483 : gb483 ≠ gb515 := Nat.ne_of_lt (Nat.lt_of_lt_of_le (blk_lt HF488.out) HLgb515.out); have hnfgb483 := hnegb483.symm))
 clear hcy1 hcy4 hcy482 hcy483 hnegb1 hnfgb1 hnegb4 hnfgb4 hnegb482 hnfgb482 hnegb483 hnfgb483
 try clear hcz515
 have hb := hbA_.out
 clear hbA_ hbB_
 have HBi := zJ w_509 w_517 hb
 clear hb
 have HBn := jA (below_step HB.out HBi.out)
 clear HB
 have HB := HBn
 clear HBn
 have HS519 := jA HBi.out.size
 replace BK2 := zA jO BK2 HBi
 replace BK5 := zA jO BK5 HBi
 replace HF484 := zA Kd.R_below HF484 HBi
 replace HF485 := zA Kd.R_below HF485 HBi
 replace HF486 := zA jO HF486 HBi
 replace HF488 := zA jO HF488 HBi
 replace HO504 := zA Kd.R_below HO504 HBi
 replace HO510 := zA Kd.R_below HO510 HBi
 clear HBi
 have HWw_517 := jA HB.out.size
 generalize hq_ : World.setCell (World.setCell w_517 ⟨gb515, 0, none⟩ (.int .i64 a1_0)) ⟨gb515, 1, none⟩ (.slice Ao511 xs1_1.length co513) = w_520
 have hk1 : Aside0 (Kept w_517 w_520 (fun k_ => k_ = gb515)) := ⟨by rw [← hq_]; exact Kept.then_ (kept_set w_517 gb515 0 _) (kept_set (World.setCell w_517 ⟨gb515, 0, none⟩ (.int .i64 a1_0)) gb515 1 _) (fun _ h_ => .inl h_)⟩
 have hz_ : w.heap.size ≤ w_509.heap.size := HWw_509.out
 replace HB : Aside0 (Below w.heap.size w w_520) := ⟨by rw [← hq_]; exact (below_set (below_set HB.out (Nat.le_trans hz_ HLgb515.out)) (Nat.le_trans hz_ HLgb515.out))⟩
 clear hz_
 replace BK516 : Aside0 (w_520.heap[gb515]? = some (.cells #[.int .i64 a1_0, .slice Ao511 xs1_1.length co513] 28 (0, 0))) := ⟨by rw [← hq_]; exact (blk_put (cs := #[.int .i64 a1_0, .slice none 0 0]) (blk_put (cs := #[.int .i64 0, .slice none 0 0]) BK516.out 0 _ rfl) 1 _ rfl)⟩
 clear hq_
 have HS521 := jA hk1.out.1
 have HSZ522 := jA (And.intro HSZ502.out (And.intro HS508.out (And.intro HS514.out (And.intro HGgb515.out (And.intro HLgb515.out (And.intro HS519.out (HS521.out)))))))
 clear HSZ502
 have sz_ := HSZ522.out
 replace BK2 := zH hk1 BK2
 replace BK5 := zH hk1 BK5
 replace HF484 := jA (Kd.R_kept HF484.out hk1.out (fun k_ (h1_ : (w_15.heap.size ≤ k_ ∧ k_ < w_471.heap.size) ∧ some k_ = P495) (h2_ : k_ = gb515) => by have qh1_ := h1_.1; omega))
 replace HF485 := jA (Kd.R_kept HF485.out hk1.out (fun k_ (h1_ : (w_15.heap.size ≤ k_ ∧ k_ < w_471.heap.size) ∧ some k_ ≠ P495) (h2_ : k_ = gb515) => by have qh1_ := h1_.1; omega))
 replace HF486 := zH hk1 HF486
 replace HF488 := zH hk1 HF488
 replace HO504 := jA (Kd.R_kept HO504.out hk1.out (fun k_ (h1_ : w_500.heap.size ≤ k_ ∧ k_ < w_503.heap.size) (h2_ : k_ = gb515) => by omega))
 replace HO510 := jA (Kd.R_kept HO510.out hk1.out (fun k_ (h1_ : w_503.heap.size ≤ k_ ∧ k_ < w_509.heap.size) (h2_ : k_ = gb515) => by omega))
 clear sz_
 clear hk1
 have HWw_520 := jA HB.out.size
 have hcz1 := zc2 BK2
 have hcz4 := zc2 BK5
 have hcz482 := zc2 HF486
 have hcz483 := zc2 HF488
 have hcz515 := zc2 BK516
 go_wp2_with (fail)
 try clear hcz1
 try clear hcz4
 try clear hcz482
 try clear hcz483
 try clear hcz515
 go_at_call 17
 (with_reducible refine (laws_toMagazineX.calls k a2_0 _ _ l2_1 false a2_0 ext2_1 _ ?side1 ?side2 (by unfold laws_toMagazineX.f; rw [HTO2_1.out, Option.bind_some])).mono ?_)
 (case side1 => exact zs HR2_1 HB)
 (case side2 => exact HC2_1.out)
 rintro e w_523 ⟨Ao525, no526, co527, rfl, hn, ho, hb⟩
 obtain rfl : no526 = xs2_1.length := hn.full HXL2_1.out HNE2_1.out
 clear hn
 have ho1 := jA (Kd.R_lower (R_span ho) (Nat.le_trans HB.out.size (zy : Below w_520.heap.size w_520 _).size))
 clear ho
 have HBi := zJ w_520 w_523 hb
 clear hb
 have HBn := jA (below_step HB.out HBi.out)
 clear HB
 have HB := HBn
 clear HBn
 have HS528 := jA HBi.out.size
 replace BK2 := zA jO BK2 HBi
 replace BK5 := zA jO BK5 HBi
 replace HF484 := zA Kd.R_below HF484 HBi
 replace HF485 := zA Kd.R_below HF485 HBi
 replace HF486 := zA jO HF486 HBi
 replace HF488 := zA jO HF488 HBi
 replace HO504 := zA Kd.R_below HO504 HBi
 replace HO510 := zA Kd.R_below HO510 HBi
 replace BK516 := zA jO BK516 HBi
 clear HBi
 have HWw_523 := jA HB.out.size
 have HO524 := zM w_520 w_523 ho1
 clear ho1
 go_wp2_with (first | ((with_reducible refine jJ (N := 17) rfl ?_); refine zE 17 #[.int .i64 0, .slice none 0 0] 28 ?_; intro gb529 hg_ w_531 hbox hb; have BK530 := jA hbox; have HGgb529 := jA (blk_lt hbox); have HLgb529 : Aside0 (w_523.heap.size ≤ gb529) := ⟨by rw [hg_]; exact Nat.le_refl _⟩; have hbA_ := jA hb; have hbB_ := zJ w_523 w_531 hb; clear hbox hg_ hb; have hcz529 := zc2 BK530; have hcy1 := zc2 (jA (jO BK2.out hbB_.out)); have hcy4 := zc2 (jA (jO BK5.out hbB_.out)); have hcy482 := zc2 (jA (jO HF486.out hbB_.out)); have hcy483 := zc2 (jA (jO HF488.out hbB_.out)); have hcy515 := zc2 (jA (jO BK516.out hbB_.out)); have hnegb1 : gb1 ≠ gb529 := Nat.ne_of_lt (Nat.lt_of_lt_of_le (blk_lt BK2.out) HLgb529.out); have hnfgb1 := hnegb1.symm; have hnegb4 : gb4 ≠ gb529 := Nat.ne_of_lt (Nat.lt_of_lt_of_le (blk_lt BK5.out) HLgb529.out); have hnfgb4 := hnegb4.symm; have hnegb482 : gb482 ≠ gb529 := Nat.ne_of_lt (Nat.lt_of_lt_of_le (blk_lt HF486.out) HLgb529.out); have hnfgb482 := hnegb482.symm; have hnegb483 : gb483 ≠ gb529 := Nat.ne_of_lt (Nat.lt_of_lt_of_le (blk_lt HF488.out) HLgb529.out); have hnfgb483 := hnegb483.symm; have hnegb515 : gb515 ≠ gb529 := Nat.ne_of_lt (Nat.lt_of_lt_of_le (blk_lt BK516.out) HLgb529.out); have hnfgb515 := hnegb515.symm))
 clear hcy1 hcy4 hcy482 hcy483 hcy515 hnegb1 hnfgb1 hnegb4 hnfgb4 hnegb482 hnfgb482 hnegb483 hnfgb483 hnegb515 hnfgb515
 try clear hcz529
 have hb := hbA_.out
 clear hbA_ hbB_
 have HBi := zJ w_523 w_531 hb
 clear hb
 have HBn := jA (below_step HB.out HBi.out)
 clear HB
 have HB := HBn
 clear HBn
 have HS533 := jA HBi.out.size
 replace BK2 := zA jO BK2 HBi
 replace BK5 := zA jO BK5 HBi
 replace HF484 := zA Kd.R_below HF484 HBi
 replace HF485 := zA Kd.R_below HF485 HBi
 replace HF486 := zA jO HF486 HBi
 replace HF488 := zA jO HF488 HBi
 replace HO504 := zA Kd.R_below HO504 HBi
 replace HO510 := zA Kd.R_below HO510 HBi
 replace BK516 := zA jO BK516 HBi
 replace HO524 := zA Kd.R_below HO524 HBi
 clear HBi
 have HWw_531 := jA HB.out.size
 generalize hq_ : World.setCell (World.setCell w_531 ⟨gb529, 0, none⟩ (.int .i64 a2_0)) ⟨gb529, 1, none⟩ (.slice Ao525 xs2_1.length co527) = w_534
 have hk1 : Aside0 (Kept w_531 w_534 (fun k_ => k_ = gb529)) := ⟨by rw [← hq_]; exact Kept.then_ (kept_set w_531 gb529 0 _) (kept_set (World.setCell w_531 ⟨gb529, 0, none⟩ (.int .i64 a2_0)) gb529 1 _) (fun _ h_ => .inl h_)⟩
 have hz_ : w.heap.size ≤ w_523.heap.size := HWw_523.out
 replace HB : Aside0 (Below w.heap.size w w_534) := ⟨by rw [← hq_]; exact (below_set (below_set HB.out (Nat.le_trans hz_ HLgb529.out)) (Nat.le_trans hz_ HLgb529.out))⟩
 clear hz_
 replace BK530 : Aside0 (w_534.heap[gb529]? = some (.cells #[.int .i64 a2_0, .slice Ao525 xs2_1.length co527] 28 (0, 0))) := ⟨by rw [← hq_]; exact (blk_put (cs := #[.int .i64 a2_0, .slice none 0 0]) (blk_put (cs := #[.int .i64 0, .slice none 0 0]) BK530.out 0 _ rfl) 1 _ rfl)⟩
 clear hq_
 have HS535 := jA hk1.out.1
 have HSZ536 := jA (And.intro HSZ522.out (And.intro HS528.out (And.intro HGgb529.out (And.intro HLgb529.out (And.intro HS533.out (HS535.out))))))
 clear HSZ522
 have sz_ := HSZ536.out
 replace BK2 := zH hk1 BK2
 replace BK5 := zH hk1 BK5
 replace HF484 := jA (Kd.R_kept HF484.out hk1.out (fun k_ (h1_ : (w_15.heap.size ≤ k_ ∧ k_ < w_471.heap.size) ∧ some k_ = P495) (h2_ : k_ = gb529) => by have qh1_ := h1_.1; omega))
 replace HF485 := jA (Kd.R_kept HF485.out hk1.out (fun k_ (h1_ : (w_15.heap.size ≤ k_ ∧ k_ < w_471.heap.size) ∧ some k_ ≠ P495) (h2_ : k_ = gb529) => by have qh1_ := h1_.1; omega))
 replace HF486 := zH hk1 HF486
 replace HF488 := zH hk1 HF488
 replace HO504 := jA (Kd.R_kept HO504.out hk1.out (fun k_ (h1_ : w_500.heap.size ≤ k_ ∧ k_ < w_503.heap.size) (h2_ : k_ = gb529) => by omega))
 replace HO510 := jA (Kd.R_kept HO510.out hk1.out (fun k_ (h1_ : w_503.heap.size ≤ k_ ∧ k_ < w_509.heap.size) (h2_ : k_ = gb529) => by omega))
 replace BK516 := zH hk1 BK516
 replace HO524 := jA (Kd.R_kept HO524.out hk1.out (fun k_ (h1_ : w_520.heap.size ≤ k_ ∧ k_ < w_523.heap.size) (h2_ : k_ = gb529) => by omega))
 clear sz_
 clear hk1
 have HWw_534 := jA HB.out.size
 have hcz1 := zc2 BK2
 have hcz4 := zc2 BK5
 have hcz482 := zc2 HF486
 have hcz483 := zc2 HF488
 have hcz515 := zc2 BK516
 have hcz529 := zc2 BK530
 go_wp2_with (fail)
 try clear hcz1
 try clear hcz4
 try clear hcz482
 try clear hcz483
 try clear hcz515
 try clear hcz529
 go_at_call 18
 (with_reducible refine (impl_MovePieces.calls k _ _ xs0 a1_0 _ _ xs1_1 a2_0 _ _ xs2_1 a3 a4 res_r1 gs_r2 res_r3 gs_r4 res_r5 _ ?side1 ?side2 ?side3 ?side4 ?side5 ?side6 HFimpl.out).mono ?_)
 (case side1 => repeat (first | exact C_ext (jP HO504.out).2.2 HXE0.out HLE0.out | (with_reducible refine Kd.C_alloc ?_ _) | (with_reducible refine Kd.C_drewN ?_ _) | (with_reducible refine Kd.C_drew ?_)))
 (case side2 => exact Nat.le_trans HLE0.out (jP HO504.out).2.1)
 (case side3 => repeat (first | exact C_ext (jP HO510.out).2.2 HXE1_1.out HLE1_1.out | (with_reducible refine Kd.C_alloc ?_ _) | (with_reducible refine Kd.C_drewN ?_ _) | (with_reducible refine Kd.C_drew ?_)))
 (case side4 => exact Nat.le_trans HLE1_1.out (jP HO510.out).2.1)
 (case side5 => repeat (first | exact C_ext (jP HO524.out).2.2 HXE2_1.out HLE2_1.out | (with_reducible refine Kd.C_alloc ?_ _) | (with_reducible refine Kd.C_drewN ?_ _) | (with_reducible refine Kd.C_drew ?_)))
 (case side6 => exact Nat.le_trans HLE2_1.out (jP HO524.out).2.1)
 rintro e w_537 ⟨v_538, v_539, rfl, ho1, ho2, hb⟩
 have hoA := jA (Kd.R_lower (R_own rfl ho1) (Nat.le_trans HB.out.size (zy : Below w_534.heap.size w_534 _).size))
 have hoB := jA (Kd.R_lower (R_near ho2) (Nat.le_trans HB.out.size (zy : Below w_534.heap.size w_534 _).size))
 clear ho1 ho2
 have HBi := zJ w_534 w_537 hb
 clear hb
 have HBn := jA (below_step HB.out HBi.out)
 clear HB
 have HB := HBn
 clear HBn
 have HS540 := jA HBi.out.size
 replace BK2 := zA jO BK2 HBi
 replace BK5 := zA jO BK5 HBi
 replace HF484 := zA Kd.R_below HF484 HBi
 replace HF485 := zA Kd.R_below HF485 HBi
 replace HF486 := zA jO HF486 HBi
 replace HF488 := zA jO HF488 HBi
 replace HO504 := zA Kd.R_below HO504 HBi
 replace HO510 := zA Kd.R_below HO510 HBi
 replace BK516 := zA jO BK516 HBi
 replace HO524 := zA Kd.R_below HO524 HBi
 replace BK530 := zA jO BK530 HBi
 clear HBi
 have HWw_537 := jA HB.out.size
 obtain ⟨Ao542, co543, eo544⟩ := Kd.R_slice hoA.out
 subst eo544
 obtain ⟨Ao546, co547, eo548⟩ := Kd.R_slice hoB.out
 subst eo548
 have HO541 := jA (Kd.R_mono (ok' := fun k_ => (w_534.heap.size ≤ k_ ∧ k_ < w_537.heap.size) ∧ some k_ = (Value.slice Ao542 gs_r2.length co543).ownBlock) hoA.out (fun k_ hk_ => hk_))
 clear hoA
 have HO545 := jA (Kd.R_mono (ok' := fun k_ => (w_534.heap.size ≤ k_ ∧ k_ < w_537.heap.size) ∧ some k_ ≠ (Value.slice Ao542 gs_r2.length co543).ownBlock) hoB.out (fun k_ hk_ => hk_))
 clear hoB
 obtain ⟨P549, hP_⟩ : ∃ P : Option Nat, P = (Value.slice Ao542 gs_r2.length co543).ownBlock := ⟨_, rfl⟩
 have n0_ := jA HO541.out
 rw [← hP_] at n0_
 clear HO541
 have HO541 := n0_
 clear n0_
 have n0_ := jA HO545.out
 rw [← hP_] at n0_
 clear HO545
 have HO545 := n0_
 clear n0_
 clear hP_
 go_wp2_with (first | ((with_reducible refine jJ (N := 18) rfl ?_); refine zE 18 #[.int .i64 0, .slice none 0 0] 28 ?_; intro gb551 hg_ w_553 hbox hb; have BK552 := jA hbox; have HGgb551 := jA (blk_lt hbox); have HLgb551 : Aside0 (w_537.heap.size ≤ gb551) := ⟨by rw [hg_]; exact Nat.le_refl _⟩; have hbA_ := jA hb; have hbD_ := zJ w_537 w_553 hb; clear hbox hg_ hb) | ((with_reducible refine jJ (N := 19) rfl ?_); refine zE 19 #[.int .i64 0, .slice none 0 0] 28 ?_; intro gb554 hg_ w_556 hbox hb; have BK555 := jA hbox; have HGgb554 := jA (blk_lt hbox); have HLgb554 : Aside0 (w_553.heap.size ≤ gb554) := ⟨by rw [hg_]; exact Nat.le_refl _⟩; have hbB_ := jA hb; have hbC_ := zJ w_553 w_556 hb; have hne_ : gb551 ≠ gb554 := Nat.ne_of_lt (Nat.lt_of_lt_of_le HGgb551.out HLgb554.out); have hnf_ := hne_.symm; have hcy551 := zc2 (jA (jO BK552.out hbC_.out)); have hcz554 := zc2 BK555; have hcy1_0 : w_556.cell? ⟨gb1, 0, none⟩ = some (.int .i64 a1_0) := (jD (jO (jO BK2.out hbD_.out) hbC_.out) 0).trans rfl; have hcy1_1 : w_556.cell? ⟨gb1, 1, none⟩ = some (.slice A1_1 l1_1.length c1_1) := (jD (jO (jO BK2.out hbD_.out) hbC_.out) 1).trans rfl; have hfy1 := blk_frozen (jO (jO BK2.out hbD_.out) hbC_.out); have hnea1 : gb1 ≠ gb551 := Nat.ne_of_lt (Nat.lt_of_lt_of_le (blk_lt BK2.out) HLgb551.out); have hnfa1 := hnea1.symm; have hneb1 : gb1 ≠ gb554 := Nat.ne_of_lt (Nat.lt_of_lt_of_le (Nat.lt_of_lt_of_le (blk_lt BK2.out) hbD_.out.size) HLgb554.out); have hnfb1 := hneb1.symm; have hcy4_0 : w_556.cell? ⟨gb4, 0, none⟩ = some (.int .i64 a2_0) := (jD (jO (jO BK5.out hbD_.out) hbC_.out) 0).trans rfl; have hcy4_1 : w_556.cell? ⟨gb4, 1, none⟩ = some (.slice A2_1 l2_1.length c2_1) := (jD (jO (jO BK5.out hbD_.out) hbC_.out) 1).trans rfl; have hfy4 := blk_frozen (jO (jO BK5.out hbD_.out) hbC_.out); have hnea4 : gb4 ≠ gb551 := Nat.ne_of_lt (Nat.lt_of_lt_of_le (blk_lt BK5.out) HLgb551.out); have hnfa4 := hnea4.symm; have hneb4 : gb4 ≠ gb554 := Nat.ne_of_lt (Nat.lt_of_lt_of_le (Nat.lt_of_lt_of_le (blk_lt BK5.out) hbD_.out.size) HLgb554.out); have hnfb4 := hneb4.symm; have hcy482_0 : w_556.cell? ⟨gb482, 0, none⟩ = some (.int .i64 res_r1) := (jD (jO (jO HF486.out hbD_.out) hbC_.out) 0).trans rfl; have hcy482_1 : w_556.cell? ⟨gb482, 1, none⟩ = some (.slice Ao478 ws_r2.length co479) := (jD (jO (jO HF486.out hbD_.out) hbC_.out) 1).trans rfl; have hfy482 := blk_frozen (jO (jO HF486.out hbD_.out) hbC_.out); have hnea482 : gb482 ≠ gb551 := Nat.ne_of_lt (Nat.lt_of_lt_of_le (blk_lt HF486.out) HLgb551.out); have hnfa482 := hnea482.symm; have hneb482 : gb482 ≠ gb554 := Nat.ne_of_lt (Nat.lt_of_lt_of_le (Nat.lt_of_lt_of_le (blk_lt HF486.out) hbD_.out.size) HLgb554.out); have hnfb482 := hneb482.symm; have hcy483_0 : w_556.cell? ⟨gb483, 0, none⟩ = some (.int .i64 res_r3) := (jD (jO (jO HF488.out hbD_.out) hbC_.out) 0).trans rfl; have hcy483_1 : w_556.cell? ⟨gb483, 1, none⟩ = some (.slice Ao480 ws_r4.length co481) := (jD (jO (jO HF488.out hbD_.out) hbC_.out) 1).trans rfl; have hfy483 := blk_frozen (jO (jO HF488.out hbD_.out) hbC_.out); have hnea483 : gb483 ≠ gb551 := Nat.ne_of_lt (Nat.lt_of_lt_of_le (blk_lt HF488.out) HLgb551.out); have hnfa483 := hnea483.symm; have hneb483 : gb483 ≠ gb554 := Nat.ne_of_lt (Nat.lt_of_lt_of_le (Nat.lt_of_lt_of_le (blk_lt HF488.out) hbD_.out.size) HLgb554.out); have hnfb483 := hneb483.symm; have hcy515_0 : w_556.cell? ⟨gb515, 0, none⟩ = some (.int .i64 a1_0) := (jD (jO (jO BK516.out hbD_.out) hbC_.out) 0).trans rfl; have hcy515_1 : w_556.cell? ⟨gb515, 1, none⟩ = some (.slice Ao511 xs1_1.length co513) := (jD (jO (jO BK516.out hbD_.out) hbC_.out) 1).trans rfl; have hfy515 := blk_frozen (jO (jO BK516.out hbD_.out) hbC_.out); have hnea515 : gb515 ≠ gb551 := Nat.ne_of_lt (Nat.lt_of_lt_of_le (blk_lt BK516.out) HLgb551.out); have hnfa515 := hnea515.symm; have hneb515 : gb515 ≠ gb554 := Nat.ne_of_lt (Nat.lt_of_lt_of_le (Nat.lt_of_lt_of_le (blk_lt BK516.out) hbD_.out.size) HLgb554.out); have hnfb515 := hneb515.symm; have hcy529_0 : w_556.cell? ⟨gb529, 0, none⟩ = some (.int .i64 a2_0) := (jD (jO (jO BK530.out hbD_.out) hbC_.out) 0).trans rfl; have hcy529_1 : w_556.cell? ⟨gb529, 1, none⟩ = some (.slice Ao525 xs2_1.length co527) := (jD (jO (jO BK530.out hbD_.out) hbC_.out) 1).trans rfl; have hfy529 := blk_frozen (jO (jO BK530.out hbD_.out) hbC_.out); have hnea529 : gb529 ≠ gb551 := Nat.ne_of_lt (Nat.lt_of_lt_of_le (blk_lt BK530.out) HLgb551.out); have hnfa529 := hnea529.symm; have hneb529 : gb529 ≠ gb554 := Nat.ne_of_lt (Nat.lt_of_lt_of_le (Nat.lt_of_lt_of_le (blk_lt BK530.out) hbD_.out.size) HLgb554.out); have hnfb529 := hneb529.symm; clear hbox hg_ hb))
 clear hne_ hnf_ hbC_ hbD_ hcy551 hcy1_0 hcy1_1 hfy1 hnea1 hnfa1 hneb1 hnfb1 hcy4_0 hcy4_1 hfy4 hnea4 hnfa4 hneb4 hnfb4 hcy482_0 hcy482_1 hfy482 hnea482 hnfa482 hneb482 hnfb482 hcy483_0 hcy483_1 hfy483 hnea483 hnfa483 hneb483 hnfb483 hcy515_0 hcy515_1 hfy515 hnea515 hnfa515 hneb515 hnfb515 hcy529_0 hcy529_1 hfy529 hnea529 hnfa529 hneb529 hnfb529
 try clear hcz554
 have hb := hbA_.out
 clear hbA_
 have HBi := zJ w_537 w_553 hb
 clear hb
 have HBn := jA (below_step HB.out HBi.out)
 clear HB
 have HB := HBn
 clear HBn
 have HS557 := jA HBi.out.size
 replace BK2 := zA jO BK2 HBi
 replace BK5 := zA jO BK5 HBi
 replace HF484 := zA Kd.R_below HF484 HBi
 replace HF485 := zA Kd.R_below HF485 HBi
 replace HF486 := zA jO HF486 HBi
 replace HF488 := zA jO HF488 HBi
 replace HO504 := zA Kd.R_below HO504 HBi
 replace HO510 := zA Kd.R_below HO510 HBi
 replace BK516 := zA jO BK516 HBi
 replace HO524 := zA Kd.R_below HO524 HBi
 replace BK530 := zA jO BK530 HBi
 replace HO541 := zA Kd.R_below HO541 HBi
 replace HO545 := zA Kd.R_below HO545 HBi
 clear HBi
 have HWw_553 := jA HB.out.size
 have hb := hbB_.out
 clear hbB_
 have HBi := zJ w_553 w_556 hb
 clear hb
 have HBn := jA (below_step HB.out HBi.out)
 clear HB
 have HB := HBn
 clear HBn
 have HS558 := jA HBi.out.size
 replace BK2 := zA jO BK2 HBi
 replace BK5 := zA jO BK5 HBi
 replace HF484 := zA Kd.R_below HF484 HBi
 replace HF485 := zA Kd.R_below HF485 HBi
 replace HF486 := zA jO HF486 HBi
 replace HF488 := zA jO HF488 HBi
 replace HO504 := zA Kd.R_below HO504 HBi
 replace HO510 := zA Kd.R_below HO510 HBi
 replace BK516 := zA jO BK516 HBi
 replace HO524 := zA Kd.R_below HO524 HBi
 replace BK530 := zA jO BK530 HBi
 replace HO541 := zA Kd.R_below HO541 HBi
 replace HO545 := zA Kd.R_below HO545 HBi
 replace BK552 := zA jO BK552 HBi
 clear HBi
 have HWw_556 := jA HB.out.size
 generalize hq_ : World.setCell (World.setCell w_556 ⟨gb551, 0, none⟩ (.int .i64 res_r1)) ⟨gb551, 1, none⟩ (.slice Ao542 gs_r2.length co543) = w_559
 have hk1 : Aside0 (Kept w_556 w_559 (fun k_ => k_ = gb551)) := ⟨by rw [← hq_]; exact Kept.then_ (kept_set w_556 gb551 0 _) (kept_set (World.setCell w_556 ⟨gb551, 0, none⟩ (.int .i64 res_r1)) gb551 1 _) (fun _ h_ => .inl h_)⟩
 have hz_ : w.heap.size ≤ w_537.heap.size := HWw_537.out
 replace HB : Aside0 (Below w.heap.size w w_559) := ⟨by rw [← hq_]; exact (below_set (below_set HB.out (Nat.le_trans hz_ HLgb551.out)) (Nat.le_trans hz_ HLgb551.out))⟩
 clear hz_
 replace BK552 : Aside0 (w_559.heap[gb551]? = some (.cells #[.int .i64 res_r1, .slice Ao542 gs_r2.length co543] 28 (0, 0))) := ⟨by rw [← hq_]; exact (blk_put (cs := #[.int .i64 res_r1, .slice none 0 0]) (blk_put (cs := #[.int .i64 0, .slice none 0 0]) BK552.out 0 _ rfl) 1 _ rfl)⟩
 clear hq_
 have HS560 := jA hk1.out.1
 have HSZ561 := jA (And.intro HSZ536.out (And.intro HS540.out (And.intro HGgb551.out (And.intro HLgb551.out (And.intro HS557.out (And.intro HGgb554.out (And.intro HLgb554.out (And.intro HS558.out (HS560.out)))))))))
 clear HSZ536
 have sz_ := HSZ561.out
 replace BK2 := zH hk1 BK2
 replace BK5 := zH hk1 BK5
 replace HF484 := jA (Kd.R_kept HF484.out hk1.out (fun k_ (h1_ : (w_15.heap.size ≤ k_ ∧ k_ < w_471.heap.size) ∧ some k_ = P495) (h2_ : k_ = gb551) => by have qh1_ := h1_.1; omega))
 replace HF485 := jA (Kd.R_kept HF485.out hk1.out (fun k_ (h1_ : (w_15.heap.size ≤ k_ ∧ k_ < w_471.heap.size) ∧ some k_ ≠ P495) (h2_ : k_ = gb551) => by have qh1_ := h1_.1; omega))
 replace HF486 := zH hk1 HF486
 replace HF488 := zH hk1 HF488
 replace HO504 := jA (Kd.R_kept HO504.out hk1.out (fun k_ (h1_ : w_500.heap.size ≤ k_ ∧ k_ < w_503.heap.size) (h2_ : k_ = gb551) => by omega))
 replace HO510 := jA (Kd.R_kept HO510.out hk1.out (fun k_ (h1_ : w_503.heap.size ≤ k_ ∧ k_ < w_509.heap.size) (h2_ : k_ = gb551) => by omega))
 replace BK516 := zH hk1 BK516
 replace HO524 := jA (Kd.R_kept HO524.out hk1.out (fun k_ (h1_ : w_520.heap.size ≤ k_ ∧ k_ < w_523.heap.size) (h2_ : k_ = gb551) => by omega))
 replace BK530 := zH hk1 BK530
 replace HO541 := jA (Kd.R_kept HO541.out hk1.out (fun k_ (h1_ : (w_534.heap.size ≤ k_ ∧ k_ < w_537.heap.size) ∧ some k_ = P549) (h2_ : k_ = gb551) => by have qh1_ := h1_.1; omega))
 replace HO545 := jA (Kd.R_kept HO545.out hk1.out (fun k_ (h1_ : (w_534.heap.size ≤ k_ ∧ k_ < w_537.heap.size) ∧ some k_ ≠ P549) (h2_ : k_ = gb551) => by have qh1_ := h1_.1; omega))
 replace BK555 := zH hk1 BK555
 clear sz_
 clear hk1
 have HWw_559 := jA HB.out.size
 generalize hq_ : World.setCell (World.setCell w_559 ⟨gb554, 0, none⟩ (.int .i64 res_r3)) ⟨gb554, 1, none⟩ (.slice Ao546 gs_r4.length co547) = w_562
 have hk1 : Aside0 (Kept w_559 w_562 (fun k_ => k_ = gb554)) := ⟨by rw [← hq_]; exact Kept.then_ (kept_set w_559 gb554 0 _) (kept_set (World.setCell w_559 ⟨gb554, 0, none⟩ (.int .i64 res_r3)) gb554 1 _) (fun _ h_ => .inl h_)⟩
 have hz_ : w.heap.size ≤ w_553.heap.size := HWw_553.out
 replace HB : Aside0 (Below w.heap.size w w_562) := ⟨by rw [← hq_]; exact (below_set (below_set HB.out (Nat.le_trans hz_ HLgb554.out)) (Nat.le_trans hz_ HLgb554.out))⟩
 clear hz_
 replace BK555 : Aside0 (w_562.heap[gb554]? = some (.cells #[.int .i64 res_r3, .slice Ao546 gs_r4.length co547] 28 (0, 0))) := ⟨by rw [← hq_]; exact (blk_put (cs := #[.int .i64 res_r3, .slice none 0 0]) (blk_put (cs := #[.int .i64 0, .slice none 0 0]) BK555.out 0 _ rfl) 1 _ rfl)⟩
 clear hq_
 have HS563 := jA hk1.out.1
 have HSZ564 := jA (And.intro HSZ561.out (HS563.out))
 clear HSZ561
 have sz_ := HSZ564.out
 replace BK2 := zH hk1 BK2
 replace BK5 := zH hk1 BK5
 replace HF484 := jA (Kd.R_kept HF484.out hk1.out (fun k_ (h1_ : (w_15.heap.size ≤ k_ ∧ k_ < w_471.heap.size) ∧ some k_ = P495) (h2_ : k_ = gb554) => by have qh1_ := h1_.1; omega))
 replace HF485 := jA (Kd.R_kept HF485.out hk1.out (fun k_ (h1_ : (w_15.heap.size ≤ k_ ∧ k_ < w_471.heap.size) ∧ some k_ ≠ P495) (h2_ : k_ = gb554) => by have qh1_ := h1_.1; omega))
 replace HF486 := zH hk1 HF486
 replace HF488 := zH hk1 HF488
 replace HO504 := jA (Kd.R_kept HO504.out hk1.out (fun k_ (h1_ : w_500.heap.size ≤ k_ ∧ k_ < w_503.heap.size) (h2_ : k_ = gb554) => by omega))
 replace HO510 := jA (Kd.R_kept HO510.out hk1.out (fun k_ (h1_ : w_503.heap.size ≤ k_ ∧ k_ < w_509.heap.size) (h2_ : k_ = gb554) => by omega))
 replace BK516 := zH hk1 BK516
 replace HO524 := jA (Kd.R_kept HO524.out hk1.out (fun k_ (h1_ : w_520.heap.size ≤ k_ ∧ k_ < w_523.heap.size) (h2_ : k_ = gb554) => by omega))
 replace BK530 := zH hk1 BK530
 replace HO541 := jA (Kd.R_kept HO541.out hk1.out (fun k_ (h1_ : (w_534.heap.size ≤ k_ ∧ k_ < w_537.heap.size) ∧ some k_ = P549) (h2_ : k_ = gb554) => by have qh1_ := h1_.1; omega))
 replace HO545 := jA (Kd.R_kept HO545.out hk1.out (fun k_ (h1_ : (w_534.heap.size ≤ k_ ∧ k_ < w_537.heap.size) ∧ some k_ ≠ P549) (h2_ : k_ = gb554) => by have qh1_ := h1_.1; omega))
 replace BK552 := zH hk1 BK552
 clear sz_
 clear hk1
 have HWw_562 := jA HB.out.size
 have hcz1 := zc2 BK2
 have hcz4 := zc2 BK5
 have hcz482 := zc2 HF486
 have hcz483 := zc2 HF488
 have hcz515 := zc2 BK516
 have hcz529 := zc2 BK530
 have hcz551 := zc2 BK552
 have hcz554 := zc2 BK555
 go_wp2_with (fail)
 try clear hcz1
 try clear hcz4
 try clear hcz482
 try clear hcz483
 try clear hcz515
 try clear hcz529
 try clear hcz551
 try clear hcz554
 go_at_call 19
 (with_reducible refine (laws_eqMagazine.calls k res_r1 _ _ gs_r2 res_r1 _ _ ws_r2 true _ ?side1 ?side2 ?side3 ?side4 HE_gs_r2_ws_r2.out).mono ?_)
 (case side1 => exact zv HO541)
 (case side2 => exact (jP HO541.out).2.1)
 (case side3 => exact zv HF484)
 (case side4 => exact (jP HF484.out).2.1)
 rintro e w_565 ⟨rfl, hb⟩
 have HBi := zJ w_562 w_565 hb
 clear hb
 have HBn := jA (below_step HB.out HBi.out)
 clear HB
 have HB := HBn
 clear HBn
 have HS566 := jA HBi.out.size
 replace BK2 := zA jO BK2 HBi
 replace BK5 := zA jO BK5 HBi
 replace HF484 := zA Kd.R_below HF484 HBi
 replace HF485 := zA Kd.R_below HF485 HBi
 replace HF486 := zA jO HF486 HBi
 replace HF488 := zA jO HF488 HBi
 replace HO504 := zA Kd.R_below HO504 HBi
 replace HO510 := zA Kd.R_below HO510 HBi
 replace BK516 := zA jO BK516 HBi
 replace HO524 := zA Kd.R_below HO524 HBi
 replace BK530 := zA jO BK530 HBi
 replace HO541 := zA Kd.R_below HO541 HBi
 replace HO545 := zA Kd.R_below HO545 HBi
 replace BK552 := zA jO BK552 HBi
 replace BK555 := zA jO BK555 HBi
 clear HBi
 have HWw_565 := jA HB.out.size
 have hcz1 := zc2 BK2
 have hcz4 := zc2 BK5
 have hcz482 := zc2 HF486
 have hcz483 := zc2 HF488
 have hcz515 := zc2 BK516
 have hcz529 := zc2 BK530
 have hcz551 := zc2 BK552
 have hcz554 := zc2 BK555
 go_wp2_with (fail)
 try clear hcz1
 try clear hcz4
 try clear hcz482
 try clear hcz483
 try clear hcz515
 try clear hcz529
 try clear hcz551
 try clear hcz554
 go_at_call 19
 (with_reducible refine (laws_eqMagazine.calls k res_r3 _ _ gs_r4 res_r3 _ _ ws_r4 true _ ?side1 ?side2 ?side3 ?side4 HE_gs_r4_ws_r4.out).mono ?_)
 (case side1 => exact zv HO545)
 (case side2 => exact (jP HO545.out).2.1)
 (case side3 => exact zv HF485)
 (case side4 => exact (jP HF485.out).2.1)
 rintro e w_567 ⟨rfl, hb⟩
 have HBi := zJ w_565 w_567 hb
 clear hb
 have HBn := jA (below_step HB.out HBi.out)
 clear HB
 have HB := HBn
 clear HBn
 have HS568 := jA HBi.out.size
 replace BK2 := zA jO BK2 HBi
 replace BK5 := zA jO BK5 HBi
 replace HF484 := zA Kd.R_below HF484 HBi
 replace HF485 := zA Kd.R_below HF485 HBi
 replace HF486 := zA jO HF486 HBi
 replace HF488 := zA jO HF488 HBi
 replace HO504 := zA Kd.R_below HO504 HBi
 replace HO510 := zA Kd.R_below HO510 HBi
 replace BK516 := zA jO BK516 HBi
 replace HO524 := zA Kd.R_below HO524 HBi
 replace BK530 := zA jO BK530 HBi
 replace HO541 := zA Kd.R_below HO541 HBi
 replace HO545 := zA Kd.R_below HO545 HBi
 replace BK552 := zA jO BK552 HBi
 replace BK555 := zA jO BK555 HBi
 clear HBi
 have HWw_567 := jA HB.out.size
 have hcz1 := zc2 BK2
 have hcz4 := zc2 BK5
 have hcz482 := zc2 HF486
 have hcz483 := zc2 HF488
 have hcz515 := zc2 BK516
 have hcz529 := zc2 BK530
 have hcz551 := zc2 BK552
 have hcz554 := zc2 BK555
 go_wp2_with (fail)
 try clear hcz1
 try clear hcz4
 try clear hcz482
 try clear hcz483
 try clear hcz515
 try clear hcz529
 try clear hcz551
 try clear hcz554
 go_at_call 16
 (with_reducible refine (laws_toArticleSX.calls k _ _ l0 false ext0 _ ?side1 ?side2 HTO0.out).mono ?_)
 (case side1 => exact zs HR0 HB)
 (case side2 => exact HC0.out)
 rintro e w_569 ⟨Ao571, no572, co573, rfl, hn, ho, hb⟩
 obtain rfl : no572 = xs0.length := hn.full HXL0.out HNE0.out
 clear hn
 have ho1 := jA (Kd.R_lower (R_span ho) (Nat.le_trans HB.out.size (zy : Below w_567.heap.size w_567 _).size))
 clear ho
 have HBi := zJ w_567 w_569 hb
 clear hb
 have HBn := jA (below_step HB.out HBi.out)
 clear HB
 have HB := HBn
 clear HBn
 have HS574 := jA HBi.out.size
 replace BK2 := zA jO BK2 HBi
 replace BK5 := zA jO BK5 HBi
 replace HF484 := zA Kd.R_below HF484 HBi
 replace HF485 := zA Kd.R_below HF485 HBi
 replace HF486 := zA jO HF486 HBi
 replace HF488 := zA jO HF488 HBi
 replace HO504 := zA Kd.R_below HO504 HBi
 replace HO510 := zA Kd.R_below HO510 HBi
 replace BK516 := zA jO BK516 HBi
 replace HO524 := zA Kd.R_below HO524 HBi
 replace BK530 := zA jO BK530 HBi
 replace HO541 := zA Kd.R_below HO541 HBi
 replace HO545 := zA Kd.R_below HO545 HBi
 replace BK552 := zA jO BK552 HBi
 replace BK555 := zA jO BK555 HBi
 clear HBi
 have HWw_569 := jA HB.out.size
 have HO570 := zM w_567 w_569 ho1
 clear ho1
 have hcz1 := zc2 BK2
 have hcz4 := zc2 BK5
 have hcz482 := zc2 HF486
 have hcz483 := zc2 HF488
 have hcz515 := zc2 BK516
 have hcz529 := zc2 BK530
 have hcz551 := zc2 BK552
 have hcz554 := zc2 BK555
 go_wp2_with (fail)
 try clear hcz1
 try clear hcz4
 try clear hcz482
 try clear hcz483
 try clear hcz515
 try clear hcz529
 try clear hcz551
 try clear hcz554
 go_at_call 20
 (with_reducible refine (laws_intactArticleSX.calls k _ _ ext0 _ _ ext0 xs0.length rm0 true _ ?side1 ?side2 ?side3 ?side4 HRM0.out HJ0.out rfl HEQX0.out).mono ?_)
 (case side1 => exact zv HO504)
 (case side2 => exact (jP HO504.out).2.1)
 (case side3 => exact zv HO570)
 (case side4 => exact (jP HO570.out).2.1)
 rintro e w_575 ⟨rfl, hb⟩
 have HBi := zJ w_569 w_575 hb
 clear hb
 have HBn := jA (below_step HB.out HBi.out)
 clear HB
 have HB := HBn
 clear HBn
 have HS576 := jA HBi.out.size
 replace BK2 := zA jO BK2 HBi
 replace BK5 := zA jO BK5 HBi
 replace HF484 := zA Kd.R_below HF484 HBi
 replace HF485 := zA Kd.R_below HF485 HBi
 replace HF486 := zA jO HF486 HBi
 replace HF488 := zA jO HF488 HBi
 replace HO504 := zA Kd.R_below HO504 HBi
 replace HO510 := zA Kd.R_below HO510 HBi
 replace BK516 := zA jO BK516 HBi
 replace HO524 := zA Kd.R_below HO524 HBi
 replace BK530 := zA jO BK530 HBi
 replace HO541 := zA Kd.R_below HO541 HBi
 replace HO545 := zA Kd.R_below HO545 HBi
 replace BK552 := zA jO BK552 HBi
 replace BK555 := zA jO BK555 HBi
 replace HO570 := zA Kd.R_below HO570 HBi
 clear HBi
 have HWw_575 := jA HB.out.size
 clear HO570
 have hcz1 := zc2 BK2
 have hcz4 := zc2 BK5
 have hcz482 := zc2 HF486
 have hcz483 := zc2 HF488
 have hcz515 := zc2 BK516
 have hcz529 := zc2 BK530
 have hcz551 := zc2 BK552
 have hcz554 := zc2 BK555
 go_wp2_with (fail)
 try clear hcz1
 try clear hcz4
 try clear hcz482
 try clear hcz483
 try clear hcz515
 try clear hcz529
 try clear hcz551
 try clear hcz554
 refine start_ (n := 5) (S := fun w' => w'.cell? ⟨gb1, 0, none⟩ = some (.int .i64 a1_0) ∧ w'.cell? ⟨gb1, 1, none⟩ = some (.slice A1_1 l1_1.length c1_1) ∧ w'.cell? ⟨gb4, 0, none⟩ = some (.int .i64 a2_0) ∧ w'.cell? ⟨gb4, 1, none⟩ = some (.slice A2_1 l2_1.length c2_1) ∧ w'.cell? ⟨gb482, 0, none⟩ = some (.int .i64 res_r1) ∧ w'.cell? ⟨gb482, 1, none⟩ = some (.slice Ao478 ws_r2.length co479) ∧ w'.cell? ⟨gb483, 0, none⟩ = some (.int .i64 res_r3) ∧ w'.cell? ⟨gb483, 1, none⟩ = some (.slice Ao480 ws_r4.length co481) ∧ w'.cell? ⟨gb515, 0, none⟩ = some (.int .i64 a1_0) ∧ w'.cell? ⟨gb515, 1, none⟩ = some (.slice Ao511 xs1_1.length co513) ∧ w'.cell? ⟨gb529, 0, none⟩ = some (.int .i64 a2_0) ∧ w'.cell? ⟨gb529, 1, none⟩ = some (.slice Ao525 xs2_1.length co527) ∧ w'.cell? ⟨gb551, 0, none⟩ = some (.int .i64 res_r1) ∧ w'.cell? ⟨gb551, 1, none⟩ = some (.slice Ao542 gs_r2.length co543) ∧ w'.cell? ⟨gb554, 0, none⟩ = some (.int .i64 res_r3) ∧ w'.cell? ⟨gb554, 1, none⟩ = some (.slice Ao546 gs_r4.length co547)) (ds := []) #[false, false, false, false, false] zr rfl rfl ⟨(jD BK2.out 0).trans rfl, (jD BK2.out 1).trans rfl, (jD BK5.out 0).trans rfl, (jD BK5.out 1).trans rfl, (jD HF486.out 0).trans rfl, (jD HF486.out 1).trans rfl, (jD HF488.out 0).trans rfl, (jD HF488.out 1).trans rfl, (jD BK516.out 0).trans rfl, (jD BK516.out 1).trans rfl, (jD BK530.out 0).trans rfl, (jD BK530.out 1).trans rfl, (jD BK552.out 0).trans rfl, (jD BK552.out 1).trans rfl, (jD BK555.out 0).trans rfl, (jD BK555.out 1).trans rfl⟩ (fun hHeld => ?_)
 generalize hq_ : World.drew _ = w_577 at hHeld ⊢
 replace HB : Aside0 (Below w.heap.size w w_577) := ⟨by rw [← hq_]; (repeat (first | (with_reducible first | exact HB.out | apply below_alloc | apply pw_below_drewN | apply jR) | exact HB.out))⟩
 have HS578 : Aside0 (w_575.heap.size ≤ w_577.heap.size) := ⟨by rw [← hq_]; exact Nat.le_refl _⟩
 replace BK2 : Aside0 (w_577.heap[gb1]? = some (.cells #[.int .i64 a1_0, .slice A1_1 l1_1.length c1_1] 25 (0, 0))) := ⟨by rw [← hq_]; (with_reducible repeat (first | refine blk_drewN ?_ _ | refine blk_drew ?_ | refine blk_alloc ?_ _)); exact BK2.out⟩
 replace BK5 : Aside0 (w_577.heap[gb4]? = some (.cells #[.int .i64 a2_0, .slice A2_1 l2_1.length c2_1] 25 (0, 0))) := ⟨by rw [← hq_]; (with_reducible repeat (first | refine blk_drewN ?_ _ | refine blk_drew ?_ | refine blk_alloc ?_ _)); exact BK5.out⟩
 replace HF484 : Aside0 (Kd.R (Kd.int .i64) 2 w_577 w.heap.size (fun k_ => (w_15.heap.size ≤ k_ ∧ k_ < w_471.heap.size) ∧ some k_ = P495) (.slice Ao478 ws_r2.length co479) ws_r2) := ⟨by rw [← hq_]; (with_reducible repeat (first | apply Kd.R_alloc | apply Kd.R_drewN | apply Kd.R_drew)); exact HF484.out⟩
 replace HF485 : Aside0 (Kd.R (Kd.int .i64) 2 w_577 w.heap.size (fun k_ => (w_15.heap.size ≤ k_ ∧ k_ < w_471.heap.size) ∧ some k_ ≠ P495) (.slice Ao480 ws_r4.length co481) ws_r4) := ⟨by rw [← hq_]; (with_reducible repeat (first | apply Kd.R_alloc | apply Kd.R_drewN | apply Kd.R_drew)); exact HF485.out⟩
 replace HF486 : Aside0 (w_577.heap[gb482]? = some (.cells #[.int .i64 res_r1, .slice Ao478 ws_r2.length co479] 28 (0, 0))) := ⟨by rw [← hq_]; (with_reducible repeat (first | refine blk_drewN ?_ _ | refine blk_drew ?_ | refine blk_alloc ?_ _)); exact HF486.out⟩
 replace HF488 : Aside0 (w_577.heap[gb483]? = some (.cells #[.int .i64 res_r3, .slice Ao480 ws_r4.length co481] 28 (0, 0))) := ⟨by rw [← hq_]; (with_reducible repeat (first | refine blk_drewN ?_ _ | refine blk_drew ?_ | refine blk_alloc ?_ _)); exact HF488.out⟩
 replace HO504 : Aside0 (Kd.R k65 65 w_577 w.heap.size (fun k_ => w_500.heap.size ≤ k_ ∧ k_ < w_503.heap.size) (.slice Ao505 ext0.length co507) ext0) := ⟨by rw [← hq_]; (with_reducible repeat (first | apply Kd.R_alloc | apply Kd.R_drewN | apply Kd.R_drew)); exact HO504.out⟩
 replace HO510 : Aside0 (Kd.R (Kd.int .i64) 2 w_577 w.heap.size (fun k_ => w_503.heap.size ≤ k_ ∧ k_ < w_509.heap.size) (.slice Ao511 ext1_1.length co513) ext1_1) := ⟨by rw [← hq_]; (with_reducible repeat (first | apply Kd.R_alloc | apply Kd.R_drewN | apply Kd.R_drew)); exact HO510.out⟩
 replace BK516 : Aside0 (w_577.heap[gb515]? = some (.cells #[.int .i64 a1_0, .slice Ao511 xs1_1.length co513] 28 (0, 0))) := ⟨by rw [← hq_]; (with_reducible repeat (first | refine blk_drewN ?_ _ | refine blk_drew ?_ | refine blk_alloc ?_ _)); exact BK516.out⟩
 replace HO524 : Aside0 (Kd.R (Kd.int .i64) 2 w_577 w.heap.size (fun k_ => w_520.heap.size ≤ k_ ∧ k_ < w_523.heap.size) (.slice Ao525 ext2_1.length co527) ext2_1) := ⟨by rw [← hq_]; (with_reducible repeat (first | apply Kd.R_alloc | apply Kd.R_drewN | apply Kd.R_drew)); exact HO524.out⟩
 replace BK530 : Aside0 (w_577.heap[gb529]? = some (.cells #[.int .i64 a2_0, .slice Ao525 xs2_1.length co527] 28 (0, 0))) := ⟨by rw [← hq_]; (with_reducible repeat (first | refine blk_drewN ?_ _ | refine blk_drew ?_ | refine blk_alloc ?_ _)); exact BK530.out⟩
 replace HO541 : Aside0 (Kd.R (Kd.int .i64) 2 w_577 w.heap.size (fun k_ => (w_534.heap.size ≤ k_ ∧ k_ < w_537.heap.size) ∧ some k_ = P549) (.slice Ao542 gs_r2.length co543) gs_r2) := ⟨by rw [← hq_]; (with_reducible repeat (first | apply Kd.R_alloc | apply Kd.R_drewN | apply Kd.R_drew)); exact HO541.out⟩
 replace HO545 : Aside0 (Kd.R (Kd.int .i64) 2 w_577 w.heap.size (fun k_ => (w_534.heap.size ≤ k_ ∧ k_ < w_537.heap.size) ∧ some k_ ≠ P549) (.slice Ao546 gs_r4.length co547) gs_r4) := ⟨by rw [← hq_]; (with_reducible repeat (first | apply Kd.R_alloc | apply Kd.R_drewN | apply Kd.R_drew)); exact HO545.out⟩
 replace BK552 : Aside0 (w_577.heap[gb551]? = some (.cells #[.int .i64 res_r1, .slice Ao542 gs_r2.length co543] 28 (0, 0))) := ⟨by rw [← hq_]; (with_reducible repeat (first | refine blk_drewN ?_ _ | refine blk_drew ?_ | refine blk_alloc ?_ _)); exact BK552.out⟩
 replace BK555 : Aside0 (w_577.heap[gb554]? = some (.cells #[.int .i64 res_r3, .slice Ao546 gs_r4.length co547] 28 (0, 0))) := ⟨by rw [← hq_]; (with_reducible repeat (first | refine blk_drewN ?_ _ | refine blk_drew ?_ | refine blk_alloc ?_ _)); exact BK555.out⟩
 clear hq_
 have HWw_577 := jA HB.out.size
 refine take_ (i := 0) (N := some 94) (v := ?_) (a' := ?_) #[true, false, false, false, false] rfl rfl zr (fun _ _ _ h => h) (Or.inl ⟨by rfl, ?_⟩) hHeld ?_ ?_
 rotate_left
 ·rintro w' ⟨s0, s1, s2, s3, s4, s5, s6, s7, s8, s9, s10, s11, s12, s13, s14, s15⟩
  go_simp
  with_reducible rfl
 rotate_left
 ·simp only [Act.put, jC, jE, jF, i64_w, i32_w]
  rfl
 refine take_ (i := 1) (N := some 95) (v := ?_) (a' := ?_) #[true, true, false, false, false] rfl rfl zr (fun _ _ _ h => h) (Or.inl ⟨by rfl, ?_⟩) hHeld ?_ ?_
 rotate_left
 ·rintro w' ⟨s0, s1, s2, s3, s4, s5, s6, s7, s8, s9, s10, s11, s12, s13, s14, s15⟩
  go_simp
  with_reducible rfl
 rotate_left
 ·simp only [Act.put, jC, jE, jF, i64_w, i32_w]
  rfl
 refine one_ (i := 2) (N := some 96) #[true, true, true, false, false] rfl rfl zr (by decide) (fun K hK => ?_)
 refine goes_ Try.func17 zr rfl #[.agg #[.int .i64 a1_0, .slice A1_1 l1_1.length c1_1], .bool false] (by rfl) rfl rfl zm ?_
 (with_reducible refine (laws_toMagazineX.calls k a1_0 _ _ l1_1 false a1_0 ext1_1 _ ?side1 ?side2 (by unfold laws_toMagazineX.f; rw [HTO1_1.out, Option.bind_some])).mono ?_)
 (case side1 => exact zs HR1_1 HB)
 (case side2 => exact HC1_1.out)
 rintro e w_579 ⟨Ao581, no582, co583, rfl, hn, ho, hb⟩
 obtain rfl : no582 = xs1_1.length := hn.full HXL1_1.out HNE1_1.out
 clear hn
 have ho1 := jA (Kd.R_lower (R_span ho) (Nat.le_trans HB.out.size (zy : Below w_577.heap.size w_577 _).size))
 clear ho
 have HBi := zJ w_577 w_579 hb
 clear hb
 have HBn := jA (below_step HB.out HBi.out)
 clear HB
 have HB := HBn
 clear HBn
 have HS584 := jA HBi.out.size
 replace BK2 := zA jO BK2 HBi
 replace BK5 := zA jO BK5 HBi
 replace HF484 := zA Kd.R_below HF484 HBi
 replace HF485 := zA Kd.R_below HF485 HBi
 replace HF486 := zA jO HF486 HBi
 replace HF488 := zA jO HF488 HBi
 replace HO504 := zA Kd.R_below HO504 HBi
 replace HO510 := zA Kd.R_below HO510 HBi
 replace BK516 := zA jO BK516 HBi
 replace HO524 := zA Kd.R_below HO524 HBi
 replace BK530 := zA jO BK530 HBi
 replace HO541 := zA Kd.R_below HO541 HBi
 replace HO545 := zA Kd.R_below HO545 HBi
 replace BK552 := zA jO BK552 HBi
 replace BK555 := zA jO BK555 HBi
 clear HBi
 have HWw_579 := jA HB.out.size
 have HO580 := zM w_577 w_579 ho1
 clear ho1
 refine ⟨_, rfl, ?_⟩
 refine hK.out _ _ ⟨(jD BK2.out 0).trans rfl, (jD BK2.out 1).trans rfl, (jD BK5.out 0).trans rfl, (jD BK5.out 1).trans rfl, (jD HF486.out 0).trans rfl, (jD HF486.out 1).trans rfl, (jD HF488.out 0).trans rfl, (jD HF488.out 1).trans rfl, (jD BK516.out 0).trans rfl, (jD BK516.out 1).trans rfl, (jD BK530.out 0).trans rfl, (jD BK530.out 1).trans rfl, (jD BK552.out 0).trans rfl, (jD BK552.out 1).trans rfl, (jD BK555.out 0).trans rfl, (jD BK555.out 1).trans rfl⟩ (fun hHeld => ?_)
 clear hK K
 refine norm_ (a' := ?_) ?_ ?_
 rotate_left
 ·show Act.put _ (some 96) _ = _
  simp only [Act.put, jC, jE, jF, i64_w, i32_w]
  rfl
 refine one_ (i := 3) (N := some 97) #[true, true, true, true, false] rfl rfl zr (by decide) (fun K hK => ?_)
 refine goes_ Try.func21 zr rfl #[.agg #[.int .i64 a1_0, .slice Ao511 xs1_1.length co513], .agg #[.int .i64 a1_0, .slice Ao581 xs1_1.length co583]] (by rfl) rfl rfl zm ?_
 (with_reducible refine (laws_intactMagazineX.calls k a1_0 _ _ ext1_1 _ _ ext1_1 xs1_1.length rm1_1 _ ?side1 ?side2 ?side3 ?side4 HRM1_1.out HJ1_1.out rfl HEQX1_1.out).mono ?_)
 (case side1 => exact zv HO510)
 (case side2 => exact (jP HO510.out).2.1)
 (case side3 => exact zv HO580)
 (case side4 => exact (jP HO580.out).2.1)
 rintro e w_585 ⟨rfl, hb⟩
 have HBi := zJ w_579 w_585 hb
 clear hb
 have HBn := jA (below_step HB.out HBi.out)
 clear HB
 have HB := HBn
 clear HBn
 have HS586 := jA HBi.out.size
 replace BK2 := zA jO BK2 HBi
 replace BK5 := zA jO BK5 HBi
 replace HF484 := zA Kd.R_below HF484 HBi
 replace HF485 := zA Kd.R_below HF485 HBi
 replace HF486 := zA jO HF486 HBi
 replace HF488 := zA jO HF488 HBi
 replace HO504 := zA Kd.R_below HO504 HBi
 replace HO510 := zA Kd.R_below HO510 HBi
 replace BK516 := zA jO BK516 HBi
 replace HO524 := zA Kd.R_below HO524 HBi
 replace BK530 := zA jO BK530 HBi
 replace HO541 := zA Kd.R_below HO541 HBi
 replace HO545 := zA Kd.R_below HO545 HBi
 replace BK552 := zA jO BK552 HBi
 replace BK555 := zA jO BK555 HBi
 replace HO580 := zA Kd.R_below HO580 HBi
 clear HBi
 have HWw_585 := jA HB.out.size
 refine ⟨_, rfl, ?_⟩
 refine hK.out _ _ ⟨(jD BK2.out 0).trans rfl, (jD BK2.out 1).trans rfl, (jD BK5.out 0).trans rfl, (jD BK5.out 1).trans rfl, (jD HF486.out 0).trans rfl, (jD HF486.out 1).trans rfl, (jD HF488.out 0).trans rfl, (jD HF488.out 1).trans rfl, (jD BK516.out 0).trans rfl, (jD BK516.out 1).trans rfl, (jD BK530.out 0).trans rfl, (jD BK530.out 1).trans rfl, (jD BK552.out 0).trans rfl, (jD BK552.out 1).trans rfl, (jD BK555.out 0).trans rfl, (jD BK555.out 1).trans rfl⟩ (fun hHeld => ?_)
 clear hK K
 refine norm_ (a' := ?_) ?_ ?_
 rotate_left
 ·show Act.put _ (some 97) _ = _
  simp only [Act.put, jC, jE, jF, i64_w, i32_w]
  rfl
 refine pure_ (i := 4) (N := some 98) (v := ?_) (a' := ?_) #[true, true, true, true, true] rfl rfl zr (fun _ _ _ h => h) (Or.inl ⟨by rfl, ?_⟩) ?_ ?_
 rotate_left
 ·intro w'
  go_simp
  with_reducible rfl
 rotate_left
 ·simp only [Act.put, jC, jE, jF, i64_w, i32_w]
  rfl
 refine done_ zr ?_
 clear HO580
 have hcz1 := zc2 BK2
 have hcz4 := zc2 BK5
 have hcz482 := zc2 HF486
 have hcz483 := zc2 HF488
 have hcz515 := zc2 BK516
 have hcz529 := zc2 BK530
 have hcz551 := zc2 BK552
 have hcz554 := zc2 BK555
 go_wp2_with (fail)
 try clear hcz1
 try clear hcz4
 try clear hcz482
 try clear hcz483
 try clear hcz515
 try clear hcz529
 try clear hcz551
 try clear hcz554
 refine start_ (n := 5) (S := fun w' => w'.cell? ⟨gb1, 0, none⟩ = some (.int .i64 a1_0) ∧ w'.cell? ⟨gb1, 1, none⟩ = some (.slice A1_1 l1_1.length c1_1) ∧ w'.cell? ⟨gb4, 0, none⟩ = some (.int .i64 a2_0) ∧ w'.cell? ⟨gb4, 1, none⟩ = some (.slice A2_1 l2_1.length c2_1) ∧ w'.cell? ⟨gb482, 0, none⟩ = some (.int .i64 res_r1) ∧ w'.cell? ⟨gb482, 1, none⟩ = some (.slice Ao478 ws_r2.length co479) ∧ w'.cell? ⟨gb483, 0, none⟩ = some (.int .i64 res_r3) ∧ w'.cell? ⟨gb483, 1, none⟩ = some (.slice Ao480 ws_r4.length co481) ∧ w'.cell? ⟨gb515, 0, none⟩ = some (.int .i64 a1_0) ∧ w'.cell? ⟨gb515, 1, none⟩ = some (.slice Ao511 xs1_1.length co513) ∧ w'.cell? ⟨gb529, 0, none⟩ = some (.int .i64 a2_0) ∧ w'.cell? ⟨gb529, 1, none⟩ = some (.slice Ao525 xs2_1.length co527) ∧ w'.cell? ⟨gb551, 0, none⟩ = some (.int .i64 res_r1) ∧ w'.cell? ⟨gb551, 1, none⟩ = some (.slice Ao542 gs_r2.length co543) ∧ w'.cell? ⟨gb554, 0, none⟩ = some (.int .i64 res_r3) ∧ w'.cell? ⟨gb554, 1, none⟩ = some (.slice Ao546 gs_r4.length co547)) (ds := []) #[false, false, false, false, false] zr rfl rfl ⟨(jD BK2.out 0).trans rfl, (jD BK2.out 1).trans rfl, (jD BK5.out 0).trans rfl, (jD BK5.out 1).trans rfl, (jD HF486.out 0).trans rfl, (jD HF486.out 1).trans rfl, (jD HF488.out 0).trans rfl, (jD HF488.out 1).trans rfl, (jD BK516.out 0).trans rfl, (jD BK516.out 1).trans rfl, (jD BK530.out 0).trans rfl, (jD BK530.out 1).trans rfl, (jD BK552.out 0).trans rfl, (jD BK552.out 1).trans rfl, (jD BK555.out 0).trans rfl, (jD BK555.out 1).trans rfl⟩ (fun hHeld => ?_)
 generalize hq_ : World.drew _ = w_587 at hHeld ⊢
 replace HB : Aside0 (Below w.heap.size w w_587) := ⟨by rw [← hq_]; (repeat (first | (with_reducible first | exact HB.out | apply below_alloc | apply pw_below_drewN | apply jR) | exact HB.out))⟩
 have HS588 : Aside0 (w_585.heap.size ≤ w_587.heap.size) := ⟨by rw [← hq_]; exact Nat.le_refl _⟩
 replace BK2 : Aside0 (w_587.heap[gb1]? = some (.cells #[.int .i64 a1_0, .slice A1_1 l1_1.length c1_1] 25 (0, 0))) := ⟨by rw [← hq_]; (with_reducible repeat (first | refine blk_drewN ?_ _ | refine blk_drew ?_ | refine blk_alloc ?_ _)); exact BK2.out⟩
 replace BK5 : Aside0 (w_587.heap[gb4]? = some (.cells #[.int .i64 a2_0, .slice A2_1 l2_1.length c2_1] 25 (0, 0))) := ⟨by rw [← hq_]; (with_reducible repeat (first | refine blk_drewN ?_ _ | refine blk_drew ?_ | refine blk_alloc ?_ _)); exact BK5.out⟩
 replace HF484 : Aside0 (Kd.R (Kd.int .i64) 2 w_587 w.heap.size (fun k_ => (w_15.heap.size ≤ k_ ∧ k_ < w_471.heap.size) ∧ some k_ = P495) (.slice Ao478 ws_r2.length co479) ws_r2) := ⟨by rw [← hq_]; (with_reducible repeat (first | apply Kd.R_alloc | apply Kd.R_drewN | apply Kd.R_drew)); exact HF484.out⟩
 replace HF485 : Aside0 (Kd.R (Kd.int .i64) 2 w_587 w.heap.size (fun k_ => (w_15.heap.size ≤ k_ ∧ k_ < w_471.heap.size) ∧ some k_ ≠ P495) (.slice Ao480 ws_r4.length co481) ws_r4) := ⟨by rw [← hq_]; (with_reducible repeat (first | apply Kd.R_alloc | apply Kd.R_drewN | apply Kd.R_drew)); exact HF485.out⟩
 replace HF486 : Aside0 (w_587.heap[gb482]? = some (.cells #[.int .i64 res_r1, .slice Ao478 ws_r2.length co479] 28 (0, 0))) := ⟨by rw [← hq_]; (with_reducible repeat (first | refine blk_drewN ?_ _ | refine blk_drew ?_ | refine blk_alloc ?_ _)); exact HF486.out⟩
 replace HF488 : Aside0 (w_587.heap[gb483]? = some (.cells #[.int .i64 res_r3, .slice Ao480 ws_r4.length co481] 28 (0, 0))) := ⟨by rw [← hq_]; (with_reducible repeat (first | refine blk_drewN ?_ _ | refine blk_drew ?_ | refine blk_alloc ?_ _)); exact HF488.out⟩
 replace HO504 : Aside0 (Kd.R k65 65 w_587 w.heap.size (fun k_ => w_500.heap.size ≤ k_ ∧ k_ < w_503.heap.size) (.slice Ao505 ext0.length co507) ext0) := ⟨by rw [← hq_]; (with_reducible repeat (first | apply Kd.R_alloc | apply Kd.R_drewN | apply Kd.R_drew)); exact HO504.out⟩
 replace HO510 : Aside0 (Kd.R (Kd.int .i64) 2 w_587 w.heap.size (fun k_ => w_503.heap.size ≤ k_ ∧ k_ < w_509.heap.size) (.slice Ao511 ext1_1.length co513) ext1_1) := ⟨by rw [← hq_]; (with_reducible repeat (first | apply Kd.R_alloc | apply Kd.R_drewN | apply Kd.R_drew)); exact HO510.out⟩
 replace BK516 : Aside0 (w_587.heap[gb515]? = some (.cells #[.int .i64 a1_0, .slice Ao511 xs1_1.length co513] 28 (0, 0))) := ⟨by rw [← hq_]; (with_reducible repeat (first | refine blk_drewN ?_ _ | refine blk_drew ?_ | refine blk_alloc ?_ _)); exact BK516.out⟩
 replace HO524 : Aside0 (Kd.R (Kd.int .i64) 2 w_587 w.heap.size (fun k_ => w_520.heap.size ≤ k_ ∧ k_ < w_523.heap.size) (.slice Ao525 ext2_1.length co527) ext2_1) := ⟨by rw [← hq_]; (with_reducible repeat (first | apply Kd.R_alloc | apply Kd.R_drewN | apply Kd.R_drew)); exact HO524.out⟩
 replace BK530 : Aside0 (w_587.heap[gb529]? = some (.cells #[.int .i64 a2_0, .slice Ao525 xs2_1.length co527] 28 (0, 0))) := ⟨by rw [← hq_]; (with_reducible repeat (first | refine blk_drewN ?_ _ | refine blk_drew ?_ | refine blk_alloc ?_ _)); exact BK530.out⟩
 replace HO541 : Aside0 (Kd.R (Kd.int .i64) 2 w_587 w.heap.size (fun k_ => (w_534.heap.size ≤ k_ ∧ k_ < w_537.heap.size) ∧ some k_ = P549) (.slice Ao542 gs_r2.length co543) gs_r2) := ⟨by rw [← hq_]; (with_reducible repeat (first | apply Kd.R_alloc | apply Kd.R_drewN | apply Kd.R_drew)); exact HO541.out⟩
 replace HO545 : Aside0 (Kd.R (Kd.int .i64) 2 w_587 w.heap.size (fun k_ => (w_534.heap.size ≤ k_ ∧ k_ < w_537.heap.size) ∧ some k_ ≠ P549) (.slice Ao546 gs_r4.length co547) gs_r4) := ⟨by rw [← hq_]; (with_reducible repeat (first | apply Kd.R_alloc | apply Kd.R_drewN | apply Kd.R_drew)); exact HO545.out⟩
 replace BK552 : Aside0 (w_587.heap[gb551]? = some (.cells #[.int .i64 res_r1, .slice Ao542 gs_r2.length co543] 28 (0, 0))) := ⟨by rw [← hq_]; (with_reducible repeat (first | refine blk_drewN ?_ _ | refine blk_drew ?_ | refine blk_alloc ?_ _)); exact BK552.out⟩
 replace BK555 : Aside0 (w_587.heap[gb554]? = some (.cells #[.int .i64 res_r3, .slice Ao546 gs_r4.length co547] 28 (0, 0))) := ⟨by rw [← hq_]; (with_reducible repeat (first | refine blk_drewN ?_ _ | refine blk_drew ?_ | refine blk_alloc ?_ _)); exact BK555.out⟩
 clear hq_
 have HWw_587 := jA HB.out.size
 refine take_ (i := 0) (N := some 99) (v := ?_) (a' := ?_) #[true, false, false, false, false] rfl rfl zr (fun _ _ _ h => h) (Or.inl ⟨by rfl, ?_⟩) hHeld ?_ ?_
 rotate_left
 ·rintro w' ⟨s0, s1, s2, s3, s4, s5, s6, s7, s8, s9, s10, s11, s12, s13, s14, s15⟩
  go_simp
  with_reducible rfl
 rotate_left
 ·simp only [Act.put, jC, jE, jF, i64_w, i32_w]
  rfl
 refine take_ (i := 1) (N := some 100) (v := ?_) (a' := ?_) #[true, true, false, false, false] rfl rfl zr (fun _ _ _ h => h) (Or.inl ⟨by rfl, ?_⟩) hHeld ?_ ?_
 rotate_left
 ·rintro w' ⟨s0, s1, s2, s3, s4, s5, s6, s7, s8, s9, s10, s11, s12, s13, s14, s15⟩
  go_simp
  with_reducible rfl
 rotate_left
 ·simp only [Act.put, jC, jE, jF, i64_w, i32_w]
  rfl
 refine one_ (i := 2) (N := some 101) #[true, true, true, false, false] rfl rfl zr (by decide) (fun K hK => ?_)
 refine goes_ Try.func17 zr rfl #[.agg #[.int .i64 a2_0, .slice A2_1 l2_1.length c2_1], .bool false] (by rfl) rfl rfl zm ?_
 (with_reducible refine (laws_toMagazineX.calls k a2_0 _ _ l2_1 false a2_0 ext2_1 _ ?side1 ?side2 (by unfold laws_toMagazineX.f; rw [HTO2_1.out, Option.bind_some])).mono ?_)
 (case side1 => exact zs HR2_1 HB)
 (case side2 => exact HC2_1.out)
 rintro e w_589 ⟨Ao591, no592, co593, rfl, hn, ho, hb⟩
 obtain rfl : no592 = xs2_1.length := hn.full HXL2_1.out HNE2_1.out
 clear hn
 have ho1 := jA (Kd.R_lower (R_span ho) (Nat.le_trans HB.out.size (zy : Below w_587.heap.size w_587 _).size))
 clear ho
 have HBi := zJ w_587 w_589 hb
 clear hb
 have HBn := jA (below_step HB.out HBi.out)
 clear HB
 have HB := HBn
 clear HBn
 have HS594 := jA HBi.out.size
 replace BK2 := zA jO BK2 HBi
 replace BK5 := zA jO BK5 HBi
 replace HF484 := zA Kd.R_below HF484 HBi
 replace HF485 := zA Kd.R_below HF485 HBi
 replace HF486 := zA jO HF486 HBi
 replace HF488 := zA jO HF488 HBi
 replace HO504 := zA Kd.R_below HO504 HBi
 replace HO510 := zA Kd.R_below HO510 HBi
 replace BK516 := zA jO BK516 HBi
 replace HO524 := zA Kd.R_below HO524 HBi
 replace BK530 := zA jO BK530 HBi
 replace HO541 := zA Kd.R_below HO541 HBi
 replace HO545 := zA Kd.R_below HO545 HBi
 replace BK552 := zA jO BK552 HBi
 replace BK555 := zA jO BK555 HBi
 clear HBi
 have HWw_589 := jA HB.out.size
 have HO590 := zM w_587 w_589 ho1
 clear ho1
 refine ⟨_, rfl, ?_⟩
 refine hK.out _ _ ⟨(jD BK2.out 0).trans rfl, (jD BK2.out 1).trans rfl, (jD BK5.out 0).trans rfl, (jD BK5.out 1).trans rfl, (jD HF486.out 0).trans rfl, (jD HF486.out 1).trans rfl, (jD HF488.out 0).trans rfl, (jD HF488.out 1).trans rfl, (jD BK516.out 0).trans rfl, (jD BK516.out 1).trans rfl, (jD BK530.out 0).trans rfl, (jD BK530.out 1).trans rfl, (jD BK552.out 0).trans rfl, (jD BK552.out 1).trans rfl, (jD BK555.out 0).trans rfl, (jD BK555.out 1).trans rfl⟩ (fun hHeld => ?_)
 clear hK K
 refine norm_ (a' := ?_) ?_ ?_
 rotate_left
 ·show Act.put _ (some 101) _ = _
  simp only [Act.put, jC, jE, jF, i64_w, i32_w]
  rfl
 refine one_ (i := 3) (N := some 102) #[true, true, true, true, false] rfl rfl zr (by decide) (fun K hK => ?_)
 refine goes_ Try.func21 zr rfl #[.agg #[.int .i64 a2_0, .slice Ao525 xs2_1.length co527], .agg #[.int .i64 a2_0, .slice Ao591 xs2_1.length co593]] (by rfl) rfl rfl zm ?_
 (with_reducible refine (laws_intactMagazineX.calls k a2_0 _ _ ext2_1 _ _ ext2_1 xs2_1.length rm2_1 _ ?side1 ?side2 ?side3 ?side4 HRM2_1.out HJ2_1.out rfl HEQX2_1.out).mono ?_)
 (case side1 => exact zv HO524)
 (case side2 => exact (jP HO524.out).2.1)
 (case side3 => exact zv HO590)
 (case side4 => exact (jP HO590.out).2.1)
 rintro e w_595 ⟨rfl, hb⟩
 have HBi := zJ w_589 w_595 hb
 clear hb
 have HBn := jA (below_step HB.out HBi.out)
 clear HB
 have HB := HBn
 clear HBn
 have HS596 := jA HBi.out.size
 replace BK2 := zA jO BK2 HBi
 replace BK5 := zA jO BK5 HBi
 replace HF484 := zA Kd.R_below HF484 HBi
 replace HF485 := zA Kd.R_below HF485 HBi
 replace HF486 := zA jO HF486 HBi
 replace HF488 := zA jO HF488 HBi
 replace HO504 := zA Kd.R_below HO504 HBi
 replace HO510 := zA Kd.R_below HO510 HBi
 replace BK516 := zA jO BK516 HBi
 replace HO524 := zA Kd.R_below HO524 HBi
 replace BK530 := zA jO BK530 HBi
 replace HO541 := zA Kd.R_below HO541 HBi
 replace HO545 := zA Kd.R_below HO545 HBi
 replace BK552 := zA jO BK552 HBi
 replace BK555 := zA jO BK555 HBi
 replace HO590 := zA Kd.R_below HO590 HBi
 clear HBi
 have HWw_595 := jA HB.out.size
 refine ⟨_, rfl, ?_⟩
 refine hK.out _ _ ⟨(jD BK2.out 0).trans rfl, (jD BK2.out 1).trans rfl, (jD BK5.out 0).trans rfl, (jD BK5.out 1).trans rfl, (jD HF486.out 0).trans rfl, (jD HF486.out 1).trans rfl, (jD HF488.out 0).trans rfl, (jD HF488.out 1).trans rfl, (jD BK516.out 0).trans rfl, (jD BK516.out 1).trans rfl, (jD BK530.out 0).trans rfl, (jD BK530.out 1).trans rfl, (jD BK552.out 0).trans rfl, (jD BK552.out 1).trans rfl, (jD BK555.out 0).trans rfl, (jD BK555.out 1).trans rfl⟩ (fun hHeld => ?_)
 clear hK K
 refine norm_ (a' := ?_) ?_ ?_
 rotate_left
 ·show Act.put _ (some 102) _ = _
  simp only [Act.put, jC, jE, jF, i64_w, i32_w]
  rfl
 refine pure_ (i := 4) (N := some 103) (v := ?_) (a' := ?_) #[true, true, true, true, true] rfl rfl zr (fun _ _ _ h => h) (Or.inl ⟨by rfl, ?_⟩) ?_ ?_
 rotate_left
 ·intro w'
  go_simp
  with_reducible rfl
 rotate_left
 ·simp only [Act.put, jC, jE, jF, i64_w, i32_w]
  rfl
 refine done_ zr ?_
 clear HO590
 have hcz1 := zc2 BK2
 have hcz4 := zc2 BK5
 have hcz482 := zc2 HF486
 have hcz483 := zc2 HF488
 have hcz515 := zc2 BK516
 have hcz529 := zc2 BK530
 have hcz551 := zc2 BK552
 have hcz554 := zc2 BK555
 go_wp2_with (fail)
 try clear hcz1
 try clear hcz4
 try clear hcz482
 try clear hcz483
 try clear hcz515
 try clear hcz529
 try clear hcz551
 try clear hcz554
 go_at_call 22
 (with_reducible refine (laws_markArticleS.calls k (fun k_ => w_500.heap.size ≤ k_ ∧ k_ < w_503.heap.size) (.slice Ao505 xs0.length co507) xs0 101 mk_0 ml_0 w _ ?side1 ?side2 HM0.out).mono ?_)
 (case side1 => exact zr5 HB)
 (case side2 => (with_reducible repeat (first | apply Kd.R_alloc | apply Kd.R_drewN | apply Kd.R_drew)); exact (R_ext HO504.out HXE0.out HLE0.out))
 rintro e w_597 ⟨rfl, hy, hb, hk⟩
 have hk1 := jA (Kept.then_ (Kept.of_below (zy : Below w_595.heap.size w_595 _) (fun k_ => w_500.heap.size ≤ k_ ∧ k_ < w_503.heap.size)) hk (fun _ h_ => .inl h_))
 clear hk
 have hy1 := jA hy
 clear hy
 clear HB
 have HB := jA hb
 clear hb
 have HS598 := jA hk1.out.1
 have HSZ599 := jA (And.intro HSZ564.out (And.intro HS566.out (And.intro HS568.out (And.intro HS574.out (And.intro HS576.out (And.intro HS578.out (And.intro HS584.out (And.intro HS586.out (And.intro HS588.out (And.intro HS594.out (And.intro HS596.out (HS598.out))))))))))))
 clear HSZ564
 have sz_ := HSZ599.out
 replace BK2 := zH hk1 BK2
 replace BK5 := zH hk1 BK5
 replace HF484 := jA (Kd.R_kept HF484.out hk1.out (fun k_ (h1_ : (w_15.heap.size ≤ k_ ∧ k_ < w_471.heap.size) ∧ some k_ = P495) (h2_ : w_500.heap.size ≤ k_ ∧ k_ < w_503.heap.size) => by have qh1_ := h1_.1; have qh2_ := h2_; omega))
 replace HF485 := jA (Kd.R_kept HF485.out hk1.out (fun k_ (h1_ : (w_15.heap.size ≤ k_ ∧ k_ < w_471.heap.size) ∧ some k_ ≠ P495) (h2_ : w_500.heap.size ≤ k_ ∧ k_ < w_503.heap.size) => by have qh1_ := h1_.1; have qh2_ := h2_; omega))
 replace HF486 := zH hk1 HF486
 replace HF488 := zH hk1 HF488
 replace HO510 := jA (Kd.R_kept HO510.out hk1.out (fun k_ (h1_ : w_503.heap.size ≤ k_ ∧ k_ < w_509.heap.size) (h2_ : w_500.heap.size ≤ k_ ∧ k_ < w_503.heap.size) => by omega))
 replace BK516 := zH hk1 BK516
 replace HO524 := jA (Kd.R_kept HO524.out hk1.out (fun k_ (h1_ : w_520.heap.size ≤ k_ ∧ k_ < w_523.heap.size) (h2_ : w_500.heap.size ≤ k_ ∧ k_ < w_503.heap.size) => by omega))
 replace BK530 := zH hk1 BK530
 replace HO541 := jA (Kd.R_kept HO541.out hk1.out (fun k_ (h1_ : (w_534.heap.size ≤ k_ ∧ k_ < w_537.heap.size) ∧ some k_ = P549) (h2_ : w_500.heap.size ≤ k_ ∧ k_ < w_503.heap.size) => by have qh1_ := h1_.1; have qh2_ := h2_; omega))
 replace HO545 := jA (Kd.R_kept HO545.out hk1.out (fun k_ (h1_ : (w_534.heap.size ≤ k_ ∧ k_ < w_537.heap.size) ∧ some k_ ≠ P549) (h2_ : w_500.heap.size ≤ k_ ∧ k_ < w_503.heap.size) => by have qh1_ := h1_.1; have qh2_ := h2_; omega))
 replace BK552 := zH hk1 BK552
 replace BK555 := zH hk1 BK555
 clear sz_
 have HWw_597 := jA HB.out.size
 clear hy1 hk1
 clear HO504
 have hcz1 := zc2 BK2
 have hcz4 := zc2 BK5
 have hcz482 := zc2 HF486
 have hcz483 := zc2 HF488
 have hcz515 := zc2 BK516
 have hcz529 := zc2 BK530
 have hcz551 := zc2 BK552
 have hcz554 := zc2 BK555
 go_wp2_with (fail)
 try clear hcz1
 try clear hcz4
 try clear hcz482
 try clear hcz483
 try clear hcz515
 try clear hcz529
 try clear hcz551
 try clear hcz554
 go_at_call 23
 (with_reducible refine (laws_markMagazine.calls k a1_0 (fun k_ => w_503.heap.size ≤ k_ ∧ k_ < w_509.heap.size) (.slice Ao511 xs1_1.length co513) xs1_1 mk_0 mk_1 ml_1 w _ ?side1 ?side2 HM1.out).mono ?_)
 (case side1 => exact zr5 HB)
 (case side2 => (with_reducible repeat (first | apply Kd.R_alloc | apply Kd.R_drewN | apply Kd.R_drew)); exact (R_ext HO510.out HXE1_1.out HLE1_1.out))
 rintro e w_600 ⟨rfl, hy, hb, hk⟩
 have hk1 := jA (Kept.then_ (Kept.of_below (zy : Below w_597.heap.size w_597 _) (fun k_ => w_503.heap.size ≤ k_ ∧ k_ < w_509.heap.size)) hk (fun _ h_ => .inl h_))
 clear hk
 have hy1 := jA hy
 clear hy
 clear HB
 have HB := jA hb
 clear hb
 have HS601 := jA hk1.out.1
 have HSZ602 := jA (And.intro HSZ599.out (HS601.out))
 clear HSZ599
 have sz_ := HSZ602.out
 replace BK2 := zH hk1 BK2
 replace BK5 := zH hk1 BK5
 replace HF484 := jA (Kd.R_kept HF484.out hk1.out (fun k_ (h1_ : (w_15.heap.size ≤ k_ ∧ k_ < w_471.heap.size) ∧ some k_ = P495) (h2_ : w_503.heap.size ≤ k_ ∧ k_ < w_509.heap.size) => by have qh1_ := h1_.1; have qh2_ := h2_; omega))
 replace HF485 := jA (Kd.R_kept HF485.out hk1.out (fun k_ (h1_ : (w_15.heap.size ≤ k_ ∧ k_ < w_471.heap.size) ∧ some k_ ≠ P495) (h2_ : w_503.heap.size ≤ k_ ∧ k_ < w_509.heap.size) => by have qh1_ := h1_.1; have qh2_ := h2_; omega))
 replace HF486 := zH hk1 HF486
 replace HF488 := zH hk1 HF488
 replace BK516 := zH hk1 BK516
 replace HO524 := jA (Kd.R_kept HO524.out hk1.out (fun k_ (h1_ : w_520.heap.size ≤ k_ ∧ k_ < w_523.heap.size) (h2_ : w_503.heap.size ≤ k_ ∧ k_ < w_509.heap.size) => by omega))
 replace BK530 := zH hk1 BK530
 replace HO541 := jA (Kd.R_kept HO541.out hk1.out (fun k_ (h1_ : (w_534.heap.size ≤ k_ ∧ k_ < w_537.heap.size) ∧ some k_ = P549) (h2_ : w_503.heap.size ≤ k_ ∧ k_ < w_509.heap.size) => by have qh1_ := h1_.1; have qh2_ := h2_; omega))
 replace HO545 := jA (Kd.R_kept HO545.out hk1.out (fun k_ (h1_ : (w_534.heap.size ≤ k_ ∧ k_ < w_537.heap.size) ∧ some k_ ≠ P549) (h2_ : w_503.heap.size ≤ k_ ∧ k_ < w_509.heap.size) => by have qh1_ := h1_.1; have qh2_ := h2_; omega))
 replace BK552 := zH hk1 BK552
 replace BK555 := zH hk1 BK555
 clear sz_
 have HWw_600 := jA HB.out.size
 clear hy1 hk1
 clear HO510
 have hcz1 := zc2 BK2
 have hcz4 := zc2 BK5
 have hcz482 := zc2 HF486
 have hcz483 := zc2 HF488
 have hcz515 := zc2 BK516
 have hcz529 := zc2 BK530
 have hcz551 := zc2 BK552
 have hcz554 := zc2 BK555
 go_wp2_with (fail)
 try clear hcz1
 try clear hcz4
 try clear hcz482
 try clear hcz483
 try clear hcz515
 try clear hcz529
 try clear hcz551
 try clear hcz554
 go_at_call 23
 (with_reducible refine (laws_markMagazine.calls k a2_0 (fun k_ => w_520.heap.size ≤ k_ ∧ k_ < w_523.heap.size) (.slice Ao525 xs2_1.length co527) xs2_1 mk_1 mk_2 ml_2 w _ ?side1 ?side2 HM2.out).mono ?_)
 (case side1 => exact zr5 HB)
 (case side2 => (with_reducible repeat (first | apply Kd.R_alloc | apply Kd.R_drewN | apply Kd.R_drew)); exact (R_ext HO524.out HXE2_1.out HLE2_1.out))
 rintro e w_603 ⟨rfl, hy, hb, hk⟩
 have hk1 := jA (Kept.then_ (Kept.of_below (zy : Below w_600.heap.size w_600 _) (fun k_ => w_520.heap.size ≤ k_ ∧ k_ < w_523.heap.size)) hk (fun _ h_ => .inl h_))
 clear hk
 have hy1 := jA hy
 clear hy
 clear HB
 have HB := jA hb
 clear hb
 have HS604 := jA hk1.out.1
 have HSZ605 := jA (And.intro HSZ602.out (HS604.out))
 clear HSZ602
 have sz_ := HSZ605.out
 replace BK2 := zH hk1 BK2
 replace BK5 := zH hk1 BK5
 replace HF484 := jA (Kd.R_kept HF484.out hk1.out (fun k_ (h1_ : (w_15.heap.size ≤ k_ ∧ k_ < w_471.heap.size) ∧ some k_ = P495) (h2_ : w_520.heap.size ≤ k_ ∧ k_ < w_523.heap.size) => by have qh1_ := h1_.1; have qh2_ := h2_; omega))
 replace HF485 := jA (Kd.R_kept HF485.out hk1.out (fun k_ (h1_ : (w_15.heap.size ≤ k_ ∧ k_ < w_471.heap.size) ∧ some k_ ≠ P495) (h2_ : w_520.heap.size ≤ k_ ∧ k_ < w_523.heap.size) => by have qh1_ := h1_.1; have qh2_ := h2_; omega))
 replace HF486 := zH hk1 HF486
 replace HF488 := zH hk1 HF488
 replace BK516 := zH hk1 BK516
 replace BK530 := zH hk1 BK530
 replace HO541 := jA (Kd.R_kept HO541.out hk1.out (fun k_ (h1_ : (w_534.heap.size ≤ k_ ∧ k_ < w_537.heap.size) ∧ some k_ = P549) (h2_ : w_520.heap.size ≤ k_ ∧ k_ < w_523.heap.size) => by have qh1_ := h1_.1; have qh2_ := h2_; omega))
 replace HO545 := jA (Kd.R_kept HO545.out hk1.out (fun k_ (h1_ : (w_534.heap.size ≤ k_ ∧ k_ < w_537.heap.size) ∧ some k_ ≠ P549) (h2_ : w_520.heap.size ≤ k_ ∧ k_ < w_523.heap.size) => by have qh1_ := h1_.1; have qh2_ := h2_; omega))
 replace BK552 := zH hk1 BK552
 replace BK555 := zH hk1 BK555
 clear sz_
 have HWw_603 := jA HB.out.size
 clear hy1 hk1
 clear HO524
 have hn_ := HMN2.out
 have hcz1 := zc2 BK2
 have hcz4 := zc2 BK5
 have hcz482 := zc2 HF486
 have hcz483 := zc2 HF488
 have hcz515 := zc2 BK516
 have hcz529 := zc2 BK530
 have hcz551 := zc2 BK552
 have hcz554 := zc2 BK555
 go_wp2_with (fail)
 try clear hcz1
 try clear hcz4
 try clear hcz482
 try clear hcz483
 try clear hcz515
 try clear hcz529
 try clear hcz551
 try clear hcz554
 clear hn_
 have hcz1 := zc2 BK2
 have hcz4 := zc2 BK5
 have hcz482 := zc2 HF486
 have hcz483 := zc2 HF488
 have hcz515 := zc2 BK516
 have hcz529 := zc2 BK530
 have hcz551 := zc2 BK552
 have hcz554 := zc2 BK555
 go_wp2_with (fail)
 try clear hcz1
 try clear hcz4
 try clear hcz482
 try clear hcz483
 try clear hcz515
 try clear hcz529
 try clear hcz551
 try clear hcz554
 go_at_call 19
 (with_reducible refine (laws_eqMagazine.calls k res_r1 _ _ gs_r2 res_r1 _ _ ws_r2 true _ ?side1 ?side2 ?side3 ?side4 HE_gs_r2_ws_r2.out).mono ?_)
 (case side1 => exact zv HO541)
 (case side2 => exact (jP HO541.out).2.1)
 (case side3 => exact zv HF484)
 (case side4 => exact (jP HF484.out).2.1)
 rintro e w_606 ⟨rfl, hb⟩
 have HBi := zJ w_603 w_606 hb
 clear hb
 have HBn := jA (below_step HB.out HBi.out)
 clear HB
 have HB := HBn
 clear HBn
 have HS607 := jA HBi.out.size
 replace BK2 := zA jO BK2 HBi
 replace BK5 := zA jO BK5 HBi
 replace HF484 := zA Kd.R_below HF484 HBi
 replace HF485 := zA Kd.R_below HF485 HBi
 replace HF486 := zA jO HF486 HBi
 replace HF488 := zA jO HF488 HBi
 replace BK516 := zA jO BK516 HBi
 replace BK530 := zA jO BK530 HBi
 replace HO541 := zA Kd.R_below HO541 HBi
 replace HO545 := zA Kd.R_below HO545 HBi
 replace BK552 := zA jO BK552 HBi
 replace BK555 := zA jO BK555 HBi
 clear HBi
 have HWw_606 := jA HB.out.size
 have hcz1 := zc2 BK2
 have hcz4 := zc2 BK5
 have hcz482 := zc2 HF486
 have hcz483 := zc2 HF488
 have hcz515 := zc2 BK516
 have hcz529 := zc2 BK530
 have hcz551 := zc2 BK552
 have hcz554 := zc2 BK555
 go_wp2_with (fail)
 try clear hcz1
 try clear hcz4
 try clear hcz482
 try clear hcz483
 try clear hcz515
 try clear hcz529
 try clear hcz551
 try clear hcz554
 go_at_call 19
 (with_reducible refine (laws_eqMagazine.calls k res_r3 _ _ gs_r4 res_r3 _ _ ws_r4 true _ ?side1 ?side2 ?side3 ?side4 HE_gs_r4_ws_r4.out).mono ?_)
 (case side1 => exact zv HO545)
 (case side2 => exact (jP HO545.out).2.1)
 (case side3 => exact zv HF485)
 (case side4 => exact (jP HF485.out).2.1)
 rintro e w_608 ⟨rfl, hb⟩
 have HBi := zJ w_606 w_608 hb
 clear hb
 have HBn := jA (below_step HB.out HBi.out)
 clear HB
 have HB := HBn
 clear HBn
 have HS609 := jA HBi.out.size
 replace BK2 := zA jO BK2 HBi
 replace BK5 := zA jO BK5 HBi
 replace HF484 := zA Kd.R_below HF484 HBi
 replace HF485 := zA Kd.R_below HF485 HBi
 replace HF486 := zA jO HF486 HBi
 replace HF488 := zA jO HF488 HBi
 replace BK516 := zA jO BK516 HBi
 replace BK530 := zA jO BK530 HBi
 replace HO541 := zA Kd.R_below HO541 HBi
 replace HO545 := zA Kd.R_below HO545 HBi
 replace BK552 := zA jO BK552 HBi
 replace BK555 := zA jO BK555 HBi
 clear HBi
 have HWw_608 := jA HB.out.size
 have hcz1 := zc2 BK2
 have hcz4 := zc2 BK5
 have hcz482 := zc2 HF486
 have hcz483 := zc2 HF488
 have hcz515 := zc2 BK516
 have hcz529 := zc2 BK530
 have hcz551 := zc2 BK552
 have hcz554 := zc2 BK555
 go_wp2_with (fail)
 try clear hcz1
 try clear hcz4
 try clear hcz482
 try clear hcz483
 try clear hcz515
 try clear hcz529
 try clear hcz551
 try clear hcz554
 go_at_call 23
 (with_reducible refine (laws_markMagazine.calls k res_r1 (fun k_ => (w_534.heap.size ≤ k_ ∧ k_ < w_537.heap.size) ∧ some k_ = P549) (.slice Ao542 gs_r2.length co543) gs_r2 101 mk_3 ml_3 w _ ?side1 ?side2 HM3.out).mono ?_)
 (case side1 => exact zr5 HB)
 (case side2 => (with_reducible repeat (first | apply Kd.R_alloc | apply Kd.R_drewN | apply Kd.R_drew)); exact HO541.out)
 rintro e w_610 ⟨rfl, hy, hb, hk⟩
 have hk1 := jA (Kept.then_ (Kept.of_below (zy : Below w_608.heap.size w_608 _) (fun k_ => (w_534.heap.size ≤ k_ ∧ k_ < w_537.heap.size) ∧ some k_ = P549)) hk (fun _ h_ => .inl h_))
 clear hk
 have hy1 := jA hy
 clear hy
 clear HB
 have HB := jA hb
 clear hb
 have HS611 := jA hk1.out.1
 have HSZ612 := jA (And.intro HSZ605.out (And.intro HS607.out (And.intro HS609.out (HS611.out))))
 clear HSZ605
 have sz_ := HSZ612.out
 replace BK2 := zH hk1 BK2
 replace BK5 := zH hk1 BK5
 replace HF484 := jA (Kd.R_kept HF484.out hk1.out (fun k_ (h1_ : (w_15.heap.size ≤ k_ ∧ k_ < w_471.heap.size) ∧ some k_ = P495) (h2_ : (w_534.heap.size ≤ k_ ∧ k_ < w_537.heap.size) ∧ some k_ = P549) => by have qh1_ := h1_.1; have qh2_ := h2_.1; omega))
 replace HF485 := jA (Kd.R_kept HF485.out hk1.out (fun k_ (h1_ : (w_15.heap.size ≤ k_ ∧ k_ < w_471.heap.size) ∧ some k_ ≠ P495) (h2_ : (w_534.heap.size ≤ k_ ∧ k_ < w_537.heap.size) ∧ some k_ = P549) => by have qh1_ := h1_.1; have qh2_ := h2_.1; omega))
 replace HF486 := zH hk1 HF486
 replace HF488 := zH hk1 HF488
 replace BK516 := zH hk1 BK516
 replace BK530 := zH hk1 BK530
 replace HO545 := jA (Kd.R_kept HO545.out hk1.out (fun k_ (h1_ : (w_534.heap.size ≤ k_ ∧ k_ < w_537.heap.size) ∧ some k_ ≠ P549) (h2_ : (w_534.heap.size ≤ k_ ∧ k_ < w_537.heap.size) ∧ some k_ = P549) => absurd h2_.2 h1_.2))
 replace BK552 := zH hk1 BK552
 replace BK555 := zH hk1 BK555
 clear sz_
 have HWw_610 := jA HB.out.size
 have hl_ := HML3.out
 have n0_ := jA BK552.out
 rw [hl_] at n0_
 clear BK552
 have BK552 := n0_
 clear n0_ hl_
 have n0_ := jA (Kd.R_reok rfl hy1.out (fun k_ e_ => HO541.out.1 k_ e_))
 clear HO541
 have hl_ := HML3.out
 rw [hl_] at n0_
 try simp only [hl_]
 clear hl_
 have HO541 := n0_
 clear n0_ hy1 hk1
 have hcz1 := zc2 BK2
 have hcz4 := zc2 BK5
 have hcz482 := zc2 HF486
 have hcz483 := zc2 HF488
 have hcz515 := zc2 BK516
 have hcz529 := zc2 BK530
 have hcz551 := zc2 BK552
 have hcz554 := zc2 BK555
 go_wp2_with (fail)
 try clear hcz1
 try clear hcz4
 try clear hcz482
 try clear hcz483
 try clear hcz515
 try clear hcz529
 try clear hcz551
 try clear hcz554
 go_at_call 23
 (with_reducible refine (laws_markMagazine.calls k res_r3 (fun k_ => (w_534.heap.size ≤ k_ ∧ k_ < w_537.heap.size) ∧ some k_ ≠ P549) (.slice Ao546 gs_r4.length co547) gs_r4 mk_3 mk_4 ml_4 w _ ?side1 ?side2 HM4.out).mono ?_)
 (case side1 => exact zr5 HB)
 (case side2 => (with_reducible repeat (first | apply Kd.R_alloc | apply Kd.R_drewN | apply Kd.R_drew)); exact HO545.out)
 rintro e w_613 ⟨rfl, hy, hb, hk⟩
 have hk1 := jA (Kept.then_ (Kept.of_below (zy : Below w_610.heap.size w_610 _) (fun k_ => (w_534.heap.size ≤ k_ ∧ k_ < w_537.heap.size) ∧ some k_ ≠ P549)) hk (fun _ h_ => .inl h_))
 clear hk
 have hy1 := jA hy
 clear hy
 clear HB
 have HB := jA hb
 clear hb
 have HS614 := jA hk1.out.1
 have HSZ615 := jA (And.intro HSZ612.out (HS614.out))
 clear HSZ612
 have sz_ := HSZ615.out
 replace BK2 := zH hk1 BK2
 replace BK5 := zH hk1 BK5
 replace HF484 := jA (Kd.R_kept HF484.out hk1.out (fun k_ (h1_ : (w_15.heap.size ≤ k_ ∧ k_ < w_471.heap.size) ∧ some k_ = P495) (h2_ : (w_534.heap.size ≤ k_ ∧ k_ < w_537.heap.size) ∧ some k_ ≠ P549) => by have qh1_ := h1_.1; have qh2_ := h2_.1; omega))
 replace HF485 := jA (Kd.R_kept HF485.out hk1.out (fun k_ (h1_ : (w_15.heap.size ≤ k_ ∧ k_ < w_471.heap.size) ∧ some k_ ≠ P495) (h2_ : (w_534.heap.size ≤ k_ ∧ k_ < w_537.heap.size) ∧ some k_ ≠ P549) => by have qh1_ := h1_.1; have qh2_ := h2_.1; omega))
 replace HF486 := zH hk1 HF486
 replace HF488 := zH hk1 HF488
 replace BK516 := zH hk1 BK516
 replace BK530 := zH hk1 BK530
 replace HO541 := jA (Kd.R_kept HO541.out hk1.out (fun k_ (h1_ : (w_534.heap.size ≤ k_ ∧ k_ < w_537.heap.size) ∧ some k_ = P549) (h2_ : (w_534.heap.size ≤ k_ ∧ k_ < w_537.heap.size) ∧ some k_ ≠ P549) => absurd h1_.2 h2_.2))
 replace BK552 := zH hk1 BK552
 replace BK555 := zH hk1 BK555
 clear sz_
 have HWw_613 := jA HB.out.size
 have hl_ := HML4.out
 have n0_ := jA BK555.out
 rw [hl_] at n0_
 clear BK555
 have BK555 := n0_
 clear n0_ hl_
 have n0_ := jA (Kd.R_reok rfl hy1.out (fun k_ e_ => HO545.out.1 k_ e_))
 clear HO545
 have hl_ := HML4.out
 rw [hl_] at n0_
 try simp only [hl_]
 clear hl_
 have HO545 := n0_
 clear n0_ hy1 hk1
 have hcz1 := zc2 BK2
 have hcz4 := zc2 BK5
 have hcz482 := zc2 HF486
 have hcz483 := zc2 HF488
 have hcz515 := zc2 BK516
 have hcz529 := zc2 BK530
 have hcz551 := zc2 BK552
 have hcz554 := zc2 BK555
 go_wp2_with (fail)
 try clear hcz1
 try clear hcz4
 try clear hcz482
 try clear hcz483
 try clear hcz515
 try clear hcz529
 try clear hcz551
 try clear hcz554
 go_at_call 24
 (with_reducible refine (laws_heldMagazine.calls k res_r1 _ _ ml_3 101 mk_3 _ ?side1 ?side2 HH_ml_3.out).mono ?_)
 (case side1 => exact zv HO541)
 (case side2 => exact (jP HO541.out).2.1)
 rintro e w_616 ⟨rfl, hb⟩
 have HBi := zJ w_613 w_616 hb
 clear hb
 have HBn := jA (below_step HB.out HBi.out)
 clear HB
 have HB := HBn
 clear HBn
 have HS617 := jA HBi.out.size
 replace BK2 := zA jO BK2 HBi
 replace BK5 := zA jO BK5 HBi
 replace HF484 := zA Kd.R_below HF484 HBi
 replace HF485 := zA Kd.R_below HF485 HBi
 replace HF486 := zA jO HF486 HBi
 replace HF488 := zA jO HF488 HBi
 replace BK516 := zA jO BK516 HBi
 replace BK530 := zA jO BK530 HBi
 replace HO541 := zA Kd.R_below HO541 HBi
 replace HO545 := zA Kd.R_below HO545 HBi
 replace BK552 := zA jO BK552 HBi
 replace BK555 := zA jO BK555 HBi
 clear HBi
 have HWw_616 := jA HB.out.size
 have hn_ := HMN3.out
 have hcz1 := zc2 BK2
 have hcz4 := zc2 BK5
 have hcz482 := zc2 HF486
 have hcz483 := zc2 HF488
 have hcz515 := zc2 BK516
 have hcz529 := zc2 BK530
 have hcz551 := zc2 BK552
 have hcz554 := zc2 BK555
 go_wp2_with (fail)
 try clear hcz1
 try clear hcz4
 try clear hcz482
 try clear hcz483
 try clear hcz515
 try clear hcz529
 try clear hcz551
 try clear hcz554
 clear hn_
 have hcz1 := zc2 BK2
 have hcz4 := zc2 BK5
 have hcz482 := zc2 HF486
 have hcz483 := zc2 HF488
 have hcz515 := zc2 BK516
 have hcz529 := zc2 BK530
 have hcz551 := zc2 BK552
 have hcz554 := zc2 BK555
 go_wp2_with (fail)
 try clear hcz1
 try clear hcz4
 try clear hcz482
 try clear hcz483
 try clear hcz515
 try clear hcz529
 try clear hcz551
 try clear hcz554
 go_at_call 24
 (with_reducible refine (laws_heldMagazine.calls k res_r3 _ _ ml_4 mk_3 mk_4 _ ?side1 ?side2 HH_ml_4.out).mono ?_)
 (case side1 => exact zv HO545)
 (case side2 => exact (jP HO545.out).2.1)
 rintro e w_618 ⟨rfl, hb⟩
 have HBi := zJ w_616 w_618 hb
 clear hb
 have HBn := jA (below_step HB.out HBi.out)
 clear HB
 have HB := HBn
 clear HBn
 have HS619 := jA HBi.out.size
 replace BK2 := zA jO BK2 HBi
 replace BK5 := zA jO BK5 HBi
 replace HF484 := zA Kd.R_below HF484 HBi
 replace HF485 := zA Kd.R_below HF485 HBi
 replace HF486 := zA jO HF486 HBi
 replace HF488 := zA jO HF488 HBi
 replace BK516 := zA jO BK516 HBi
 replace BK530 := zA jO BK530 HBi
 replace HO541 := zA Kd.R_below HO541 HBi
 replace HO545 := zA Kd.R_below HO545 HBi
 replace BK552 := zA jO BK552 HBi
 replace BK555 := zA jO BK555 HBi
 clear HBi
 have HWw_618 := jA HB.out.size
 have hn_ := HMN4.out
 have hcz1 := zc2 BK2
 have hcz4 := zc2 BK5
 have hcz482 := zc2 HF486
 have hcz483 := zc2 HF488
 have hcz515 := zc2 BK516
 have hcz529 := zc2 BK530
 have hcz551 := zc2 BK552
 have hcz554 := zc2 BK555
 go_wp2_with (fail)
 try clear hcz1
 try clear hcz4
 try clear hcz482
 try clear hcz483
 try clear hcz515
 try clear hcz529
 try clear hcz551
 try clear hcz554
 clear hn_
 have hcz1 := zc2 BK2
 have hcz4 := zc2 BK5
 have hcz482 := zc2 HF486
 have hcz483 := zc2 HF488
 have hcz515 := zc2 BK516
 have hcz529 := zc2 BK530
 have hcz551 := zc2 BK552
 have hcz554 := zc2 BK555
 go_wp2_with (fail)
 try clear hcz1
 try clear hcz4
 try clear hcz482
 try clear hcz483
 try clear hcz515
 try clear hcz529
 try clear hcz551
 try clear hcz554
 refine start_ (n := 18) (S := fun w' => w'.cell? ⟨gb1, 0, none⟩ = some (.int .i64 a1_0) ∧ w'.cell? ⟨gb1, 1, none⟩ = some (.slice A1_1 l1_1.length c1_1) ∧ w'.cell? ⟨gb4, 0, none⟩ = some (.int .i64 a2_0) ∧ w'.cell? ⟨gb4, 1, none⟩ = some (.slice A2_1 l2_1.length c2_1) ∧ w'.cell? ⟨gb482, 0, none⟩ = some (.int .i64 res_r1) ∧ w'.cell? ⟨gb482, 1, none⟩ = some (.slice Ao478 ws_r2.length co479) ∧ w'.cell? ⟨gb483, 0, none⟩ = some (.int .i64 res_r3) ∧ w'.cell? ⟨gb483, 1, none⟩ = some (.slice Ao480 ws_r4.length co481) ∧ w'.cell? ⟨gb515, 0, none⟩ = some (.int .i64 a1_0) ∧ w'.cell? ⟨gb515, 1, none⟩ = some (.slice Ao511 xs1_1.length co513) ∧ w'.cell? ⟨gb529, 0, none⟩ = some (.int .i64 a2_0) ∧ w'.cell? ⟨gb529, 1, none⟩ = some (.slice Ao525 xs2_1.length co527) ∧ w'.cell? ⟨gb551, 0, none⟩ = some (.int .i64 res_r1) ∧ w'.cell? ⟨gb551, 1, none⟩ = some (.slice Ao542 ml_3.length co543) ∧ w'.cell? ⟨gb554, 0, none⟩ = some (.int .i64 res_r3) ∧ w'.cell? ⟨gb554, 1, none⟩ = some (.slice Ao546 ml_4.length co547)) (ds := []) m18_0 zr rfl rfl ⟨(jD BK2.out 0).trans rfl, (jD BK2.out 1).trans rfl, (jD BK5.out 0).trans rfl, (jD BK5.out 1).trans rfl, (jD HF486.out 0).trans rfl, (jD HF486.out 1).trans rfl, (jD HF488.out 0).trans rfl, (jD HF488.out 1).trans rfl, (jD BK516.out 0).trans rfl, (jD BK516.out 1).trans rfl, (jD BK530.out 0).trans rfl, (jD BK530.out 1).trans rfl, (jD BK552.out 0).trans rfl, (jD BK552.out 1).trans rfl, (jD BK555.out 0).trans rfl, (jD BK555.out 1).trans rfl⟩ (fun hHeld => ?_)
 refine with_tabW laws_FnExactMovePieces.tab42 laws_FnExactMovePieces.bits42 (fun HT_ HW_ => ?_)
 generalize hq_ : World.drew _ = w_620 at hHeld ⊢
 replace HB : Aside0 (Below w.heap.size w w_620) := ⟨by rw [← hq_]; (repeat (first | (with_reducible first | exact HB.out | apply below_alloc | apply pw_below_drewN | apply jR) | exact HB.out))⟩
 have HS621 : Aside0 (w_618.heap.size ≤ w_620.heap.size) := ⟨by rw [← hq_]; exact Nat.le_refl _⟩
 replace BK2 : Aside0 (w_620.heap[gb1]? = some (.cells #[.int .i64 a1_0, .slice A1_1 l1_1.length c1_1] 25 (0, 0))) := ⟨by rw [← hq_]; (with_reducible repeat (first | refine blk_drewN ?_ _ | refine blk_drew ?_ | refine blk_alloc ?_ _)); exact BK2.out⟩
 replace BK5 : Aside0 (w_620.heap[gb4]? = some (.cells #[.int .i64 a2_0, .slice A2_1 l2_1.length c2_1] 25 (0, 0))) := ⟨by rw [← hq_]; (with_reducible repeat (first | refine blk_drewN ?_ _ | refine blk_drew ?_ | refine blk_alloc ?_ _)); exact BK5.out⟩
 replace HF484 : Aside0 (Kd.R (Kd.int .i64) 2 w_620 w.heap.size (fun k_ => (w_15.heap.size ≤ k_ ∧ k_ < w_471.heap.size) ∧ some k_ = P495) (.slice Ao478 ws_r2.length co479) ws_r2) := ⟨by rw [← hq_]; (with_reducible repeat (first | apply Kd.R_alloc | apply Kd.R_drewN | apply Kd.R_drew)); exact HF484.out⟩
 replace HF485 : Aside0 (Kd.R (Kd.int .i64) 2 w_620 w.heap.size (fun k_ => (w_15.heap.size ≤ k_ ∧ k_ < w_471.heap.size) ∧ some k_ ≠ P495) (.slice Ao480 ws_r4.length co481) ws_r4) := ⟨by rw [← hq_]; (with_reducible repeat (first | apply Kd.R_alloc | apply Kd.R_drewN | apply Kd.R_drew)); exact HF485.out⟩
 replace HF486 : Aside0 (w_620.heap[gb482]? = some (.cells #[.int .i64 res_r1, .slice Ao478 ws_r2.length co479] 28 (0, 0))) := ⟨by rw [← hq_]; (with_reducible repeat (first | refine blk_drewN ?_ _ | refine blk_drew ?_ | refine blk_alloc ?_ _)); exact HF486.out⟩
 replace HF488 : Aside0 (w_620.heap[gb483]? = some (.cells #[.int .i64 res_r3, .slice Ao480 ws_r4.length co481] 28 (0, 0))) := ⟨by rw [← hq_]; (with_reducible repeat (first | refine blk_drewN ?_ _ | refine blk_drew ?_ | refine blk_alloc ?_ _)); exact HF488.out⟩
 replace BK516 : Aside0 (w_620.heap[gb515]? = some (.cells #[.int .i64 a1_0, .slice Ao511 xs1_1.length co513] 28 (0, 0))) := ⟨by rw [← hq_]; (with_reducible repeat (first | refine blk_drewN ?_ _ | refine blk_drew ?_ | refine blk_alloc ?_ _)); exact BK516.out⟩
 replace BK530 : Aside0 (w_620.heap[gb529]? = some (.cells #[.int .i64 a2_0, .slice Ao525 xs2_1.length co527] 28 (0, 0))) := ⟨by rw [← hq_]; (with_reducible repeat (first | refine blk_drewN ?_ _ | refine blk_drew ?_ | refine blk_alloc ?_ _)); exact BK530.out⟩
 replace HO541 : Aside0 (Kd.R (Kd.int .i64) 2 w_620 w.heap.size (fun k_ => (w_534.heap.size ≤ k_ ∧ k_ < w_537.heap.size) ∧ some k_ = P549) (.slice Ao542 ml_3.length co543) ml_3) := ⟨by rw [← hq_]; (with_reducible repeat (first | apply Kd.R_alloc | apply Kd.R_drewN | apply Kd.R_drew)); exact HO541.out⟩
 replace HO545 : Aside0 (Kd.R (Kd.int .i64) 2 w_620 w.heap.size (fun k_ => (w_534.heap.size ≤ k_ ∧ k_ < w_537.heap.size) ∧ some k_ ≠ P549) (.slice Ao546 ml_4.length co547) ml_4) := ⟨by rw [← hq_]; (with_reducible repeat (first | apply Kd.R_alloc | apply Kd.R_drewN | apply Kd.R_drew)); exact HO545.out⟩
 replace BK552 : Aside0 (w_620.heap[gb551]? = some (.cells #[.int .i64 res_r1, .slice Ao542 ml_3.length co543] 28 (0, 0))) := ⟨by rw [← hq_]; (with_reducible repeat (first | refine blk_drewN ?_ _ | refine blk_drew ?_ | refine blk_alloc ?_ _)); exact BK552.out⟩
 replace BK555 : Aside0 (w_620.heap[gb554]? = some (.cells #[.int .i64 res_r3, .slice Ao546 ml_4.length co547] 28 (0, 0))) := ⟨by rw [← hq_]; (with_reducible repeat (first | refine blk_drewN ?_ _ | refine blk_drew ?_ | refine blk_alloc ?_ _)); exact BK555.out⟩
 clear hq_
 have HWw_620 := jA HB.out.size
 refine zp HT_ 0 152 m18_20000 ?_
 refine zp HT_ 6 158 m18_20800 ?_
 refine zp HT_ 7 159 m18_20c00 ?_
 refine zt16 HT_ HW_ hHeld 2 154 m18_28c00 ?_
 refine zt16 HT_ HW_ hHeld 4 156 m18_2ac00 ?_
 have hcl622 : w_620.cell? ⟨gb1, 0, none⟩ = some (.int .i64 a1_0) := (jD BK2.out 0).trans rfl
 have hcl623 : w_620.cell? ⟨gb1, 1, none⟩ = some (.slice A1_1 l1_1.length c1_1) := (jD BK2.out 1).trans rfl
 have hcl624 : w_620.cell? ⟨gb4, 0, none⟩ = some (.int .i64 a2_0) := (jD BK5.out 0).trans rfl
 have hcl625 : w_620.cell? ⟨gb4, 1, none⟩ = some (.slice A2_1 l2_1.length c2_1) := (jD BK5.out 1).trans rfl
 have hcl626 : w_620.cell? ⟨gb482, 0, none⟩ = some (.int .i64 res_r1) := (jD HF486.out 0).trans rfl
 have hcl627 : w_620.cell? ⟨gb482, 1, none⟩ = some (.slice Ao478 ws_r2.length co479) := (jD HF486.out 1).trans rfl
 have hcl628 : w_620.cell? ⟨gb483, 0, none⟩ = some (.int .i64 res_r3) := (jD HF488.out 0).trans rfl
 have hcl629 : w_620.cell? ⟨gb483, 1, none⟩ = some (.slice Ao480 ws_r4.length co481) := (jD HF488.out 1).trans rfl
 have hcl630 : w_620.cell? ⟨gb515, 0, none⟩ = some (.int .i64 a1_0) := (jD BK516.out 0).trans rfl
 have hcl631 : w_620.cell? ⟨gb515, 1, none⟩ = some (.slice Ao511 xs1_1.length co513) := (jD BK516.out 1).trans rfl
 have hcl632 : w_620.cell? ⟨gb529, 0, none⟩ = some (.int .i64 a2_0) := (jD BK530.out 0).trans rfl
 have hcl633 : w_620.cell? ⟨gb529, 1, none⟩ = some (.slice Ao525 xs2_1.length co527) := (jD BK530.out 1).trans rfl
 have hcl634 : w_620.cell? ⟨gb551, 0, none⟩ = some (.int .i64 res_r1) := (jD BK552.out 0).trans rfl
 have hcl635 : w_620.cell? ⟨gb551, 1, none⟩ = some (.slice Ao542 ml_3.length co543) := (jD BK552.out 1).trans rfl
 have hcl636 : w_620.cell? ⟨gb554, 0, none⟩ = some (.int .i64 res_r3) := (jD BK555.out 0).trans rfl
 have hcl637 : w_620.cell? ⟨gb554, 1, none⟩ = some (.slice Ao546 ml_4.length co547) := (jD BK555.out 1).trans rfl
 have HLTgb1 : Aside0 (gb1 < w_620.heap.size) := ⟨blk_lt BK2.out⟩
 have HLTgb4 : Aside0 (gb4 < w_620.heap.size) := ⟨blk_lt BK5.out⟩
 have HLTgb482 : Aside0 (gb482 < w_620.heap.size) := ⟨blk_lt HF486.out⟩
 have HLTgb483 : Aside0 (gb483 < w_620.heap.size) := ⟨blk_lt HF488.out⟩
 have HLTgb515 : Aside0 (gb515 < w_620.heap.size) := ⟨blk_lt BK516.out⟩
 have HLTgb529 : Aside0 (gb529 < w_620.heap.size) := ⟨blk_lt BK530.out⟩
 have HLTgb551 : Aside0 (gb551 < w_620.heap.size) := ⟨blk_lt BK552.out⟩
 have HLTgb554 : Aside0 (gb554 < w_620.heap.size) := ⟨blk_lt BK555.out⟩
 have hSB_ : ∀ W_ : World, Below w_620.heap.size w_620 W_ → W_.cell? ⟨gb1, 0, none⟩ = some (.int .i64 a1_0) ∧ W_.cell? ⟨gb1, 1, none⟩ = some (.slice A1_1 l1_1.length c1_1) ∧ W_.cell? ⟨gb4, 0, none⟩ = some (.int .i64 a2_0) ∧ W_.cell? ⟨gb4, 1, none⟩ = some (.slice A2_1 l2_1.length c2_1) ∧ W_.cell? ⟨gb482, 0, none⟩ = some (.int .i64 res_r1) ∧ W_.cell? ⟨gb482, 1, none⟩ = some (.slice Ao478 ws_r2.length co479) ∧ W_.cell? ⟨gb483, 0, none⟩ = some (.int .i64 res_r3) ∧ W_.cell? ⟨gb483, 1, none⟩ = some (.slice Ao480 ws_r4.length co481) ∧ W_.cell? ⟨gb515, 0, none⟩ = some (.int .i64 a1_0) ∧ W_.cell? ⟨gb515, 1, none⟩ = some (.slice Ao511 xs1_1.length co513) ∧ W_.cell? ⟨gb529, 0, none⟩ = some (.int .i64 a2_0) ∧ W_.cell? ⟨gb529, 1, none⟩ = some (.slice Ao525 xs2_1.length co527) ∧ W_.cell? ⟨gb551, 0, none⟩ = some (.int .i64 res_r1) ∧ W_.cell? ⟨gb551, 1, none⟩ = some (.slice Ao542 ml_3.length co543) ∧ W_.cell? ⟨gb554, 0, none⟩ = some (.int .i64 res_r3) ∧ W_.cell? ⟨gb554, 1, none⟩ = some (.slice Ao546 ml_4.length co547) := fun W_ B_ => ⟨below_keep B_ hcl622, below_keep B_ hcl623, below_keep B_ hcl624, below_keep B_ hcl625, below_keep B_ hcl626, below_keep B_ hcl627, below_keep B_ hcl628, below_keep B_ hcl629, below_keep B_ hcl630, below_keep B_ hcl631, below_keep B_ hcl632, below_keep B_ hcl633, below_keep B_ hcl634, below_keep B_ hcl635, below_keep B_ hcl636, below_keep B_ hcl637⟩
 clear hcl622 hcl623 hcl624 hcl625 hcl626 hcl627 hcl628 hcl629 hcl630 hcl631 hcl632 hcl633 hcl634 hcl635 hcl636 hcl637
 have HB0_ := HB
 have HBr : Aside0 (Below w_620.heap.size w_620 w_620) := ⟨Below.refl _ _⟩
 refine joinN (σ := (Option Addr × Nat) × (Option Addr × Nat) × (Option Addr × Nat) × (Option Addr × Nat) × (Option Addr × Nat) × Nat × Nat) 3 m18_3fff8 (fun s_ => [(153, .slice s_.1.1 xs0.length s_.1.2), (155, .agg #[.int .i64 a1_0, .slice s_.2.1.1 xs1_1.length s_.2.1.2]), (157, .agg #[.int .i64 a2_0, .slice s_.2.2.1.1 xs2_1.length s_.2.2.1.2]), (160, .tuple #[.agg #[.int .i64 res_r1, .slice s_.2.2.2.1.1 gs_r2.length s_.2.2.2.1.2], .agg #[.int .i64 res_r3, .slice s_.2.2.2.2.1.1 gs_r4.length s_.2.2.2.2.1.2], .int .i64 res_r5]), (151, .tuple #[.agg #[.int .i64 res_r1, .slice s_.2.2.2.1.1 gs_r2.length s_.2.2.2.1.2], .agg #[.int .i64 res_r3, .slice s_.2.2.2.2.1.1 gs_r4.length s_.2.2.2.2.1.2], .int .i64 res_r5]), (161, .agg #[.int .i64 res_r1, .slice s_.2.2.2.1.1 gs_r2.length s_.2.2.2.1.2]), (162, .agg #[.int .i64 res_r3, .slice s_.2.2.2.2.1.1 gs_r4.length s_.2.2.2.2.1.2]), (163, .int .i64 res_r5), (24, .pointer (some ⟨s_.2.2.2.2.2.1, 0, none⟩)), (25, .pointer (some ⟨s_.2.2.2.2.2.2, 0, none⟩))]) (fun s_ w' => (Below w_620.heap.size w_620 w') ∧ (Kd.R (Kd.int .i64) 2 w' w.heap.size (fun k_ => ((w_620.heap.size ≤ k_ ∧ k_ < w'.heap.size) ∧ k_ ≠ s_.2.2.2.2.2.1 ∧ k_ ≠ s_.2.2.2.2.2.2) ∧ some k_ = (Value.slice s_.2.2.2.1.1 gs_r2.length s_.2.2.2.1.2).ownBlock) (.slice s_.2.2.2.1.1 gs_r2.length s_.2.2.2.1.2) gs_r2) ∧ (Kd.R (Kd.int .i64) 2 w' w.heap.size (fun k_ => ((w_620.heap.size ≤ k_ ∧ k_ < w'.heap.size) ∧ k_ ≠ s_.2.2.2.2.2.1 ∧ k_ ≠ s_.2.2.2.2.2.2) ∧ some k_ ≠ (Value.slice s_.2.2.2.1.1 gs_r2.length s_.2.2.2.1.2).ownBlock) (.slice s_.2.2.2.2.1.1 gs_r4.length s_.2.2.2.2.1.2) gs_r4) ∧ (w'.heap[s_.2.2.2.2.2.1]? = some (.cells #[.int .i64 0, .slice none 0 0] 28 (0, 0))) ∧ (w_620.heap.size ≤ s_.2.2.2.2.2.1) ∧ (w'.heap[s_.2.2.2.2.2.2]? = some (.cells #[.int .i64 0, .slice none 0 0] 28 (0, 0))) ∧ (w_620.heap.size ≤ s_.2.2.2.2.2.2) ∧ (s_.2.2.2.2.2.1 ≠ s_.2.2.2.2.2.2)) ?_ ?_
 intro hJ4_01
 refine joinN (σ := (Option Addr × Nat) × (Option Addr × Nat) × (Option Addr × Nat) × Nat × Nat) 8 m18_3fc18 (fun s_ => [(153, .slice s_.1.1 xs0.length s_.1.2), (155, .agg #[.int .i64 a1_0, .slice s_.2.1.1 xs1_1.length s_.2.1.2]), (157, .agg #[.int .i64 a2_0, .slice s_.2.2.1.1 xs2_1.length s_.2.2.1.2]), (24, .pointer (some ⟨s_.2.2.2.1, 0, none⟩)), (25, .pointer (some ⟨s_.2.2.2.2, 0, none⟩))]) (fun s_ w' => (Below w_620.heap.size w_620 w') ∧ (Kd.R k65 65 w' w.heap.size (fun k_ => True) (.slice s_.1.1 extb0.length s_.1.2) extb0) ∧ (Kd.R (Kd.int .i64) 2 w' w.heap.size (fun k_ => True) (.slice s_.2.1.1 extb1_1.length s_.2.1.2) extb1_1) ∧ (Kd.R (Kd.int .i64) 2 w' w.heap.size (fun k_ => True) (.slice s_.2.2.1.1 extb2_1.length s_.2.2.1.2) extb2_1) ∧ (w'.heap[s_.2.2.2.1]? = some (.cells #[.int .i64 0, .slice none 0 0] 28 (0, 0))) ∧ (w_620.heap.size ≤ s_.2.2.2.1) ∧ (w'.heap[s_.2.2.2.2]? = some (.cells #[.int .i64 0, .slice none 0 0] 28 (0, 0))) ∧ (w_620.heap.size ≤ s_.2.2.2.2) ∧ (s_.2.2.2.1 ≠ s_.2.2.2.2)) ?_ ?_
 intro hJ3_01
 refine joinN (σ := (Option Addr × Nat) × (Option Addr × Nat) × (Option Addr × Nat) × (Option Addr × Nat) × (Option Addr × Nat) × Nat) 4 m18_3ffe8 (fun s_ => [(153, .slice s_.1.1 xs0.length s_.1.2), (155, .agg #[.int .i64 a1_0, .slice s_.2.1.1 xs1_1.length s_.2.1.2]), (157, .agg #[.int .i64 a2_0, .slice s_.2.2.1.1 xs2_1.length s_.2.2.1.2]), (160, .tuple #[.agg #[.int .i64 res_r1, .slice s_.2.2.2.1.1 gs_r2.length s_.2.2.2.1.2], .agg #[.int .i64 res_r3, .slice s_.2.2.2.2.1.1 gs_r4.length s_.2.2.2.2.1.2], .int .i64 res_r5]), (151, .tuple #[.agg #[.int .i64 res_r1, .slice s_.2.2.2.1.1 gs_r2.length s_.2.2.2.1.2], .agg #[.int .i64 res_r3, .slice s_.2.2.2.2.1.1 gs_r4.length s_.2.2.2.2.1.2], .int .i64 res_r5]), (161, .agg #[.int .i64 res_r1, .slice s_.2.2.2.1.1 gs_r2.length s_.2.2.2.1.2]), (162, .agg #[.int .i64 res_r3, .slice s_.2.2.2.2.1.1 gs_r4.length s_.2.2.2.2.1.2]), (163, .int .i64 res_r5), (25, .pointer (some ⟨s_.2.2.2.2.2, 0, none⟩))]) (fun s_ w' => (Below w_620.heap.size w_620 w') ∧ (Kd.R (Kd.int .i64) 2 w' w.heap.size (fun k_ => ((w_620.heap.size ≤ k_ ∧ k_ < w'.heap.size) ∧ k_ ≠ s_.2.2.2.2.2) ∧ some k_ = (Value.slice s_.2.2.2.1.1 gs_r2.length s_.2.2.2.1.2).ownBlock) (.slice s_.2.2.2.1.1 gs_r2.length s_.2.2.2.1.2) gs_r2) ∧ (Kd.R (Kd.int .i64) 2 w' w.heap.size (fun k_ => ((w_620.heap.size ≤ k_ ∧ k_ < w'.heap.size) ∧ k_ ≠ s_.2.2.2.2.2) ∧ some k_ ≠ (Value.slice s_.2.2.2.1.1 gs_r2.length s_.2.2.2.1.2).ownBlock) (.slice s_.2.2.2.2.1.1 gs_r4.length s_.2.2.2.2.1.2) gs_r4) ∧ (w'.heap[s_.2.2.2.2.2]? = some (.cells #[.int .i64 0, .slice none 0 0] 28 (0, 0))) ∧ (w_620.heap.size ≤ s_.2.2.2.2.2)) ?_ ?_
 intro hJ4_1
 refine joinN (σ := (Option Addr × Nat) × (Option Addr × Nat) × (Option Addr × Nat) × (Option Addr × Nat) × (Option Addr × Nat) × Nat) 4 m18_3fff0 (fun s_ => [(153, .slice s_.1.1 xs0.length s_.1.2), (155, .agg #[.int .i64 a1_0, .slice s_.2.1.1 xs1_1.length s_.2.1.2]), (157, .agg #[.int .i64 a2_0, .slice s_.2.2.1.1 xs2_1.length s_.2.2.1.2]), (160, .tuple #[.agg #[.int .i64 res_r1, .slice s_.2.2.2.1.1 gs_r2.length s_.2.2.2.1.2], .agg #[.int .i64 res_r3, .slice s_.2.2.2.2.1.1 gs_r4.length s_.2.2.2.2.1.2], .int .i64 res_r5]), (151, .tuple #[.agg #[.int .i64 res_r1, .slice s_.2.2.2.1.1 gs_r2.length s_.2.2.2.1.2], .agg #[.int .i64 res_r3, .slice s_.2.2.2.2.1.1 gs_r4.length s_.2.2.2.2.1.2], .int .i64 res_r5]), (161, .agg #[.int .i64 res_r1, .slice s_.2.2.2.1.1 gs_r2.length s_.2.2.2.1.2]), (162, .agg #[.int .i64 res_r3, .slice s_.2.2.2.2.1.1 gs_r4.length s_.2.2.2.2.1.2]), (163, .int .i64 res_r5), (24, .pointer (some ⟨s_.2.2.2.2.2, 0, none⟩))]) (fun s_ w' => (Below w_620.heap.size w_620 w') ∧ (Kd.R (Kd.int .i64) 2 w' w.heap.size (fun k_ => ((w_620.heap.size ≤ k_ ∧ k_ < w'.heap.size) ∧ k_ ≠ s_.2.2.2.2.2) ∧ some k_ = (Value.slice s_.2.2.2.1.1 gs_r2.length s_.2.2.2.1.2).ownBlock) (.slice s_.2.2.2.1.1 gs_r2.length s_.2.2.2.1.2) gs_r2) ∧ (Kd.R (Kd.int .i64) 2 w' w.heap.size (fun k_ => ((w_620.heap.size ≤ k_ ∧ k_ < w'.heap.size) ∧ k_ ≠ s_.2.2.2.2.2) ∧ some k_ ≠ (Value.slice s_.2.2.2.1.1 gs_r2.length s_.2.2.2.1.2).ownBlock) (.slice s_.2.2.2.2.1.1 gs_r4.length s_.2.2.2.2.1.2) gs_r4) ∧ (w'.heap[s_.2.2.2.2.2]? = some (.cells #[.int .i64 0, .slice none 0 0] 28 (0, 0))) ∧ (w_620.heap.size ≤ s_.2.2.2.2.2)) ?_ ?_
 intro hJ4_0
 refine joinN (σ := (Option Addr × Nat) × (Option Addr × Nat) × Nat × Nat) 9 m18_3ec18 (fun s_ => [(153, .slice s_.1.1 xs0.length s_.1.2), (155, .agg #[.int .i64 a1_0, .slice s_.2.1.1 xs1_1.length s_.2.1.2]), (24, .pointer (some ⟨s_.2.2.1, 0, none⟩)), (25, .pointer (some ⟨s_.2.2.2, 0, none⟩))]) (fun s_ w' => (Below w_620.heap.size w_620 w') ∧ (Kd.R k65 65 w' w.heap.size (fun k_ => True) (.slice s_.1.1 extb0.length s_.1.2) extb0) ∧ (Kd.R (Kd.int .i64) 2 w' w.heap.size (fun k_ => True) (.slice s_.2.1.1 extb1_1.length s_.2.1.2) extb1_1) ∧ (w'.heap[s_.2.2.1]? = some (.cells #[.int .i64 0, .slice none 0 0] 28 (0, 0))) ∧ (w_620.heap.size ≤ s_.2.2.1) ∧ (w'.heap[s_.2.2.2]? = some (.cells #[.int .i64 0, .slice none 0 0] 28 (0, 0))) ∧ (w_620.heap.size ≤ s_.2.2.2) ∧ (s_.2.2.1 ≠ s_.2.2.2)) ?_ ?_
 intro hJ2_01
 refine joinN (σ := (Option Addr × Nat) × (Option Addr × Nat) × (Option Addr × Nat) × Nat) 9 m18_3fc08 (fun s_ => [(153, .slice s_.1.1 xs0.length s_.1.2), (155, .agg #[.int .i64 a1_0, .slice s_.2.1.1 xs1_1.length s_.2.1.2]), (157, .agg #[.int .i64 a2_0, .slice s_.2.2.1.1 xs2_1.length s_.2.2.1.2]), (25, .pointer (some ⟨s_.2.2.2, 0, none⟩))]) (fun s_ w' => (Below w_620.heap.size w_620 w') ∧ (Kd.R k65 65 w' w.heap.size (fun k_ => True) (.slice s_.1.1 extb0.length s_.1.2) extb0) ∧ (Kd.R (Kd.int .i64) 2 w' w.heap.size (fun k_ => True) (.slice s_.2.1.1 extb1_1.length s_.2.1.2) extb1_1) ∧ (Kd.R (Kd.int .i64) 2 w' w.heap.size (fun k_ => True) (.slice s_.2.2.1.1 extb2_1.length s_.2.2.1.2) extb2_1) ∧ (w'.heap[s_.2.2.2]? = some (.cells #[.int .i64 0, .slice none 0 0] 28 (0, 0))) ∧ (w_620.heap.size ≤ s_.2.2.2)) ?_ ?_
 intro hJ3_1
 refine joinN (σ := (Option Addr × Nat) × (Option Addr × Nat) × (Option Addr × Nat) × Nat) 9 m18_3fc10 (fun s_ => [(153, .slice s_.1.1 xs0.length s_.1.2), (155, .agg #[.int .i64 a1_0, .slice s_.2.1.1 xs1_1.length s_.2.1.2]), (157, .agg #[.int .i64 a2_0, .slice s_.2.2.1.1 xs2_1.length s_.2.2.1.2]), (24, .pointer (some ⟨s_.2.2.2, 0, none⟩))]) (fun s_ w' => (Below w_620.heap.size w_620 w') ∧ (Kd.R k65 65 w' w.heap.size (fun k_ => True) (.slice s_.1.1 extb0.length s_.1.2) extb0) ∧ (Kd.R (Kd.int .i64) 2 w' w.heap.size (fun k_ => True) (.slice s_.2.1.1 extb1_1.length s_.2.1.2) extb1_1) ∧ (Kd.R (Kd.int .i64) 2 w' w.heap.size (fun k_ => True) (.slice s_.2.2.1.1 extb2_1.length s_.2.2.1.2) extb2_1) ∧ (w'.heap[s_.2.2.2]? = some (.cells #[.int .i64 0, .slice none 0 0] 28 (0, 0))) ∧ (w_620.heap.size ≤ s_.2.2.2)) ?_ ?_
 intro hJ3_0
 refine joinN (σ := (Option Addr × Nat) × (Option Addr × Nat) × (Option Addr × Nat) × (Option Addr × Nat) × (Option Addr × Nat)) 5 m18_3ffe0 (fun s_ => [(153, .slice s_.1.1 xs0.length s_.1.2), (155, .agg #[.int .i64 a1_0, .slice s_.2.1.1 xs1_1.length s_.2.1.2]), (157, .agg #[.int .i64 a2_0, .slice s_.2.2.1.1 xs2_1.length s_.2.2.1.2]), (160, .tuple #[.agg #[.int .i64 res_r1, .slice s_.2.2.2.1.1 gs_r2.length s_.2.2.2.1.2], .agg #[.int .i64 res_r3, .slice s_.2.2.2.2.1 gs_r4.length s_.2.2.2.2.2], .int .i64 res_r5]), (151, .tuple #[.agg #[.int .i64 res_r1, .slice s_.2.2.2.1.1 gs_r2.length s_.2.2.2.1.2], .agg #[.int .i64 res_r3, .slice s_.2.2.2.2.1 gs_r4.length s_.2.2.2.2.2], .int .i64 res_r5]), (161, .agg #[.int .i64 res_r1, .slice s_.2.2.2.1.1 gs_r2.length s_.2.2.2.1.2]), (162, .agg #[.int .i64 res_r3, .slice s_.2.2.2.2.1 gs_r4.length s_.2.2.2.2.2]), (163, .int .i64 res_r5)]) (fun s_ w' => (Below w_620.heap.size w_620 w') ∧ (Kd.R (Kd.int .i64) 2 w' w.heap.size (fun k_ => (w_620.heap.size ≤ k_ ∧ k_ < w'.heap.size) ∧ some k_ = (Value.slice s_.2.2.2.1.1 gs_r2.length s_.2.2.2.1.2).ownBlock) (.slice s_.2.2.2.1.1 gs_r2.length s_.2.2.2.1.2) gs_r2) ∧ (Kd.R (Kd.int .i64) 2 w' w.heap.size (fun k_ => (w_620.heap.size ≤ k_ ∧ k_ < w'.heap.size) ∧ some k_ ≠ (Value.slice s_.2.2.2.1.1 gs_r2.length s_.2.2.2.1.2).ownBlock) (.slice s_.2.2.2.2.1 gs_r4.length s_.2.2.2.2.2) gs_r4)) ?_ ?_
 intro hJ4_
 refine joinN (σ := (Option Addr × Nat) × Nat × Nat) 10 m18_3ac18 (fun s_ => [(153, .slice s_.1.1 xs0.length s_.1.2), (24, .pointer (some ⟨s_.2.1, 0, none⟩)), (25, .pointer (some ⟨s_.2.2, 0, none⟩))]) (fun s_ w' => (Below w_620.heap.size w_620 w') ∧ (Kd.R k65 65 w' w.heap.size (fun k_ => True) (.slice s_.1.1 extb0.length s_.1.2) extb0) ∧ (w'.heap[s_.2.1]? = some (.cells #[.int .i64 0, .slice none 0 0] 28 (0, 0))) ∧ (w_620.heap.size ≤ s_.2.1) ∧ (w'.heap[s_.2.2]? = some (.cells #[.int .i64 0, .slice none 0 0] 28 (0, 0))) ∧ (w_620.heap.size ≤ s_.2.2) ∧ (s_.2.1 ≠ s_.2.2)) ?_ ?_
 intro hJ1_01
 refine joinN (σ := (Option Addr × Nat) × (Option Addr × Nat) × Nat) 10 m18_3ec08 (fun s_ => [(153, .slice s_.1.1 xs0.length s_.1.2), (155, .agg #[.int .i64 a1_0, .slice s_.2.1.1 xs1_1.length s_.2.1.2]), (25, .pointer (some ⟨s_.2.2, 0, none⟩))]) (fun s_ w' => (Below w_620.heap.size w_620 w') ∧ (Kd.R k65 65 w' w.heap.size (fun k_ => True) (.slice s_.1.1 extb0.length s_.1.2) extb0) ∧ (Kd.R (Kd.int .i64) 2 w' w.heap.size (fun k_ => True) (.slice s_.2.1.1 extb1_1.length s_.2.1.2) extb1_1) ∧ (w'.heap[s_.2.2]? = some (.cells #[.int .i64 0, .slice none 0 0] 28 (0, 0))) ∧ (w_620.heap.size ≤ s_.2.2)) ?_ ?_
 intro hJ2_1
 refine joinN (σ := (Option Addr × Nat) × (Option Addr × Nat) × Nat) 10 m18_3ec10 (fun s_ => [(153, .slice s_.1.1 xs0.length s_.1.2), (155, .agg #[.int .i64 a1_0, .slice s_.2.1.1 xs1_1.length s_.2.1.2]), (24, .pointer (some ⟨s_.2.2, 0, none⟩))]) (fun s_ w' => (Below w_620.heap.size w_620 w') ∧ (Kd.R k65 65 w' w.heap.size (fun k_ => True) (.slice s_.1.1 extb0.length s_.1.2) extb0) ∧ (Kd.R (Kd.int .i64) 2 w' w.heap.size (fun k_ => True) (.slice s_.2.1.1 extb1_1.length s_.2.1.2) extb1_1) ∧ (w'.heap[s_.2.2]? = some (.cells #[.int .i64 0, .slice none 0 0] 28 (0, 0))) ∧ (w_620.heap.size ≤ s_.2.2)) ?_ ?_
 intro hJ2_0
 refine joinN (σ := (Option Addr × Nat) × (Option Addr × Nat) × (Option Addr × Nat)) 10 m18_3fc00 (fun s_ => [(153, .slice s_.1.1 xs0.length s_.1.2), (155, .agg #[.int .i64 a1_0, .slice s_.2.1.1 xs1_1.length s_.2.1.2]), (157, .agg #[.int .i64 a2_0, .slice s_.2.2.1 xs2_1.length s_.2.2.2])]) (fun s_ w' => (Below w_620.heap.size w_620 w') ∧ (Kd.R k65 65 w' w.heap.size (fun k_ => True) (.slice s_.1.1 extb0.length s_.1.2) extb0) ∧ (Kd.R (Kd.int .i64) 2 w' w.heap.size (fun k_ => True) (.slice s_.2.1.1 extb1_1.length s_.2.1.2) extb1_1) ∧ (Kd.R (Kd.int .i64) 2 w' w.heap.size (fun k_ => True) (.slice s_.2.2.1 extb2_1.length s_.2.2.2) extb2_1)) ?_ ?_
 intro hJ3_
 refine joinN (σ := Nat × Nat) 11 m18_2ac18 (fun s_ => [(24, .pointer (some ⟨s_.1, 0, none⟩)), (25, .pointer (some ⟨s_.2, 0, none⟩))]) (fun s_ w' => (Below w_620.heap.size w_620 w') ∧ (w'.heap[s_.1]? = some (.cells #[.int .i64 0, .slice none 0 0] 28 (0, 0))) ∧ (w_620.heap.size ≤ s_.1) ∧ (w'.heap[s_.2]? = some (.cells #[.int .i64 0, .slice none 0 0] 28 (0, 0))) ∧ (w_620.heap.size ≤ s_.2) ∧ (s_.1 ≠ s_.2)) ?_ ?_
 intro hJ0_01
 refine joinN (σ := (Option Addr × Nat) × Nat) 11 m18_3ac08 (fun s_ => [(153, .slice s_.1.1 xs0.length s_.1.2), (25, .pointer (some ⟨s_.2, 0, none⟩))]) (fun s_ w' => (Below w_620.heap.size w_620 w') ∧ (Kd.R k65 65 w' w.heap.size (fun k_ => True) (.slice s_.1.1 extb0.length s_.1.2) extb0) ∧ (w'.heap[s_.2]? = some (.cells #[.int .i64 0, .slice none 0 0] 28 (0, 0))) ∧ (w_620.heap.size ≤ s_.2)) ?_ ?_
 intro hJ1_1
 refine joinN (σ := (Option Addr × Nat) × Nat) 11 m18_3ac10 (fun s_ => [(153, .slice s_.1.1 xs0.length s_.1.2), (24, .pointer (some ⟨s_.2, 0, none⟩))]) (fun s_ w' => (Below w_620.heap.size w_620 w') ∧ (Kd.R k65 65 w' w.heap.size (fun k_ => True) (.slice s_.1.1 extb0.length s_.1.2) extb0) ∧ (w'.heap[s_.2]? = some (.cells #[.int .i64 0, .slice none 0 0] 28 (0, 0))) ∧ (w_620.heap.size ≤ s_.2)) ?_ ?_
 intro hJ1_0
 refine joinN (σ := (Option Addr × Nat) × (Option Addr × Nat)) 11 m18_3ec00 (fun s_ => [(153, .slice s_.1.1 xs0.length s_.1.2), (155, .agg #[.int .i64 a1_0, .slice s_.2.1 xs1_1.length s_.2.2])]) (fun s_ w' => (Below w_620.heap.size w_620 w') ∧ (Kd.R k65 65 w' w.heap.size (fun k_ => True) (.slice s_.1.1 extb0.length s_.1.2) extb0) ∧ (Kd.R (Kd.int .i64) 2 w' w.heap.size (fun k_ => True) (.slice s_.2.1 extb1_1.length s_.2.2) extb1_1)) ?_ ?_
 intro hJ2_
 refine joinN (σ := Nat) 12 m18_2ac08 (fun s_ => [(25, .pointer (some ⟨s_, 0, none⟩))]) (fun s_ w' => (Below w_620.heap.size w_620 w') ∧ (w'.heap[s_]? = some (.cells #[.int .i64 0, .slice none 0 0] 28 (0, 0))) ∧ (w_620.heap.size ≤ s_)) ?_ ?_
 intro hJ0_1
 refine joinN (σ := Nat) 12 m18_2ac10 (fun s_ => [(24, .pointer (some ⟨s_, 0, none⟩))]) (fun s_ w' => (Below w_620.heap.size w_620 w') ∧ (w'.heap[s_]? = some (.cells #[.int .i64 0, .slice none 0 0] 28 (0, 0))) ∧ (w_620.heap.size ≤ s_)) ?_ ?_
 intro hJ0_0
 refine joinN (σ := (Option Addr × Nat)) 12 m18_3ac00 (fun s_ => [(153, .slice s_.1 xs0.length s_.2)]) (fun s_ w' => (Below w_620.heap.size w_620 w') ∧ (Kd.R k65 65 w' w.heap.size (fun k_ => True) (.slice s_.1 extb0.length s_.2) extb0)) ?_ ?_
 intro hJ1_
 refine three_ (i := 1) (j := 13) (k := 14) (Ni := some 153) (Nj := some 24) (Nk := some 25) m18_3ac00 m18_2ac10 m18_2ac08 rfl rfl rfl rfl rfl rfl (three_of HT_.out zr) (by decide) (by decide) (by decide) (fun K hK => ?_) (fun K hK => ?_) (fun K hK => ?_)
 ·skip
  refine goes_ Try.func16 zr rfl #[.slice A0 l0.length c0, .bool true] (by rfl) rfl rfl zm ?_
  (with_reducible refine (laws_toArticleSX.calls k _ _ l0 true extb0 _ ?side1 ?side2 HTOB0.out).mono ?_)
  (case side1 => exact zs HR0 HB)
  (case side2 => exact HC0.out)
  rintro e w_668 ⟨Ao670, no671, co672, rfl, hn, ho, hb⟩
  obtain rfl : no671 = xs0.length := hn.bare HXL0.out HNB0.out
  clear hn
  have ho1 := jA (Kd.R_lower (R_span ho) (Nat.le_trans HB.out.size (zy : Below w_620.heap.size w_620 _).size))
  clear ho
  have HBi := zJ w_620 w_668 hb
  clear hb
  have HS673 := jA HBi.out.size
  replace HBr := jA (below_step HBr.out HBi.out)
  clear HBi
  have HO669 := zM w_620 w_668 ho1
  clear ho1
  refine ⟨_, rfl, ?_⟩
  refine hK.out _ _ (hSB_ _ HBr.out) (fun hHeld => putN 153 ?_)
  clear hK K
  have sHS673 := HS673.out
  exact putsJ (hJ1_ (Ao670, co672) _ ⟨(zr5 HBr), latT HO669⟩)
 ·skip
  refine boxN 24 #[.int .i64 0, .slice none 0 0] 28 ?_
  intro gb676 hg_ w_675 hbox hb
  have BK674 := jA hbox
  have HGgb676 := jA (blk_lt hbox)
  have HLgb676 : Aside0 (w_620.heap.size ≤ gb676) := ⟨by rw [hg_]; exact Nat.le_refl _⟩
  clear hbox hg_
  have HBi := zJ w_620 w_675 hb
  clear hb
  have HS677 := jA HBi.out.size
  replace HBr := jA (below_step HBr.out HBi.out)
  clear HBi
  refine hK.out _ _ (hSB_ _ HBr.out) (fun hHeld => putN 24 ?_)
  clear hK K
  have sHS677 := HS677.out; have sHGgb676 := HGgb676.out; have sHLgb676 := HLgb676.out
  exact putsJ (hJ0_0 gb676 _ ⟨(zr5 HBr), (zk BK674), (show w_620.heap.size ≤ gb676 from by omega)⟩)
 ·skip
  refine boxN 25 #[.int .i64 0, .slice none 0 0] 28 ?_
  intro gb680 hg_ w_679 hbox hb
  have BK678 := jA hbox
  have HGgb680 := jA (blk_lt hbox)
  have HLgb680 : Aside0 (w_620.heap.size ≤ gb680) := ⟨by rw [hg_]; exact Nat.le_refl _⟩
  clear hbox hg_
  have HBi := zJ w_620 w_679 hb
  clear hb
  have HS681 := jA HBi.out.size
  replace HBr := jA (below_step HBr.out HBi.out)
  clear HBi
  refine hK.out _ _ (hSB_ _ HBr.out) (fun hHeld => putN 25 ?_)
  clear hK K
  have sHS681 := HS681.out; have sHGgb680 := HGgb680.out; have sHLgb680 := HLgb680.out
  exact putsJ (hJ0_1 gb680 _ ⟨(zr5 HBr), (zk BK678), (show w_620.heap.size ≤ gb680 from by omega)⟩)
 clear HBr hHeld
 rintro ⟨Ao683, co684⟩ w_682 ⟨h0_, h1_⟩
 try dsimp only at h0_ h1_
 have HBr := jA h0_
 have HF685 := jA h1_
 clear h0_ h1_
 have HS686 := jA HBr.out.size
 refine putsN ?_
 replace HB := jA (below_step HB0_.out HBr.out)
 refine three_ (i := 3) (j := 13) (k := 14) (Ni := some 155) (Nj := some 24) (Nk := some 25) m18_3ec00 m18_3ac10 m18_3ac08 rfl rfl rfl rfl rfl rfl (three_of HT_.out zr) (by decide) (by decide) (by decide) (fun K hK => ?_) (fun K hK => ?_) (fun K hK => ?_)
 ·skip
  refine goes_ Try.func17 zr rfl #[.agg #[.int .i64 a1_0, .slice A1_1 l1_1.length c1_1], .bool true] (by rfl) rfl rfl zm ?_
  (with_reducible refine (laws_toMagazineX.calls k a1_0 _ _ l1_1 true a1_0 extb1_1 _ ?side1 ?side2 (by unfold laws_toMagazineX.f; rw [HTOB1_1.out, Option.bind_some])).mono ?_)
  (case side1 => exact zs HR1_1 HB)
  (case side2 => exact HC1_1.out)
  rintro e w_687 ⟨Ao689, no690, co691, rfl, hn, ho, hb⟩
  obtain rfl : no690 = xs1_1.length := hn.bare HXL1_1.out HNB1_1.out
  clear hn
  have ho1 := jA (Kd.R_lower (R_span ho) (Nat.le_trans HB.out.size (zy : Below w_682.heap.size w_682 _).size))
  clear ho
  have HBi := zJ w_682 w_687 hb
  clear hb
  have HS692 := jA HBi.out.size
  replace HBr := jA (below_step HBr.out HBi.out)
  replace HF685 := zA Kd.R_below HF685 HBi
  clear HBi
  have HO688 := zM w_682 w_687 ho1
  clear ho1
  refine ⟨_, rfl, ?_⟩
  refine hK.out _ _ (hSB_ _ HBr.out) (fun hHeld => putN 155 ?_)
  clear hK K
  have sHS686 := HS686.out; have sHS692 := HS692.out
  exact putsJ (hJ2_ ((Ao683, co684), (Ao689, co691)) _ ⟨(zr5 HBr), latT HF685, latT HO688⟩)
 ·skip
  refine boxN 24 #[.int .i64 0, .slice none 0 0] 28 ?_
  intro gb695 hg_ w_694 hbox hb
  have BK693 := jA hbox
  have HGgb695 := jA (blk_lt hbox)
  have HLgb695 : Aside0 (w_682.heap.size ≤ gb695) := ⟨by rw [hg_]; exact Nat.le_refl _⟩
  clear hbox hg_
  have HBi := zJ w_682 w_694 hb
  clear hb
  have HS696 := jA HBi.out.size
  replace HBr := jA (below_step HBr.out HBi.out)
  replace HF685 := zA Kd.R_below HF685 HBi
  clear HBi
  refine hK.out _ _ (hSB_ _ HBr.out) (fun hHeld => putN 24 ?_)
  clear hK K
  have sHS686 := HS686.out; have sHS696 := HS696.out; have sHGgb695 := HGgb695.out; have sHLgb695 := HLgb695.out
  exact putsJ (hJ1_0 ((Ao683, co684), gb695) _ ⟨(zr5 HBr), latT HF685, (zk BK693), (show w_620.heap.size ≤ gb695 from by omega)⟩)
 ·skip
  refine boxN 25 #[.int .i64 0, .slice none 0 0] 28 ?_
  intro gb699 hg_ w_698 hbox hb
  have BK697 := jA hbox
  have HGgb699 := jA (blk_lt hbox)
  have HLgb699 : Aside0 (w_682.heap.size ≤ gb699) := ⟨by rw [hg_]; exact Nat.le_refl _⟩
  clear hbox hg_
  have HBi := zJ w_682 w_698 hb
  clear hb
  have HS700 := jA HBi.out.size
  replace HBr := jA (below_step HBr.out HBi.out)
  replace HF685 := zA Kd.R_below HF685 HBi
  clear HBi
  refine hK.out _ _ (hSB_ _ HBr.out) (fun hHeld => putN 25 ?_)
  clear hK K
  have sHS686 := HS686.out; have sHS700 := HS700.out; have sHGgb699 := HGgb699.out; have sHLgb699 := HLgb699.out
  exact putsJ (hJ1_1 ((Ao683, co684), gb699) _ ⟨(zr5 HBr), latT HF685, (zk BK697), (show w_620.heap.size ≤ gb699 from by omega)⟩)
 clear HBr hHeld
 rintro gb702 w_701 ⟨h0_, h1_, h2_⟩
 try dsimp only at h0_ h1_ h2_
 have HBr := jA h0_
 have HF703 := jA h1_
 have HF704 := jA h2_
 clear h0_ h1_ h2_
 have HS705 := jA HBr.out.size
 have HG706 := jA (blk_lt HF703.out)
 refine putsN ?_
 replace HB := jA (below_step HB0_.out HBr.out)
 refine two_ (i := 1) (j := 14) (Ni := some 153) (Nj := some 25) m18_3ac10 m18_2ac18 rfl rfl rfl rfl (two_of HT_.out zr) (by decide) (by decide) (fun K hK => ?_) (fun K hK => ?_)
 ·skip
  refine goes_ Try.func16 zr rfl #[.slice A0 l0.length c0, .bool true] (by rfl) rfl rfl zm ?_
  (with_reducible refine (laws_toArticleSX.calls k _ _ l0 true extb0 _ ?side1 ?side2 HTOB0.out).mono ?_)
  (case side1 => exact zs HR0 HB)
  (case side2 => exact HC0.out)
  rintro e w_707 ⟨Ao709, no710, co711, rfl, hn, ho, hb⟩
  obtain rfl : no710 = xs0.length := hn.bare HXL0.out HNB0.out
  clear hn
  have ho1 := jA (Kd.R_lower (R_span ho) (Nat.le_trans HB.out.size (zy : Below w_701.heap.size w_701 _).size))
  clear ho
  have HBi := zJ w_701 w_707 hb
  clear hb
  have HS712 := jA HBi.out.size
  replace HBr := jA (below_step HBr.out HBi.out)
  replace HF703 := zA jO HF703 HBi
  clear HBi
  have HO708 := zM w_701 w_707 ho1
  clear ho1
  refine ⟨_, rfl, ?_⟩
  refine hK.out _ _ (hSB_ _ HBr.out) (fun hHeld => putN 153 ?_)
  clear hK K
  have sHS705 := HS705.out; have sHG706 := HG706.out; have sHF704 := HF704.out; have sHS712 := HS712.out
  exact putsJ (hJ1_0 ((Ao709, co711), gb702) _ ⟨(zr5 HBr), latT HO708, (by (with_reducible repeat (first | refine blk_drewN ?_ _ | refine blk_drew ?_ | refine blk_alloc ?_ _)); exact HF703.out), (show w_620.heap.size ≤ gb702 from by omega)⟩)
 ·skip
  refine boxN 25 #[.int .i64 0, .slice none 0 0] 28 ?_
  intro gb715 hg_ w_714 hbox hb
  have BK713 := jA hbox
  have HGgb715 := jA (blk_lt hbox)
  have HLgb715 : Aside0 (w_701.heap.size ≤ gb715) := ⟨by rw [hg_]; exact Nat.le_refl _⟩
  clear hbox hg_
  have HBi := zJ w_701 w_714 hb
  clear hb
  have HS716 := jA HBi.out.size
  replace HBr := jA (below_step HBr.out HBi.out)
  replace HF703 := zA jO HF703 HBi
  clear HBi
  refine hK.out _ _ (hSB_ _ HBr.out) (fun hHeld => putN 25 ?_)
  clear hK K
  have sHS705 := HS705.out; have sHG706 := HG706.out; have sHF704 := HF704.out; have sHS716 := HS716.out; have sHGgb715 := HGgb715.out; have sHLgb715 := HLgb715.out
  exact putsJ (hJ0_01 (gb702, gb715) _ ⟨(zr5 HBr), (by (with_reducible repeat (first | refine blk_drewN ?_ _ | refine blk_drew ?_ | refine blk_alloc ?_ _)); exact HF703.out), (show w_620.heap.size ≤ gb702 from by omega), (zk BK713), (show w_620.heap.size ≤ gb715 from by omega), (show gb702 ≠ gb715 from by omega)⟩)
 clear HBr hHeld
 rintro gb718 w_717 ⟨h0_, h1_, h2_⟩
 try dsimp only at h0_ h1_ h2_
 have HBr := jA h0_
 have HF719 := jA h1_
 have HF720 := jA h2_
 clear h0_ h1_ h2_
 have HS721 := jA HBr.out.size
 have HG722 := jA (blk_lt HF719.out)
 refine putsN ?_
 replace HB := jA (below_step HB0_.out HBr.out)
 refine two_ (i := 1) (j := 13) (Ni := some 153) (Nj := some 24) m18_3ac08 m18_2ac18 rfl rfl rfl rfl (two_of HT_.out zr) (by decide) (by decide) (fun K hK => ?_) (fun K hK => ?_)
 ·skip
  refine goes_ Try.func16 zr rfl #[.slice A0 l0.length c0, .bool true] (by rfl) rfl rfl zm ?_
  (with_reducible refine (laws_toArticleSX.calls k _ _ l0 true extb0 _ ?side1 ?side2 HTOB0.out).mono ?_)
  (case side1 => exact zs HR0 HB)
  (case side2 => exact HC0.out)
  rintro e w_723 ⟨Ao725, no726, co727, rfl, hn, ho, hb⟩
  obtain rfl : no726 = xs0.length := hn.bare HXL0.out HNB0.out
  clear hn
  have ho1 := jA (Kd.R_lower (R_span ho) (Nat.le_trans HB.out.size (zy : Below w_717.heap.size w_717 _).size))
  clear ho
  have HBi := zJ w_717 w_723 hb
  clear hb
  have HS728 := jA HBi.out.size
  replace HBr := jA (below_step HBr.out HBi.out)
  replace HF719 := zA jO HF719 HBi
  clear HBi
  have HO724 := zM w_717 w_723 ho1
  clear ho1
  refine ⟨_, rfl, ?_⟩
  refine hK.out _ _ (hSB_ _ HBr.out) (fun hHeld => putN 153 ?_)
  clear hK K
  have sHS721 := HS721.out; have sHG722 := HG722.out; have sHF720 := HF720.out; have sHS728 := HS728.out
  exact putsJ (hJ1_1 ((Ao725, co727), gb718) _ ⟨(zr5 HBr), latT HO724, (by (with_reducible repeat (first | refine blk_drewN ?_ _ | refine blk_drew ?_ | refine blk_alloc ?_ _)); exact HF719.out), (show w_620.heap.size ≤ gb718 from by omega)⟩)
 ·skip
  refine boxN 24 #[.int .i64 0, .slice none 0 0] 28 ?_
  intro gb731 hg_ w_730 hbox hb
  have BK729 := jA hbox
  have HGgb731 := jA (blk_lt hbox)
  have HLgb731 : Aside0 (w_717.heap.size ≤ gb731) := ⟨by rw [hg_]; exact Nat.le_refl _⟩
  clear hbox hg_
  have HBi := zJ w_717 w_730 hb
  clear hb
  have HS732 := jA HBi.out.size
  replace HBr := jA (below_step HBr.out HBi.out)
  replace HF719 := zA jO HF719 HBi
  clear HBi
  refine hK.out _ _ (hSB_ _ HBr.out) (fun hHeld => putN 24 ?_)
  clear hK K
  have sHS721 := HS721.out; have sHG722 := HG722.out; have sHF720 := HF720.out; have sHS732 := HS732.out; have sHGgb731 := HGgb731.out; have sHLgb731 := HLgb731.out
  exact putsJ (hJ0_01 (gb731, gb718) _ ⟨(zr5 HBr), (zk BK729), (show w_620.heap.size ≤ gb731 from by omega), (by (with_reducible repeat (first | refine blk_drewN ?_ _ | refine blk_drew ?_ | refine blk_alloc ?_ _)); exact HF719.out), (show w_620.heap.size ≤ gb718 from by omega), (show gb731 ≠ gb718 from by omega)⟩)
 clear HBr hHeld
 rintro ⟨⟨Ao734, co735⟩, ⟨Ao736, co737⟩⟩ w_733 ⟨h0_, h1_, h2_⟩
 try dsimp only at h0_ h1_ h2_
 have HBr := jA h0_
 have HF738 := jA h1_
 have HF739 := jA h2_
 clear h0_ h1_ h2_
 have HS740 := jA HBr.out.size
 refine putsN ?_
 replace HB := jA (below_step HB0_.out HBr.out)
 refine three_ (i := 5) (j := 13) (k := 14) (Ni := some 157) (Nj := some 24) (Nk := some 25) m18_3fc00 m18_3ec10 m18_3ec08 rfl rfl rfl rfl rfl rfl (three_of HT_.out zr) (by decide) (by decide) (by decide) (fun K hK => ?_) (fun K hK => ?_) (fun K hK => ?_)
 ·skip
  refine goes_ Try.func17 zr rfl #[.agg #[.int .i64 a2_0, .slice A2_1 l2_1.length c2_1], .bool true] (by rfl) rfl rfl zm ?_
  (with_reducible refine (laws_toMagazineX.calls k a2_0 _ _ l2_1 true a2_0 extb2_1 _ ?side1 ?side2 (by unfold laws_toMagazineX.f; rw [HTOB2_1.out, Option.bind_some])).mono ?_)
  (case side1 => exact zs HR2_1 HB)
  (case side2 => exact HC2_1.out)
  rintro e w_741 ⟨Ao743, no744, co745, rfl, hn, ho, hb⟩
  obtain rfl : no744 = xs2_1.length := hn.bare HXL2_1.out HNB2_1.out
  clear hn
  have ho1 := jA (Kd.R_lower (R_span ho) (Nat.le_trans HB.out.size (zy : Below w_733.heap.size w_733 _).size))
  clear ho
  have HBi := zJ w_733 w_741 hb
  clear hb
  have HS746 := jA HBi.out.size
  replace HBr := jA (below_step HBr.out HBi.out)
  replace HF738 := zA Kd.R_below HF738 HBi
  replace HF739 := zA Kd.R_below HF739 HBi
  clear HBi
  have HO742 := zM w_733 w_741 ho1
  clear ho1
  refine ⟨_, rfl, ?_⟩
  refine hK.out _ _ (hSB_ _ HBr.out) (fun hHeld => putN 157 ?_)
  clear hK K
  have sHS740 := HS740.out; have sHS746 := HS746.out
  exact putsJ (hJ3_ ((Ao734, co735), (Ao736, co737), (Ao743, co745)) _ ⟨(zr5 HBr), latT HF738, latT HF739, latT HO742⟩)
 ·skip
  refine boxN 24 #[.int .i64 0, .slice none 0 0] 28 ?_
  intro gb749 hg_ w_748 hbox hb
  have BK747 := jA hbox
  have HGgb749 := jA (blk_lt hbox)
  have HLgb749 : Aside0 (w_733.heap.size ≤ gb749) := ⟨by rw [hg_]; exact Nat.le_refl _⟩
  clear hbox hg_
  have HBi := zJ w_733 w_748 hb
  clear hb
  have HS750 := jA HBi.out.size
  replace HBr := jA (below_step HBr.out HBi.out)
  replace HF738 := zA Kd.R_below HF738 HBi
  replace HF739 := zA Kd.R_below HF739 HBi
  clear HBi
  refine hK.out _ _ (hSB_ _ HBr.out) (fun hHeld => putN 24 ?_)
  clear hK K
  have sHS740 := HS740.out; have sHS750 := HS750.out; have sHGgb749 := HGgb749.out; have sHLgb749 := HLgb749.out
  exact putsJ (hJ2_0 ((Ao734, co735), (Ao736, co737), gb749) _ ⟨(zr5 HBr), latT HF738, latT HF739, (zk BK747), (show w_620.heap.size ≤ gb749 from by omega)⟩)
 ·skip
  refine boxN 25 #[.int .i64 0, .slice none 0 0] 28 ?_
  intro gb753 hg_ w_752 hbox hb
  have BK751 := jA hbox
  have HGgb753 := jA (blk_lt hbox)
  have HLgb753 : Aside0 (w_733.heap.size ≤ gb753) := ⟨by rw [hg_]; exact Nat.le_refl _⟩
  clear hbox hg_
  have HBi := zJ w_733 w_752 hb
  clear hb
  have HS754 := jA HBi.out.size
  replace HBr := jA (below_step HBr.out HBi.out)
  replace HF738 := zA Kd.R_below HF738 HBi
  replace HF739 := zA Kd.R_below HF739 HBi
  clear HBi
  refine hK.out _ _ (hSB_ _ HBr.out) (fun hHeld => putN 25 ?_)
  clear hK K
  have sHS740 := HS740.out; have sHS754 := HS754.out; have sHGgb753 := HGgb753.out; have sHLgb753 := HLgb753.out
  exact putsJ (hJ2_1 ((Ao734, co735), (Ao736, co737), gb753) _ ⟨(zr5 HBr), latT HF738, latT HF739, (zk BK751), (show w_620.heap.size ≤ gb753 from by omega)⟩)
 clear HBr hHeld
 rintro ⟨⟨Ao756, co757⟩, gb758⟩ w_755 ⟨h0_, h1_, h2_, h3_⟩
 try dsimp only at h0_ h1_ h2_ h3_
 have HBr := jA h0_
 have HF759 := jA h1_
 have HF760 := jA h2_
 have HF761 := jA h3_
 clear h0_ h1_ h2_ h3_
 have HS762 := jA HBr.out.size
 have HG763 := jA (blk_lt HF760.out)
 refine putsN ?_
 replace HB := jA (below_step HB0_.out HBr.out)
 refine two_ (i := 3) (j := 14) (Ni := some 155) (Nj := some 25) m18_3ec10 m18_3ac18 rfl rfl rfl rfl (two_of HT_.out zr) (by decide) (by decide) (fun K hK => ?_) (fun K hK => ?_)
 ·skip
  refine goes_ Try.func17 zr rfl #[.agg #[.int .i64 a1_0, .slice A1_1 l1_1.length c1_1], .bool true] (by rfl) rfl rfl zm ?_
  (with_reducible refine (laws_toMagazineX.calls k a1_0 _ _ l1_1 true a1_0 extb1_1 _ ?side1 ?side2 (by unfold laws_toMagazineX.f; rw [HTOB1_1.out, Option.bind_some])).mono ?_)
  (case side1 => exact zs HR1_1 HB)
  (case side2 => exact HC1_1.out)
  rintro e w_764 ⟨Ao766, no767, co768, rfl, hn, ho, hb⟩
  obtain rfl : no767 = xs1_1.length := hn.bare HXL1_1.out HNB1_1.out
  clear hn
  have ho1 := jA (Kd.R_lower (R_span ho) (Nat.le_trans HB.out.size (zy : Below w_755.heap.size w_755 _).size))
  clear ho
  have HBi := zJ w_755 w_764 hb
  clear hb
  have HS769 := jA HBi.out.size
  replace HBr := jA (below_step HBr.out HBi.out)
  replace HF759 := zA Kd.R_below HF759 HBi
  replace HF760 := zA jO HF760 HBi
  clear HBi
  have HO765 := zM w_755 w_764 ho1
  clear ho1
  refine ⟨_, rfl, ?_⟩
  refine hK.out _ _ (hSB_ _ HBr.out) (fun hHeld => putN 155 ?_)
  clear hK K
  have sHS762 := HS762.out; have sHG763 := HG763.out; have sHF761 := HF761.out; have sHS769 := HS769.out
  exact putsJ (hJ2_0 ((Ao756, co757), (Ao766, co768), gb758) _ ⟨(zr5 HBr), latT HF759, latT HO765, (by (with_reducible repeat (first | refine blk_drewN ?_ _ | refine blk_drew ?_ | refine blk_alloc ?_ _)); exact HF760.out), (show w_620.heap.size ≤ gb758 from by omega)⟩)
 ·skip
  refine boxN 25 #[.int .i64 0, .slice none 0 0] 28 ?_
  intro gb772 hg_ w_771 hbox hb
  have BK770 := jA hbox
  have HGgb772 := jA (blk_lt hbox)
  have HLgb772 : Aside0 (w_755.heap.size ≤ gb772) := ⟨by rw [hg_]; exact Nat.le_refl _⟩
  clear hbox hg_
  have HBi := zJ w_755 w_771 hb
  clear hb
  have HS773 := jA HBi.out.size
  replace HBr := jA (below_step HBr.out HBi.out)
  replace HF759 := zA Kd.R_below HF759 HBi
  replace HF760 := zA jO HF760 HBi
  clear HBi
  refine hK.out _ _ (hSB_ _ HBr.out) (fun hHeld => putN 25 ?_)
  clear hK K
  have sHS762 := HS762.out; have sHG763 := HG763.out; have sHF761 := HF761.out; have sHS773 := HS773.out; have sHGgb772 := HGgb772.out; have sHLgb772 := HLgb772.out
  exact putsJ (hJ1_01 ((Ao756, co757), gb758, gb772) _ ⟨(zr5 HBr), latT HF759, (by (with_reducible repeat (first | refine blk_drewN ?_ _ | refine blk_drew ?_ | refine blk_alloc ?_ _)); exact HF760.out), (show w_620.heap.size ≤ gb758 from by omega), (zk BK770), (show w_620.heap.size ≤ gb772 from by omega), (show gb758 ≠ gb772 from by omega)⟩)
 clear HBr hHeld
 rintro ⟨⟨Ao775, co776⟩, gb777⟩ w_774 ⟨h0_, h1_, h2_, h3_⟩
 try dsimp only at h0_ h1_ h2_ h3_
 have HBr := jA h0_
 have HF778 := jA h1_
 have HF779 := jA h2_
 have HF780 := jA h3_
 clear h0_ h1_ h2_ h3_
 have HS781 := jA HBr.out.size
 have HG782 := jA (blk_lt HF779.out)
 refine putsN ?_
 replace HB := jA (below_step HB0_.out HBr.out)
 refine two_ (i := 3) (j := 13) (Ni := some 155) (Nj := some 24) m18_3ec08 m18_3ac18 rfl rfl rfl rfl (two_of HT_.out zr) (by decide) (by decide) (fun K hK => ?_) (fun K hK => ?_)
 ·skip
  refine goes_ Try.func17 zr rfl #[.agg #[.int .i64 a1_0, .slice A1_1 l1_1.length c1_1], .bool true] (by rfl) rfl rfl zm ?_
  (with_reducible refine (laws_toMagazineX.calls k a1_0 _ _ l1_1 true a1_0 extb1_1 _ ?side1 ?side2 (by unfold laws_toMagazineX.f; rw [HTOB1_1.out, Option.bind_some])).mono ?_)
  (case side1 => exact zs HR1_1 HB)
  (case side2 => exact HC1_1.out)
  rintro e w_783 ⟨Ao785, no786, co787, rfl, hn, ho, hb⟩
  obtain rfl : no786 = xs1_1.length := hn.bare HXL1_1.out HNB1_1.out
  clear hn
  have ho1 := jA (Kd.R_lower (R_span ho) (Nat.le_trans HB.out.size (zy : Below w_774.heap.size w_774 _).size))
  clear ho
  have HBi := zJ w_774 w_783 hb
  clear hb
  have HS788 := jA HBi.out.size
  replace HBr := jA (below_step HBr.out HBi.out)
  replace HF778 := zA Kd.R_below HF778 HBi
  replace HF779 := zA jO HF779 HBi
  clear HBi
  have HO784 := zM w_774 w_783 ho1
  clear ho1
  refine ⟨_, rfl, ?_⟩
  refine hK.out _ _ (hSB_ _ HBr.out) (fun hHeld => putN 155 ?_)
  clear hK K
  have sHS781 := HS781.out; have sHG782 := HG782.out; have sHF780 := HF780.out; have sHS788 := HS788.out
  exact putsJ (hJ2_1 ((Ao775, co776), (Ao785, co787), gb777) _ ⟨(zr5 HBr), latT HF778, latT HO784, (by (with_reducible repeat (first | refine blk_drewN ?_ _ | refine blk_drew ?_ | refine blk_alloc ?_ _)); exact HF779.out), (show w_620.heap.size ≤ gb777 from by omega)⟩)
 ·skip
  refine boxN 24 #[.int .i64 0, .slice none 0 0] 28 ?_
  intro gb791 hg_ w_790 hbox hb
  have BK789 := jA hbox
  have HGgb791 := jA (blk_lt hbox)
  have HLgb791 : Aside0 (w_774.heap.size ≤ gb791) := ⟨by rw [hg_]; exact Nat.le_refl _⟩
  clear hbox hg_
  have HBi := zJ w_774 w_790 hb
  clear hb
  have HS792 := jA HBi.out.size
  replace HBr := jA (below_step HBr.out HBi.out)
  replace HF778 := zA Kd.R_below HF778 HBi
  replace HF779 := zA jO HF779 HBi
  clear HBi
  refine hK.out _ _ (hSB_ _ HBr.out) (fun hHeld => putN 24 ?_)
  clear hK K
  have sHS781 := HS781.out; have sHG782 := HG782.out; have sHF780 := HF780.out; have sHS792 := HS792.out; have sHGgb791 := HGgb791.out; have sHLgb791 := HLgb791.out
  exact putsJ (hJ1_01 ((Ao775, co776), gb791, gb777) _ ⟨(zr5 HBr), latT HF778, (zk BK789), (show w_620.heap.size ≤ gb791 from by omega), (by (with_reducible repeat (first | refine blk_drewN ?_ _ | refine blk_drew ?_ | refine blk_alloc ?_ _)); exact HF779.out), (show w_620.heap.size ≤ gb777 from by omega), (show gb791 ≠ gb777 from by omega)⟩)
 clear HBr hHeld
 rintro ⟨gb794, gb795⟩ w_793 ⟨h0_, h1_, h2_, h3_, h4_, h5_⟩
 try dsimp only at h0_ h1_ h2_ h3_ h4_ h5_
 have HBr := jA h0_
 have HF796 := jA h1_
 have HF797 := jA h2_
 have HF798 := jA h3_
 have HF799 := jA h4_
 have HF800 := jA h5_
 clear h0_ h1_ h2_ h3_ h4_ h5_
 have HS801 := jA HBr.out.size
 have HG802 := jA (blk_lt HF796.out)
 have HG803 := jA (blk_lt HF798.out)
 refine putsN ?_
 replace HB := jA (below_step HB0_.out HBr.out)
 refine one_ (i := 1) (N := some 153) m18_3ac18 rfl rfl (one_of HT_.out zr) (by decide) (fun K hK => ?_)
 ·skip
  refine goes_ Try.func16 zr rfl #[.slice A0 l0.length c0, .bool true] (by rfl) rfl rfl zm ?_
  (with_reducible refine (laws_toArticleSX.calls k _ _ l0 true extb0 _ ?side1 ?side2 HTOB0.out).mono ?_)
  (case side1 => exact zs HR0 HB)
  (case side2 => exact HC0.out)
  rintro e w_804 ⟨Ao806, no807, co808, rfl, hn, ho, hb⟩
  obtain rfl : no807 = xs0.length := hn.bare HXL0.out HNB0.out
  clear hn
  have ho1 := jA (Kd.R_lower (R_span ho) (Nat.le_trans HB.out.size (zy : Below w_793.heap.size w_793 _).size))
  clear ho
  have HBi := zJ w_793 w_804 hb
  clear hb
  have HS809 := jA HBi.out.size
  replace HBr := jA (below_step HBr.out HBi.out)
  replace HF796 := zA jO HF796 HBi
  replace HF798 := zA jO HF798 HBi
  clear HBi
  have HO805 := zM w_793 w_804 ho1
  clear ho1
  refine ⟨_, rfl, ?_⟩
  refine hK.out _ _ (hSB_ _ HBr.out) (fun hHeld => putN 153 ?_)
  clear hK K
  have sHS801 := HS801.out; have sHG802 := HG802.out; have sHF797 := HF797.out; have sHG803 := HG803.out; have sHF799 := HF799.out; have sHF800 := HF800.out; have sHS809 := HS809.out
  exact putsJ (hJ1_01 ((Ao806, co808), gb794, gb795) _ ⟨(zr5 HBr), latT HO805, (by (with_reducible repeat (first | refine blk_drewN ?_ _ | refine blk_drew ?_ | refine blk_alloc ?_ _)); exact HF796.out), (show w_620.heap.size ≤ gb794 from by omega), (by (with_reducible repeat (first | refine blk_drewN ?_ _ | refine blk_drew ?_ | refine blk_alloc ?_ _)); exact HF798.out), (show w_620.heap.size ≤ gb795 from by omega), (show gb794 ≠ gb795 from by omega)⟩)
 clear HBr hHeld
 rintro ⟨⟨Ao811, co812⟩, ⟨Ao813, co814⟩, ⟨Ao815, co816⟩⟩ w_810 ⟨h0_, h1_, h2_, h3_⟩
 try dsimp only at h0_ h1_ h2_ h3_
 have HBr := jA h0_
 have HF817 := jA h1_
 have HF818 := jA h2_
 have HF819 := jA h3_
 clear h0_ h1_ h2_ h3_
 have HS820 := jA HBr.out.size
 refine putsN ?_
 replace HB := jA (below_step HB0_.out HBr.out)
 refine three_ (i := 8) (j := 13) (k := 14) (Ni := some 160) (Nj := some 24) (Nk := some 25) m18_3fe00 m18_3fc10 m18_3fc08 rfl rfl rfl rfl rfl rfl (three_of HT_.out zr) (by decide) (by decide) (by decide) (fun K hK => ?_) (fun K hK => ?_) (fun K hK => ?_)
 ·skip
  refine goes_ Try.func18 zr rfl #[.slice Ao811 xs0.length co812, .agg #[.int .i64 a1_0, .slice Ao813 xs1_1.length co814], .agg #[.int .i64 a2_0, .slice Ao815 xs2_1.length co816], .string a3, .int .i64 a4] (by rfl) rfl rfl zm ?_
  (with_reducible refine (impl_MovePieces.calls k _ _ xs0 a1_0 _ _ xs1_1 a2_0 _ _ xs2_1 a3 a4 res_r1 gs_r2 res_r3 gs_r4 res_r5 _ ?side1 ?side2 ?side3 ?side4 ?side5 ?side6 HFimpl.out).mono ?_)
  (case side1 => repeat (first | exact C_ext (jP HF817.out).2.2 HXB0.out HLB0.out | (with_reducible refine Kd.C_alloc ?_ _) | (with_reducible refine Kd.C_drewN ?_ _) | (with_reducible refine Kd.C_drew ?_)))
  (case side2 => exact Nat.le_trans HLB0.out (jP HF817.out).2.1)
  (case side3 => repeat (first | exact C_ext (jP HF818.out).2.2 HXB1_1.out HLB1_1.out | (with_reducible refine Kd.C_alloc ?_ _) | (with_reducible refine Kd.C_drewN ?_ _) | (with_reducible refine Kd.C_drew ?_)))
  (case side4 => exact Nat.le_trans HLB1_1.out (jP HF818.out).2.1)
  (case side5 => repeat (first | exact C_ext (jP HF819.out).2.2 HXB2_1.out HLB2_1.out | (with_reducible refine Kd.C_alloc ?_ _) | (with_reducible refine Kd.C_drewN ?_ _) | (with_reducible refine Kd.C_drew ?_)))
  (case side6 => exact Nat.le_trans HLB2_1.out (jP HF819.out).2.1)
  rintro e w_821 ⟨v_822, v_823, rfl, ho1, ho2, hb⟩
  have hoA := jA (Kd.R_lower (R_own rfl ho1) (Nat.le_trans HB.out.size (zy : Below w_810.heap.size w_810 _).size))
  have hoB := jA (Kd.R_lower (R_near ho2) (Nat.le_trans HB.out.size (zy : Below w_810.heap.size w_810 _).size))
  clear ho1 ho2
  have HBi := zJ w_810 w_821 hb
  clear hb
  have HS824 := jA HBi.out.size
  replace HBr := jA (below_step HBr.out HBi.out)
  replace HF817 := zA Kd.R_below HF817 HBi
  replace HF818 := zA Kd.R_below HF818 HBi
  replace HF819 := zA Kd.R_below HF819 HBi
  clear HBi
  obtain ⟨Ao826, co827, eo828⟩ := Kd.R_slice hoA.out
  subst eo828
  obtain ⟨Ao830, co831, eo832⟩ := Kd.R_slice hoB.out
  subst eo832
  have HO825 := jA (Kd.R_mono (ok' := fun k_ => (w_810.heap.size ≤ k_ ∧ k_ < w_821.heap.size) ∧ some k_ = (Value.slice Ao826 gs_r2.length co827).ownBlock) hoA.out (fun k_ hk_ => hk_))
  clear hoA
  have HO829 := jA (Kd.R_mono (ok' := fun k_ => (w_810.heap.size ≤ k_ ∧ k_ < w_821.heap.size) ∧ some k_ ≠ (Value.slice Ao826 gs_r2.length co827).ownBlock) hoB.out (fun k_ hk_ => hk_))
  clear hoB
  refine ⟨_, rfl, ?_⟩
  refine hK.out _ _ (hSB_ _ HBr.out) (fun hHeld => putN 160 ?_)
  clear hK K
  refine zp HT_ 9 151 m18_3ff00 ?_
  refine zp HT_ 10 161 m18_3ff80 ?_
  refine zp HT_ 11 162 m18_3ffc0 ?_
  refine zp HT_ 12 163 m18_3ffe0 ?_
  have sHS820 := HS820.out; have sHS824 := HS824.out
  exact putsJ (hJ4_ ((Ao811, co812), (Ao813, co814), (Ao815, co816), (Ao826, co827), (Ao830, co831)) _ ⟨(zr5 HBr), latP HO825, latP HO829⟩)
 ·skip
  refine boxN 24 #[.int .i64 0, .slice none 0 0] 28 ?_
  intro gb835 hg_ w_834 hbox hb
  have BK833 := jA hbox
  have HGgb835 := jA (blk_lt hbox)
  have HLgb835 : Aside0 (w_810.heap.size ≤ gb835) := ⟨by rw [hg_]; exact Nat.le_refl _⟩
  clear hbox hg_
  have HBi := zJ w_810 w_834 hb
  clear hb
  have HS836 := jA HBi.out.size
  replace HBr := jA (below_step HBr.out HBi.out)
  replace HF817 := zA Kd.R_below HF817 HBi
  replace HF818 := zA Kd.R_below HF818 HBi
  replace HF819 := zA Kd.R_below HF819 HBi
  clear HBi
  refine hK.out _ _ (hSB_ _ HBr.out) (fun hHeld => putN 24 ?_)
  clear hK K
  have sHS820 := HS820.out; have sHS836 := HS836.out; have sHGgb835 := HGgb835.out; have sHLgb835 := HLgb835.out
  exact putsJ (hJ3_0 ((Ao811, co812), (Ao813, co814), (Ao815, co816), gb835) _ ⟨(zr5 HBr), latT HF817, latT HF818, latT HF819, (zk BK833), (show w_620.heap.size ≤ gb835 from by omega)⟩)
 ·skip
  refine boxN 25 #[.int .i64 0, .slice none 0 0] 28 ?_
  intro gb839 hg_ w_838 hbox hb
  have BK837 := jA hbox
  have HGgb839 := jA (blk_lt hbox)
  have HLgb839 : Aside0 (w_810.heap.size ≤ gb839) := ⟨by rw [hg_]; exact Nat.le_refl _⟩
  clear hbox hg_
  have HBi := zJ w_810 w_838 hb
  clear hb
  have HS840 := jA HBi.out.size
  replace HBr := jA (below_step HBr.out HBi.out)
  replace HF817 := zA Kd.R_below HF817 HBi
  replace HF818 := zA Kd.R_below HF818 HBi
  replace HF819 := zA Kd.R_below HF819 HBi
  clear HBi
  refine hK.out _ _ (hSB_ _ HBr.out) (fun hHeld => putN 25 ?_)
  clear hK K
  have sHS820 := HS820.out; have sHS840 := HS840.out; have sHGgb839 := HGgb839.out; have sHLgb839 := HLgb839.out
  exact putsJ (hJ3_1 ((Ao811, co812), (Ao813, co814), (Ao815, co816), gb839) _ ⟨(zr5 HBr), latT HF817, latT HF818, latT HF819, (zk BK837), (show w_620.heap.size ≤ gb839 from by omega)⟩)
 clear HBr hHeld
 rintro ⟨⟨Ao842, co843⟩, ⟨Ao844, co845⟩, gb846⟩ w_841 ⟨h0_, h1_, h2_, h3_, h4_⟩
 try dsimp only at h0_ h1_ h2_ h3_ h4_
 have HBr := jA h0_
 have HF847 := jA h1_
 have HF848 := jA h2_
 have HF849 := jA h3_
 have HF850 := jA h4_
 clear h0_ h1_ h2_ h3_ h4_
 have HS851 := jA HBr.out.size
 have HG852 := jA (blk_lt HF849.out)
 refine putsN ?_
 replace HB := jA (below_step HB0_.out HBr.out)
 refine two_ (i := 5) (j := 14) (Ni := some 157) (Nj := some 25) m18_3fc10 m18_3ec18 rfl rfl rfl rfl (two_of HT_.out zr) (by decide) (by decide) (fun K hK => ?_) (fun K hK => ?_)
 ·skip
  refine goes_ Try.func17 zr rfl #[.agg #[.int .i64 a2_0, .slice A2_1 l2_1.length c2_1], .bool true] (by rfl) rfl rfl zm ?_
  (with_reducible refine (laws_toMagazineX.calls k a2_0 _ _ l2_1 true a2_0 extb2_1 _ ?side1 ?side2 (by unfold laws_toMagazineX.f; rw [HTOB2_1.out, Option.bind_some])).mono ?_)
  (case side1 => exact zs HR2_1 HB)
  (case side2 => exact HC2_1.out)
  rintro e w_853 ⟨Ao855, no856, co857, rfl, hn, ho, hb⟩
  obtain rfl : no856 = xs2_1.length := hn.bare HXL2_1.out HNB2_1.out
  clear hn
  have ho1 := jA (Kd.R_lower (R_span ho) (Nat.le_trans HB.out.size (zy : Below w_841.heap.size w_841 _).size))
  clear ho
  have HBi := zJ w_841 w_853 hb
  clear hb
  have HS858 := jA HBi.out.size
  replace HBr := jA (below_step HBr.out HBi.out)
  replace HF847 := zA Kd.R_below HF847 HBi
  replace HF848 := zA Kd.R_below HF848 HBi
  replace HF849 := zA jO HF849 HBi
  clear HBi
  have HO854 := zM w_841 w_853 ho1
  clear ho1
  refine ⟨_, rfl, ?_⟩
  refine hK.out _ _ (hSB_ _ HBr.out) (fun hHeld => putN 157 ?_)
  clear hK K
  have sHS851 := HS851.out; have sHG852 := HG852.out; have sHF850 := HF850.out; have sHS858 := HS858.out
  exact putsJ (hJ3_0 ((Ao842, co843), (Ao844, co845), (Ao855, co857), gb846) _ ⟨(zr5 HBr), latT HF847, latT HF848, latT HO854, (by (with_reducible repeat (first | refine blk_drewN ?_ _ | refine blk_drew ?_ | refine blk_alloc ?_ _)); exact HF849.out), (show w_620.heap.size ≤ gb846 from by omega)⟩)
 ·skip
  refine boxN 25 #[.int .i64 0, .slice none 0 0] 28 ?_
  intro gb861 hg_ w_860 hbox hb
  have BK859 := jA hbox
  have HGgb861 := jA (blk_lt hbox)
  have HLgb861 : Aside0 (w_841.heap.size ≤ gb861) := ⟨by rw [hg_]; exact Nat.le_refl _⟩
  clear hbox hg_
  have HBi := zJ w_841 w_860 hb
  clear hb
  have HS862 := jA HBi.out.size
  replace HBr := jA (below_step HBr.out HBi.out)
  replace HF847 := zA Kd.R_below HF847 HBi
  replace HF848 := zA Kd.R_below HF848 HBi
  replace HF849 := zA jO HF849 HBi
  clear HBi
  refine hK.out _ _ (hSB_ _ HBr.out) (fun hHeld => putN 25 ?_)
  clear hK K
  have sHS851 := HS851.out; have sHG852 := HG852.out; have sHF850 := HF850.out; have sHS862 := HS862.out; have sHGgb861 := HGgb861.out; have sHLgb861 := HLgb861.out
  exact putsJ (hJ2_01 ((Ao842, co843), (Ao844, co845), gb846, gb861) _ ⟨(zr5 HBr), latT HF847, latT HF848, (by (with_reducible repeat (first | refine blk_drewN ?_ _ | refine blk_drew ?_ | refine blk_alloc ?_ _)); exact HF849.out), (show w_620.heap.size ≤ gb846 from by omega), (zk BK859), (show w_620.heap.size ≤ gb861 from by omega), (show gb846 ≠ gb861 from by omega)⟩)
 clear HBr hHeld
 rintro ⟨⟨Ao864, co865⟩, ⟨Ao866, co867⟩, gb868⟩ w_863 ⟨h0_, h1_, h2_, h3_, h4_⟩
 try dsimp only at h0_ h1_ h2_ h3_ h4_
 have HBr := jA h0_
 have HF869 := jA h1_
 have HF870 := jA h2_
 have HF871 := jA h3_
 have HF872 := jA h4_
 clear h0_ h1_ h2_ h3_ h4_
 have HS873 := jA HBr.out.size
 have HG874 := jA (blk_lt HF871.out)
 refine putsN ?_
 replace HB := jA (below_step HB0_.out HBr.out)
 refine two_ (i := 5) (j := 13) (Ni := some 157) (Nj := some 24) m18_3fc08 m18_3ec18 rfl rfl rfl rfl (two_of HT_.out zr) (by decide) (by decide) (fun K hK => ?_) (fun K hK => ?_)
 ·skip
  refine goes_ Try.func17 zr rfl #[.agg #[.int .i64 a2_0, .slice A2_1 l2_1.length c2_1], .bool true] (by rfl) rfl rfl zm ?_
  (with_reducible refine (laws_toMagazineX.calls k a2_0 _ _ l2_1 true a2_0 extb2_1 _ ?side1 ?side2 (by unfold laws_toMagazineX.f; rw [HTOB2_1.out, Option.bind_some])).mono ?_)
  (case side1 => exact zs HR2_1 HB)
  (case side2 => exact HC2_1.out)
  rintro e w_875 ⟨Ao877, no878, co879, rfl, hn, ho, hb⟩
  obtain rfl : no878 = xs2_1.length := hn.bare HXL2_1.out HNB2_1.out
  clear hn
  have ho1 := jA (Kd.R_lower (R_span ho) (Nat.le_trans HB.out.size (zy : Below w_863.heap.size w_863 _).size))
  clear ho
  have HBi := zJ w_863 w_875 hb
  clear hb
  have HS880 := jA HBi.out.size
  replace HBr := jA (below_step HBr.out HBi.out)
  replace HF869 := zA Kd.R_below HF869 HBi
  replace HF870 := zA Kd.R_below HF870 HBi
  replace HF871 := zA jO HF871 HBi
  clear HBi
  have HO876 := zM w_863 w_875 ho1
  clear ho1
  refine ⟨_, rfl, ?_⟩
  refine hK.out _ _ (hSB_ _ HBr.out) (fun hHeld => putN 157 ?_)
  clear hK K
  have sHS873 := HS873.out; have sHG874 := HG874.out; have sHF872 := HF872.out; have sHS880 := HS880.out
  exact putsJ (hJ3_1 ((Ao864, co865), (Ao866, co867), (Ao877, co879), gb868) _ ⟨(zr5 HBr), latT HF869, latT HF870, latT HO876, (by (with_reducible repeat (first | refine blk_drewN ?_ _ | refine blk_drew ?_ | refine blk_alloc ?_ _)); exact HF871.out), (show w_620.heap.size ≤ gb868 from by omega)⟩)
 ·skip
  refine boxN 24 #[.int .i64 0, .slice none 0 0] 28 ?_
  intro gb883 hg_ w_882 hbox hb
  have BK881 := jA hbox
  have HGgb883 := jA (blk_lt hbox)
  have HLgb883 : Aside0 (w_863.heap.size ≤ gb883) := ⟨by rw [hg_]; exact Nat.le_refl _⟩
  clear hbox hg_
  have HBi := zJ w_863 w_882 hb
  clear hb
  have HS884 := jA HBi.out.size
  replace HBr := jA (below_step HBr.out HBi.out)
  replace HF869 := zA Kd.R_below HF869 HBi
  replace HF870 := zA Kd.R_below HF870 HBi
  replace HF871 := zA jO HF871 HBi
  clear HBi
  refine hK.out _ _ (hSB_ _ HBr.out) (fun hHeld => putN 24 ?_)
  clear hK K
  have sHS873 := HS873.out; have sHG874 := HG874.out; have sHF872 := HF872.out; have sHS884 := HS884.out; have sHGgb883 := HGgb883.out; have sHLgb883 := HLgb883.out
  exact putsJ (hJ2_01 ((Ao864, co865), (Ao866, co867), gb883, gb868) _ ⟨(zr5 HBr), latT HF869, latT HF870, (zk BK881), (show w_620.heap.size ≤ gb883 from by omega), (by (with_reducible repeat (first | refine blk_drewN ?_ _ | refine blk_drew ?_ | refine blk_alloc ?_ _)); exact HF871.out), (show w_620.heap.size ≤ gb868 from by omega), (show gb883 ≠ gb868 from by omega)⟩)
 clear HBr hHeld
 rintro ⟨⟨Ao886, co887⟩, gb888, gb889⟩ w_885 ⟨h0_, h1_, h2_, h3_, h4_, h5_, h6_⟩
 try dsimp only at h0_ h1_ h2_ h3_ h4_ h5_ h6_
 have HBr := jA h0_
 have HF890 := jA h1_
 have HF891 := jA h2_
 have HF892 := jA h3_
 have HF893 := jA h4_
 have HF894 := jA h5_
 have HF895 := jA h6_
 clear h0_ h1_ h2_ h3_ h4_ h5_ h6_
 have HS896 := jA HBr.out.size
 have HG897 := jA (blk_lt HF891.out)
 have HG898 := jA (blk_lt HF893.out)
 refine putsN ?_
 replace HB := jA (below_step HB0_.out HBr.out)
 refine one_ (i := 3) (N := some 155) m18_3ec18 rfl rfl (one_of HT_.out zr) (by decide) (fun K hK => ?_)
 ·skip
  refine goes_ Try.func17 zr rfl #[.agg #[.int .i64 a1_0, .slice A1_1 l1_1.length c1_1], .bool true] (by rfl) rfl rfl zm ?_
  (with_reducible refine (laws_toMagazineX.calls k a1_0 _ _ l1_1 true a1_0 extb1_1 _ ?side1 ?side2 (by unfold laws_toMagazineX.f; rw [HTOB1_1.out, Option.bind_some])).mono ?_)
  (case side1 => exact zs HR1_1 HB)
  (case side2 => exact HC1_1.out)
  rintro e w_899 ⟨Ao901, no902, co903, rfl, hn, ho, hb⟩
  obtain rfl : no902 = xs1_1.length := hn.bare HXL1_1.out HNB1_1.out
  clear hn
  have ho1 := jA (Kd.R_lower (R_span ho) (Nat.le_trans HB.out.size (zy : Below w_885.heap.size w_885 _).size))
  clear ho
  have HBi := zJ w_885 w_899 hb
  clear hb
  have HS904 := jA HBi.out.size
  replace HBr := jA (below_step HBr.out HBi.out)
  replace HF890 := zA Kd.R_below HF890 HBi
  replace HF891 := zA jO HF891 HBi
  replace HF893 := zA jO HF893 HBi
  clear HBi
  have HO900 := zM w_885 w_899 ho1
  clear ho1
  refine ⟨_, rfl, ?_⟩
  refine hK.out _ _ (hSB_ _ HBr.out) (fun hHeld => putN 155 ?_)
  clear hK K
  have sHS896 := HS896.out; have sHG897 := HG897.out; have sHF892 := HF892.out; have sHG898 := HG898.out; have sHF894 := HF894.out; have sHF895 := HF895.out; have sHS904 := HS904.out
  exact putsJ (hJ2_01 ((Ao886, co887), (Ao901, co903), gb888, gb889) _ ⟨(zr5 HBr), latT HF890, latT HO900, (by (with_reducible repeat (first | refine blk_drewN ?_ _ | refine blk_drew ?_ | refine blk_alloc ?_ _)); exact HF891.out), (show w_620.heap.size ≤ gb888 from by omega), (by (with_reducible repeat (first | refine blk_drewN ?_ _ | refine blk_drew ?_ | refine blk_alloc ?_ _)); exact HF893.out), (show w_620.heap.size ≤ gb889 from by omega), (show gb888 ≠ gb889 from by omega)⟩)
 clear HBr hHeld
 rintro ⟨⟨Ao906, co907⟩, ⟨Ao908, co909⟩, ⟨Ao910, co911⟩, ⟨Ao912, co913⟩, ⟨Ao914, co915⟩⟩ w_905 ⟨h0_, h1_, h2_⟩
 try dsimp only at h0_ h1_ h2_
 have HBr := jA h0_
 have HF916 := jA h1_
 have HF917 := jA h2_
 clear h0_ h1_ h2_
 have HS918 := jA HBr.out.size
 refine putsN ?_
 replace HB := jA (below_step HB0_.out HBr.out)
 refine two_ (i := 13) (j := 14) (Ni := some 24) (Nj := some 25) m18_3fff0 m18_3ffe8 rfl rfl rfl rfl (two_of HT_.out zr) (by decide) (by decide) (fun K hK => ?_) (fun K hK => ?_)
 ·skip
  refine boxN 24 #[.int .i64 0, .slice none 0 0] 28 ?_
  intro gb921 hg_ w_920 hbox hb
  have BK919 := jA hbox
  have HGgb921 := jA (blk_lt hbox)
  have HLgb921 : Aside0 (w_905.heap.size ≤ gb921) := ⟨by rw [hg_]; exact Nat.le_refl _⟩
  clear hbox hg_
  have HBi := zJ w_905 w_920 hb
  clear hb
  have HS922 := jA HBi.out.size
  replace HBr := jA (below_step HBr.out HBi.out)
  replace HF916 := zA Kd.R_below HF916 HBi
  replace HF917 := zA Kd.R_below HF917 HBi
  clear HBi
  refine hK.out _ _ (hSB_ _ HBr.out) (fun hHeld => putN 24 ?_)
  clear hK K
  have sHS918 := HS918.out; have sHS922 := HS922.out; have sHGgb921 := HGgb921.out; have sHLgb921 := HLgb921.out
  exact putsJ (hJ4_0 ((Ao906, co907), (Ao908, co909), (Ao910, co911), (Ao912, co913), (Ao914, co915), gb921) _ ⟨(zr5 HBr), latP HF916, latP HF917, (zk BK919), (show w_620.heap.size ≤ gb921 from by omega)⟩)
 ·skip
  refine boxN 25 #[.int .i64 0, .slice none 0 0] 28 ?_
  intro gb925 hg_ w_924 hbox hb
  have BK923 := jA hbox
  have HGgb925 := jA (blk_lt hbox)
  have HLgb925 : Aside0 (w_905.heap.size ≤ gb925) := ⟨by rw [hg_]; exact Nat.le_refl _⟩
  clear hbox hg_
  have HBi := zJ w_905 w_924 hb
  clear hb
  have HS926 := jA HBi.out.size
  replace HBr := jA (below_step HBr.out HBi.out)
  replace HF916 := zA Kd.R_below HF916 HBi
  replace HF917 := zA Kd.R_below HF917 HBi
  clear HBi
  refine hK.out _ _ (hSB_ _ HBr.out) (fun hHeld => putN 25 ?_)
  clear hK K
  have sHS918 := HS918.out; have sHS926 := HS926.out; have sHGgb925 := HGgb925.out; have sHLgb925 := HLgb925.out
  exact putsJ (hJ4_1 ((Ao906, co907), (Ao908, co909), (Ao910, co911), (Ao912, co913), (Ao914, co915), gb925) _ ⟨(zr5 HBr), latP HF916, latP HF917, (zk BK923), (show w_620.heap.size ≤ gb925 from by omega)⟩)
 clear HBr hHeld
 rintro ⟨⟨Ao928, co929⟩, ⟨Ao930, co931⟩, ⟨Ao932, co933⟩, gb934⟩ w_927 ⟨h0_, h1_, h2_, h3_, h4_, h5_⟩
 try dsimp only at h0_ h1_ h2_ h3_ h4_ h5_
 have HBr := jA h0_
 have HF935 := jA h1_
 have HF936 := jA h2_
 have HF937 := jA h3_
 have HF938 := jA h4_
 have HF939 := jA h5_
 clear h0_ h1_ h2_ h3_ h4_ h5_
 have HS940 := jA HBr.out.size
 have HG941 := jA (blk_lt HF938.out)
 refine putsN ?_
 replace HB := jA (below_step HB0_.out HBr.out)
 refine two_ (i := 8) (j := 14) (Ni := some 160) (Nj := some 25) m18_3fe10 m18_3fc18 rfl rfl rfl rfl (two_of HT_.out zr) (by decide) (by decide) (fun K hK => ?_) (fun K hK => ?_)
 ·skip
  refine goes_ Try.func18 zr rfl #[.slice Ao928 xs0.length co929, .agg #[.int .i64 a1_0, .slice Ao930 xs1_1.length co931], .agg #[.int .i64 a2_0, .slice Ao932 xs2_1.length co933], .string a3, .int .i64 a4] (by rfl) rfl rfl zm ?_
  (with_reducible refine (impl_MovePieces.calls k _ _ xs0 a1_0 _ _ xs1_1 a2_0 _ _ xs2_1 a3 a4 res_r1 gs_r2 res_r3 gs_r4 res_r5 _ ?side1 ?side2 ?side3 ?side4 ?side5 ?side6 HFimpl.out).mono ?_)
  (case side1 => repeat (first | exact C_ext (jP HF935.out).2.2 HXB0.out HLB0.out | (with_reducible refine Kd.C_alloc ?_ _) | (with_reducible refine Kd.C_drewN ?_ _) | (with_reducible refine Kd.C_drew ?_)))
  (case side2 => exact Nat.le_trans HLB0.out (jP HF935.out).2.1)
  (case side3 => repeat (first | exact C_ext (jP HF936.out).2.2 HXB1_1.out HLB1_1.out | (with_reducible refine Kd.C_alloc ?_ _) | (with_reducible refine Kd.C_drewN ?_ _) | (with_reducible refine Kd.C_drew ?_)))
  (case side4 => exact Nat.le_trans HLB1_1.out (jP HF936.out).2.1)
  (case side5 => repeat (first | exact C_ext (jP HF937.out).2.2 HXB2_1.out HLB2_1.out | (with_reducible refine Kd.C_alloc ?_ _) | (with_reducible refine Kd.C_drewN ?_ _) | (with_reducible refine Kd.C_drew ?_)))
  (case side6 => exact Nat.le_trans HLB2_1.out (jP HF937.out).2.1)
  rintro e w_942 ⟨v_943, v_944, rfl, ho1, ho2, hb⟩
  have hoA := jA (Kd.R_lower (R_own rfl ho1) (Nat.le_trans HB.out.size (zy : Below w_927.heap.size w_927 _).size))
  have hoB := jA (Kd.R_lower (R_near ho2) (Nat.le_trans HB.out.size (zy : Below w_927.heap.size w_927 _).size))
  clear ho1 ho2
  have HBi := zJ w_927 w_942 hb
  clear hb
  have HS945 := jA HBi.out.size
  replace HBr := jA (below_step HBr.out HBi.out)
  replace HF935 := zA Kd.R_below HF935 HBi
  replace HF936 := zA Kd.R_below HF936 HBi
  replace HF937 := zA Kd.R_below HF937 HBi
  replace HF938 := zA jO HF938 HBi
  clear HBi
  obtain ⟨Ao947, co948, eo949⟩ := Kd.R_slice hoA.out
  subst eo949
  obtain ⟨Ao951, co952, eo953⟩ := Kd.R_slice hoB.out
  subst eo953
  have HO946 := jA (Kd.R_mono (ok' := fun k_ => (w_927.heap.size ≤ k_ ∧ k_ < w_942.heap.size) ∧ some k_ = (Value.slice Ao947 gs_r2.length co948).ownBlock) hoA.out (fun k_ hk_ => hk_))
  clear hoA
  have HO950 := jA (Kd.R_mono (ok' := fun k_ => (w_927.heap.size ≤ k_ ∧ k_ < w_942.heap.size) ∧ some k_ ≠ (Value.slice Ao947 gs_r2.length co948).ownBlock) hoB.out (fun k_ hk_ => hk_))
  clear hoB
  refine ⟨_, rfl, ?_⟩
  refine hK.out _ _ (hSB_ _ HBr.out) (fun hHeld => putN 160 ?_)
  clear hK K
  refine zp HT_ 9 151 m18_3ff10 ?_
  refine zp HT_ 10 161 m18_3ff90 ?_
  refine zp HT_ 11 162 m18_3ffd0 ?_
  refine zp HT_ 12 163 m18_3fff0 ?_
  have sHS940 := HS940.out; have sHG941 := HG941.out; have sHF939 := HF939.out; have sHS945 := HS945.out
  exact putsJ (hJ4_0 ((Ao928, co929), (Ao930, co931), (Ao932, co933), (Ao947, co948), (Ao951, co952), gb934) _ ⟨(zr5 HBr), latP HO946, latP HO950, (by (with_reducible repeat (first | refine blk_drewN ?_ _ | refine blk_drew ?_ | refine blk_alloc ?_ _)); exact HF938.out), (show w_620.heap.size ≤ gb934 from by omega)⟩)
 ·skip
  refine boxN 25 #[.int .i64 0, .slice none 0 0] 28 ?_
  intro gb956 hg_ w_955 hbox hb
  have BK954 := jA hbox
  have HGgb956 := jA (blk_lt hbox)
  have HLgb956 : Aside0 (w_927.heap.size ≤ gb956) := ⟨by rw [hg_]; exact Nat.le_refl _⟩
  clear hbox hg_
  have HBi := zJ w_927 w_955 hb
  clear hb
  have HS957 := jA HBi.out.size
  replace HBr := jA (below_step HBr.out HBi.out)
  replace HF935 := zA Kd.R_below HF935 HBi
  replace HF936 := zA Kd.R_below HF936 HBi
  replace HF937 := zA Kd.R_below HF937 HBi
  replace HF938 := zA jO HF938 HBi
  clear HBi
  refine hK.out _ _ (hSB_ _ HBr.out) (fun hHeld => putN 25 ?_)
  clear hK K
  have sHS940 := HS940.out; have sHG941 := HG941.out; have sHF939 := HF939.out; have sHS957 := HS957.out; have sHGgb956 := HGgb956.out; have sHLgb956 := HLgb956.out
  exact putsJ (hJ3_01 ((Ao928, co929), (Ao930, co931), (Ao932, co933), gb934, gb956) _ ⟨(zr5 HBr), latT HF935, latT HF936, latT HF937, (by (with_reducible repeat (first | refine blk_drewN ?_ _ | refine blk_drew ?_ | refine blk_alloc ?_ _)); exact HF938.out), (show w_620.heap.size ≤ gb934 from by omega), (zk BK954), (show w_620.heap.size ≤ gb956 from by omega), (show gb934 ≠ gb956 from by omega)⟩)
 clear HBr hHeld
 rintro ⟨⟨Ao959, co960⟩, ⟨Ao961, co962⟩, ⟨Ao963, co964⟩, gb965⟩ w_958 ⟨h0_, h1_, h2_, h3_, h4_, h5_⟩
 try dsimp only at h0_ h1_ h2_ h3_ h4_ h5_
 have HBr := jA h0_
 have HF966 := jA h1_
 have HF967 := jA h2_
 have HF968 := jA h3_
 have HF969 := jA h4_
 have HF970 := jA h5_
 clear h0_ h1_ h2_ h3_ h4_ h5_
 have HS971 := jA HBr.out.size
 have HG972 := jA (blk_lt HF969.out)
 refine putsN ?_
 replace HB := jA (below_step HB0_.out HBr.out)
 refine two_ (i := 8) (j := 13) (Ni := some 160) (Nj := some 24) m18_3fe08 m18_3fc18 rfl rfl rfl rfl (two_of HT_.out zr) (by decide) (by decide) (fun K hK => ?_) (fun K hK => ?_)
 ·skip
  refine goes_ Try.func18 zr rfl #[.slice Ao959 xs0.length co960, .agg #[.int .i64 a1_0, .slice Ao961 xs1_1.length co962], .agg #[.int .i64 a2_0, .slice Ao963 xs2_1.length co964], .string a3, .int .i64 a4] (by rfl) rfl rfl zm ?_
  (with_reducible refine (impl_MovePieces.calls k _ _ xs0 a1_0 _ _ xs1_1 a2_0 _ _ xs2_1 a3 a4 res_r1 gs_r2 res_r3 gs_r4 res_r5 _ ?side1 ?side2 ?side3 ?side4 ?side5 ?side6 HFimpl.out).mono ?_)
  (case side1 => repeat (first | exact C_ext (jP HF966.out).2.2 HXB0.out HLB0.out | (with_reducible refine Kd.C_alloc ?_ _) | (with_reducible refine Kd.C_drewN ?_ _) | (with_reducible refine Kd.C_drew ?_)))
  (case side2 => exact Nat.le_trans HLB0.out (jP HF966.out).2.1)
  (case side3 => repeat (first | exact C_ext (jP HF967.out).2.2 HXB1_1.out HLB1_1.out | (with_reducible refine Kd.C_alloc ?_ _) | (with_reducible refine Kd.C_drewN ?_ _) | (with_reducible refine Kd.C_drew ?_)))
  (case side4 => exact Nat.le_trans HLB1_1.out (jP HF967.out).2.1)
  (case side5 => repeat (first | exact C_ext (jP HF968.out).2.2 HXB2_1.out HLB2_1.out | (with_reducible refine Kd.C_alloc ?_ _) | (with_reducible refine Kd.C_drewN ?_ _) | (with_reducible refine Kd.C_drew ?_)))
  (case side6 => exact Nat.le_trans HLB2_1.out (jP HF968.out).2.1)
  rintro e w_973 ⟨v_974, v_975, rfl, ho1, ho2, hb⟩
  have hoA := jA (Kd.R_lower (R_own rfl ho1) (Nat.le_trans HB.out.size (zy : Below w_958.heap.size w_958 _).size))
  have hoB := jA (Kd.R_lower (R_near ho2) (Nat.le_trans HB.out.size (zy : Below w_958.heap.size w_958 _).size))
  clear ho1 ho2
  have HBi := zJ w_958 w_973 hb
  clear hb
  have HS976 := jA HBi.out.size
  replace HBr := jA (below_step HBr.out HBi.out)
  replace HF966 := zA Kd.R_below HF966 HBi
  replace HF967 := zA Kd.R_below HF967 HBi
  replace HF968 := zA Kd.R_below HF968 HBi
  replace HF969 := zA jO HF969 HBi
  clear HBi
  obtain ⟨Ao978, co979, eo980⟩ := Kd.R_slice hoA.out
  subst eo980
  obtain ⟨Ao982, co983, eo984⟩ := Kd.R_slice hoB.out
  subst eo984
  have HO977 := jA (Kd.R_mono (ok' := fun k_ => (w_958.heap.size ≤ k_ ∧ k_ < w_973.heap.size) ∧ some k_ = (Value.slice Ao978 gs_r2.length co979).ownBlock) hoA.out (fun k_ hk_ => hk_))
  clear hoA
  have HO981 := jA (Kd.R_mono (ok' := fun k_ => (w_958.heap.size ≤ k_ ∧ k_ < w_973.heap.size) ∧ some k_ ≠ (Value.slice Ao978 gs_r2.length co979).ownBlock) hoB.out (fun k_ hk_ => hk_))
  clear hoB
  refine ⟨_, rfl, ?_⟩
  refine hK.out _ _ (hSB_ _ HBr.out) (fun hHeld => putN 160 ?_)
  clear hK K
  refine zp HT_ 9 151 m18_3ff08 ?_
  refine zp HT_ 10 161 m18_3ff88 ?_
  refine zp HT_ 11 162 m18_3ffc8 ?_
  refine zp HT_ 12 163 m18_3ffe8 ?_
  have sHS971 := HS971.out; have sHG972 := HG972.out; have sHF970 := HF970.out; have sHS976 := HS976.out
  exact putsJ (hJ4_1 ((Ao959, co960), (Ao961, co962), (Ao963, co964), (Ao978, co979), (Ao982, co983), gb965) _ ⟨(zr5 HBr), latP HO977, latP HO981, (by (with_reducible repeat (first | refine blk_drewN ?_ _ | refine blk_drew ?_ | refine blk_alloc ?_ _)); exact HF969.out), (show w_620.heap.size ≤ gb965 from by omega)⟩)
 ·skip
  refine boxN 24 #[.int .i64 0, .slice none 0 0] 28 ?_
  intro gb987 hg_ w_986 hbox hb
  have BK985 := jA hbox
  have HGgb987 := jA (blk_lt hbox)
  have HLgb987 : Aside0 (w_958.heap.size ≤ gb987) := ⟨by rw [hg_]; exact Nat.le_refl _⟩
  clear hbox hg_
  have HBi := zJ w_958 w_986 hb
  clear hb
  have HS988 := jA HBi.out.size
  replace HBr := jA (below_step HBr.out HBi.out)
  replace HF966 := zA Kd.R_below HF966 HBi
  replace HF967 := zA Kd.R_below HF967 HBi
  replace HF968 := zA Kd.R_below HF968 HBi
  replace HF969 := zA jO HF969 HBi
  clear HBi
  refine hK.out _ _ (hSB_ _ HBr.out) (fun hHeld => putN 24 ?_)
  clear hK K
  have sHS971 := HS971.out; have sHG972 := HG972.out; have sHF970 := HF970.out; have sHS988 := HS988.out; have sHGgb987 := HGgb987.out; have sHLgb987 := HLgb987.out
  exact putsJ (hJ3_01 ((Ao959, co960), (Ao961, co962), (Ao963, co964), gb987, gb965) _ ⟨(zr5 HBr), latT HF966, latT HF967, latT HF968, (zk BK985), (show w_620.heap.size ≤ gb987 from by omega), (by (with_reducible repeat (first | refine blk_drewN ?_ _ | refine blk_drew ?_ | refine blk_alloc ?_ _)); exact HF969.out), (show w_620.heap.size ≤ gb965 from by omega), (show gb987 ≠ gb965 from by omega)⟩)
 clear HBr hHeld
 rintro ⟨⟨Ao990, co991⟩, ⟨Ao992, co993⟩, gb994, gb995⟩ w_989 ⟨h0_, h1_, h2_, h3_, h4_, h5_, h6_, h7_⟩
 try dsimp only at h0_ h1_ h2_ h3_ h4_ h5_ h6_ h7_
 have HBr := jA h0_
 have HF996 := jA h1_
 have HF997 := jA h2_
 have HF998 := jA h3_
 have HF999 := jA h4_
 have HF1000 := jA h5_
 have HF1001 := jA h6_
 have HF1002 := jA h7_
 clear h0_ h1_ h2_ h3_ h4_ h5_ h6_ h7_
 have HS1003 := jA HBr.out.size
 have HG1004 := jA (blk_lt HF998.out)
 have HG1005 := jA (blk_lt HF1000.out)
 refine putsN ?_
 replace HB := jA (below_step HB0_.out HBr.out)
 refine one_ (i := 5) (N := some 157) m18_3fc18 rfl rfl (one_of HT_.out zr) (by decide) (fun K hK => ?_)
 ·skip
  refine goes_ Try.func17 zr rfl #[.agg #[.int .i64 a2_0, .slice A2_1 l2_1.length c2_1], .bool true] (by rfl) rfl rfl zm ?_
  (with_reducible refine (laws_toMagazineX.calls k a2_0 _ _ l2_1 true a2_0 extb2_1 _ ?side1 ?side2 (by unfold laws_toMagazineX.f; rw [HTOB2_1.out, Option.bind_some])).mono ?_)
  (case side1 => exact zs HR2_1 HB)
  (case side2 => exact HC2_1.out)
  rintro e w_1006 ⟨Ao1008, no1009, co1010, rfl, hn, ho, hb⟩
  obtain rfl : no1009 = xs2_1.length := hn.bare HXL2_1.out HNB2_1.out
  clear hn
  have ho1 := jA (Kd.R_lower (R_span ho) (Nat.le_trans HB.out.size (zy : Below w_989.heap.size w_989 _).size))
  clear ho
  have HBi := zJ w_989 w_1006 hb
  clear hb
  have HS1011 := jA HBi.out.size
  replace HBr := jA (below_step HBr.out HBi.out)
  replace HF996 := zA Kd.R_below HF996 HBi
  replace HF997 := zA Kd.R_below HF997 HBi
  replace HF998 := zA jO HF998 HBi
  replace HF1000 := zA jO HF1000 HBi
  clear HBi
  have HO1007 := zM w_989 w_1006 ho1
  clear ho1
  refine ⟨_, rfl, ?_⟩
  refine hK.out _ _ (hSB_ _ HBr.out) (fun hHeld => putN 157 ?_)
  clear hK K
  have sHS1003 := HS1003.out; have sHG1004 := HG1004.out; have sHF999 := HF999.out; have sHG1005 := HG1005.out; have sHF1001 := HF1001.out; have sHF1002 := HF1002.out; have sHS1011 := HS1011.out
  exact putsJ (hJ3_01 ((Ao990, co991), (Ao992, co993), (Ao1008, co1010), gb994, gb995) _ ⟨(zr5 HBr), latT HF996, latT HF997, latT HO1007, (by (with_reducible repeat (first | refine blk_drewN ?_ _ | refine blk_drew ?_ | refine blk_alloc ?_ _)); exact HF998.out), (show w_620.heap.size ≤ gb994 from by omega), (by (with_reducible repeat (first | refine blk_drewN ?_ _ | refine blk_drew ?_ | refine blk_alloc ?_ _)); exact HF1000.out), (show w_620.heap.size ≤ gb995 from by omega), (show gb994 ≠ gb995 from by omega)⟩)
 clear HBr hHeld
 rintro ⟨⟨Ao1013, co1014⟩, ⟨Ao1015, co1016⟩, ⟨Ao1017, co1018⟩, ⟨Ao1019, co1020⟩, ⟨Ao1021, co1022⟩, gb1023⟩ w_1012 ⟨h0_, h1_, h2_, h3_, h4_⟩
 try dsimp only at h0_ h1_ h2_ h3_ h4_
 have HBr := jA h0_
 have HF1024 := jA h1_
 have HF1025 := jA h2_
 have HF1026 := jA h3_
 have HF1027 := jA h4_
 clear h0_ h1_ h2_ h3_ h4_
 have HS1028 := jA HBr.out.size
 have HG1029 := jA (blk_lt HF1026.out)
 refine putsN ?_
 replace HB := jA (below_step HB0_.out HBr.out)
 refine one_ (i := 14) (N := some 25) m18_3fff8 rfl rfl (one_of HT_.out zr) (by decide) (fun K hK => ?_)
 ·skip
  refine boxN 25 #[.int .i64 0, .slice none 0 0] 28 ?_
  intro gb1032 hg_ w_1031 hbox hb
  have BK1030 := jA hbox
  have HGgb1032 := jA (blk_lt hbox)
  have HLgb1032 : Aside0 (w_1012.heap.size ≤ gb1032) := ⟨by rw [hg_]; exact Nat.le_refl _⟩
  clear hbox hg_
  have HBi := zJ w_1012 w_1031 hb
  clear hb
  have HS1033 := jA HBi.out.size
  replace HBr := jA (below_step HBr.out HBi.out)
  replace HF1024 := zA Kd.R_below HF1024 HBi
  replace HF1025 := zA Kd.R_below HF1025 HBi
  replace HF1026 := zA jO HF1026 HBi
  clear HBi
  refine hK.out _ _ (hSB_ _ HBr.out) (fun hHeld => putN 25 ?_)
  clear hK K
  have sHS1028 := HS1028.out; have sHG1029 := HG1029.out; have sHF1027 := HF1027.out; have sHS1033 := HS1033.out; have sHGgb1032 := HGgb1032.out; have sHLgb1032 := HLgb1032.out
  exact putsJ (hJ4_01 ((Ao1013, co1014), (Ao1015, co1016), (Ao1017, co1018), (Ao1019, co1020), (Ao1021, co1022), gb1023, gb1032) _ ⟨(zr5 HBr), latP HF1024, latP HF1025, (by (with_reducible repeat (first | refine blk_drewN ?_ _ | refine blk_drew ?_ | refine blk_alloc ?_ _)); exact HF1026.out), (show w_620.heap.size ≤ gb1023 from by omega), (zk BK1030), (show w_620.heap.size ≤ gb1032 from by omega), (show gb1023 ≠ gb1032 from by omega)⟩)
 clear HBr hHeld
 rintro ⟨⟨Ao1035, co1036⟩, ⟨Ao1037, co1038⟩, ⟨Ao1039, co1040⟩, ⟨Ao1041, co1042⟩, ⟨Ao1043, co1044⟩, gb1045⟩ w_1034 ⟨h0_, h1_, h2_, h3_, h4_⟩
 try dsimp only at h0_ h1_ h2_ h3_ h4_
 have HBr := jA h0_
 have HF1046 := jA h1_
 have HF1047 := jA h2_
 have HF1048 := jA h3_
 have HF1049 := jA h4_
 clear h0_ h1_ h2_ h3_ h4_
 have HS1050 := jA HBr.out.size
 have HG1051 := jA (blk_lt HF1048.out)
 refine putsN ?_
 replace HB := jA (below_step HB0_.out HBr.out)
 refine one_ (i := 13) (N := some 24) m18_3fff8 rfl rfl (one_of HT_.out zr) (by decide) (fun K hK => ?_)
 ·skip
  refine boxN 24 #[.int .i64 0, .slice none 0 0] 28 ?_
  intro gb1054 hg_ w_1053 hbox hb
  have BK1052 := jA hbox
  have HGgb1054 := jA (blk_lt hbox)
  have HLgb1054 : Aside0 (w_1034.heap.size ≤ gb1054) := ⟨by rw [hg_]; exact Nat.le_refl _⟩
  clear hbox hg_
  have HBi := zJ w_1034 w_1053 hb
  clear hb
  have HS1055 := jA HBi.out.size
  replace HBr := jA (below_step HBr.out HBi.out)
  replace HF1046 := zA Kd.R_below HF1046 HBi
  replace HF1047 := zA Kd.R_below HF1047 HBi
  replace HF1048 := zA jO HF1048 HBi
  clear HBi
  refine hK.out _ _ (hSB_ _ HBr.out) (fun hHeld => putN 24 ?_)
  clear hK K
  have sHS1050 := HS1050.out; have sHG1051 := HG1051.out; have sHF1049 := HF1049.out; have sHS1055 := HS1055.out; have sHGgb1054 := HGgb1054.out; have sHLgb1054 := HLgb1054.out
  exact putsJ (hJ4_01 ((Ao1035, co1036), (Ao1037, co1038), (Ao1039, co1040), (Ao1041, co1042), (Ao1043, co1044), gb1054, gb1045) _ ⟨(zr5 HBr), latP HF1046, latP HF1047, (zk BK1052), (show w_620.heap.size ≤ gb1054 from by omega), (by (with_reducible repeat (first | refine blk_drewN ?_ _ | refine blk_drew ?_ | refine blk_alloc ?_ _)); exact HF1048.out), (show w_620.heap.size ≤ gb1045 from by omega), (show gb1054 ≠ gb1045 from by omega)⟩)
 clear HBr hHeld
 rintro ⟨⟨Ao1057, co1058⟩, ⟨Ao1059, co1060⟩, ⟨Ao1061, co1062⟩, gb1063, gb1064⟩ w_1056 ⟨h0_, h1_, h2_, h3_, h4_, h5_, h6_, h7_, h8_⟩
 try dsimp only at h0_ h1_ h2_ h3_ h4_ h5_ h6_ h7_ h8_
 have HBr := jA h0_
 have HF1065 := jA h1_
 have HF1066 := jA h2_
 have HF1067 := jA h3_
 have HF1068 := jA h4_
 have HF1069 := jA h5_
 have HF1070 := jA h6_
 have HF1071 := jA h7_
 have HF1072 := jA h8_
 clear h0_ h1_ h2_ h3_ h4_ h5_ h6_ h7_ h8_
 have HS1073 := jA HBr.out.size
 have HG1074 := jA (blk_lt HF1068.out)
 have HG1075 := jA (blk_lt HF1070.out)
 refine putsN ?_
 replace HB := jA (below_step HB0_.out HBr.out)
 refine one_ (i := 8) (N := some 160) m18_3fe18 rfl rfl (one_of HT_.out zr) (by decide) (fun K hK => ?_)
 ·skip
  refine goes_ Try.func18 zr rfl #[.slice Ao1057 xs0.length co1058, .agg #[.int .i64 a1_0, .slice Ao1059 xs1_1.length co1060], .agg #[.int .i64 a2_0, .slice Ao1061 xs2_1.length co1062], .string a3, .int .i64 a4] (by rfl) rfl rfl zm ?_
  (with_reducible refine (impl_MovePieces.calls k _ _ xs0 a1_0 _ _ xs1_1 a2_0 _ _ xs2_1 a3 a4 res_r1 gs_r2 res_r3 gs_r4 res_r5 _ ?side1 ?side2 ?side3 ?side4 ?side5 ?side6 HFimpl.out).mono ?_)
  (case side1 => repeat (first | exact C_ext (jP HF1065.out).2.2 HXB0.out HLB0.out | (with_reducible refine Kd.C_alloc ?_ _) | (with_reducible refine Kd.C_drewN ?_ _) | (with_reducible refine Kd.C_drew ?_)))
  (case side2 => exact Nat.le_trans HLB0.out (jP HF1065.out).2.1)
  (case side3 => repeat (first | exact C_ext (jP HF1066.out).2.2 HXB1_1.out HLB1_1.out | (with_reducible refine Kd.C_alloc ?_ _) | (with_reducible refine Kd.C_drewN ?_ _) | (with_reducible refine Kd.C_drew ?_)))
  (case side4 => exact Nat.le_trans HLB1_1.out (jP HF1066.out).2.1)
  (case side5 => repeat (first | exact C_ext (jP HF1067.out).2.2 HXB2_1.out HLB2_1.out | (with_reducible refine Kd.C_alloc ?_ _) | (with_reducible refine Kd.C_drewN ?_ _) | (with_reducible refine Kd.C_drew ?_)))
  (case side6 => exact Nat.le_trans HLB2_1.out (jP HF1067.out).2.1)
  rintro e w_1076 ⟨v_1077, v_1078, rfl, ho1, ho2, hb⟩
  have hoA := jA (Kd.R_lower (R_own rfl ho1) (Nat.le_trans HB.out.size (zy : Below w_1056.heap.size w_1056 _).size))
  have hoB := jA (Kd.R_lower (R_near ho2) (Nat.le_trans HB.out.size (zy : Below w_1056.heap.size w_1056 _).size))
  clear ho1 ho2
  have HBi := zJ w_1056 w_1076 hb
  clear hb
  have HS1079 := jA HBi.out.size
  replace HBr := jA (below_step HBr.out HBi.out)
  replace HF1065 := zA Kd.R_below HF1065 HBi
  replace HF1066 := zA Kd.R_below HF1066 HBi
  replace HF1067 := zA Kd.R_below HF1067 HBi
  replace HF1068 := zA jO HF1068 HBi
  replace HF1070 := zA jO HF1070 HBi
  clear HBi
  obtain ⟨Ao1081, co1082, eo1083⟩ := Kd.R_slice hoA.out
  subst eo1083
  obtain ⟨Ao1085, co1086, eo1087⟩ := Kd.R_slice hoB.out
  subst eo1087
  have HO1080 := jA (Kd.R_mono (ok' := fun k_ => (w_1056.heap.size ≤ k_ ∧ k_ < w_1076.heap.size) ∧ some k_ = (Value.slice Ao1081 gs_r2.length co1082).ownBlock) hoA.out (fun k_ hk_ => hk_))
  clear hoA
  have HO1084 := jA (Kd.R_mono (ok' := fun k_ => (w_1056.heap.size ≤ k_ ∧ k_ < w_1076.heap.size) ∧ some k_ ≠ (Value.slice Ao1081 gs_r2.length co1082).ownBlock) hoB.out (fun k_ hk_ => hk_))
  clear hoB
  refine ⟨_, rfl, ?_⟩
  refine hK.out _ _ (hSB_ _ HBr.out) (fun hHeld => putN 160 ?_)
  clear hK K
  refine zp HT_ 9 151 m18_3ff18 ?_
  refine zp HT_ 10 161 m18_3ff98 ?_
  refine zp HT_ 11 162 m18_3ffd8 ?_
  refine zp HT_ 12 163 m18_3fff8 ?_
  have sHS1073 := HS1073.out; have sHG1074 := HG1074.out; have sHF1069 := HF1069.out; have sHG1075 := HG1075.out; have sHF1071 := HF1071.out; have sHF1072 := HF1072.out; have sHS1079 := HS1079.out
  exact putsJ (hJ4_01 ((Ao1057, co1058), (Ao1059, co1060), (Ao1061, co1062), (Ao1081, co1082), (Ao1085, co1086), gb1063, gb1064) _ ⟨(zr5 HBr), latP HO1080, latP HO1084, (by (with_reducible repeat (first | refine blk_drewN ?_ _ | refine blk_drew ?_ | refine blk_alloc ?_ _)); exact HF1068.out), (show w_620.heap.size ≤ gb1063 from by omega), (by (with_reducible repeat (first | refine blk_drewN ?_ _ | refine blk_drew ?_ | refine blk_alloc ?_ _)); exact HF1070.out), (show w_620.heap.size ≤ gb1064 from by omega), (show gb1063 ≠ gb1064 from by omega)⟩)
 clear HBr hHeld
 rintro ⟨⟨Ao1089, co1090⟩, ⟨Ao1091, co1092⟩, ⟨Ao1093, co1094⟩, ⟨Ao1095, co1096⟩, ⟨Ao1097, co1098⟩, gb1099, gb1100⟩ w_1088 ⟨h0_, h1_, h2_, h3_, h4_, h5_, h6_, h7_⟩
 try dsimp only at h0_ h1_ h2_ h3_ h4_ h5_ h6_ h7_
 have HBr := jA h0_
 have HF1101 := jA h1_
 have HF1102 := jA h2_
 have HF1103 := jA h3_
 have HF1104 := jA h4_
 have HF1105 := jA h5_
 have HF1106 := jA h6_
 have HF1107 := jA h7_
 clear h0_ h1_ h2_ h3_ h4_ h5_ h6_ h7_
 have HS1108 := jA HBr.out.size
 have HG1109 := jA (blk_lt HF1103.out)
 have HG1110 := jA (blk_lt HF1105.out)
 refine putsN ?_
 have hb := HBr.out
 have HBi := zJ w_620 w_1088 hb
 clear hb
 have HBn := jA (below_step HB.out HBi.out)
 clear HB
 have HB := HBn
 clear HBn
 have HS1111 := jA HBi.out.size
 replace BK2 := zA jO BK2 HBi
 replace BK5 := zA jO BK5 HBi
 replace HF484 := zA Kd.R_below HF484 HBi
 replace HF485 := zA Kd.R_below HF485 HBi
 replace HF486 := zA jO HF486 HBi
 replace HF488 := zA jO HF488 HBi
 replace BK516 := zA jO BK516 HBi
 replace BK530 := zA jO BK530 HBi
 replace HO541 := zA Kd.R_below HO541 HBi
 replace HO545 := zA Kd.R_below HO545 HBi
 replace BK552 := zA jO BK552 HBi
 replace BK555 := zA jO BK555 HBi
 clear HBi
 have HWw_1088 := jA HB.out.size
 clear HBr HB0_ hSB_
 obtain ⟨P1112, hP_⟩ : ∃ P : Option Nat, P = (Value.slice Ao1095 gs_r2.length co1096).ownBlock := ⟨_, rfl⟩
 have n0_ := jA HF1101.out
 rw [← hP_] at n0_
 clear HF1101
 have HF1101 := n0_
 clear n0_
 have n0_ := jA HF1102.out
 rw [← hP_] at n0_
 clear HF1102
 have HF1102 := n0_
 clear n0_
 clear hP_
 refine one_ (i := 15) (N := none) m18_3fffc rfl rfl (one_of HT_.out zr) (by decide) (fun K hK => ?_)
 have hcz1099 := zc2 HF1103
 have hnegb1 := Nat.ne_of_lt (Nat.lt_of_lt_of_le HLTgb1.out HF1104.out)
 have hnfgb1 := hnegb1.symm
 have hnegb4 := Nat.ne_of_lt (Nat.lt_of_lt_of_le HLTgb4.out HF1104.out)
 have hnfgb4 := hnegb4.symm
 have hnegb482 := Nat.ne_of_lt (Nat.lt_of_lt_of_le HLTgb482.out HF1104.out)
 have hnfgb482 := hnegb482.symm
 have hnegb483 := Nat.ne_of_lt (Nat.lt_of_lt_of_le HLTgb483.out HF1104.out)
 have hnfgb483 := hnegb483.symm
 have hnegb515 := Nat.ne_of_lt (Nat.lt_of_lt_of_le HLTgb515.out HF1104.out)
 have hnfgb515 := hnegb515.symm
 have hnegb529 := Nat.ne_of_lt (Nat.lt_of_lt_of_le HLTgb529.out HF1104.out)
 have hnfgb529 := hnegb529.symm
 have hnegb551 := Nat.ne_of_lt (Nat.lt_of_lt_of_le HLTgb551.out HF1104.out)
 have hnfgb551 := hnegb551.symm
 have hnegb554 := Nat.ne_of_lt (Nat.lt_of_lt_of_le HLTgb554.out HF1104.out)
 have hnfgb554 := hnegb554.symm
 refine skip_ (w1 := ?_) (by rfl) rfl ?_ ?_
 rotate_left
 ·go_simp
  rfl
 refine hK.out _ _ ⟨((jL (p := ⟨gb1099, _, none⟩) hnegb1 _).trans ((jL (p := ⟨gb1099, _, none⟩) hnegb1 _).trans ((jD BK2.out 0).trans rfl))), ((jL (p := ⟨gb1099, _, none⟩) hnegb1 _).trans ((jL (p := ⟨gb1099, _, none⟩) hnegb1 _).trans ((jD BK2.out 1).trans rfl))), ((jL (p := ⟨gb1099, _, none⟩) hnegb4 _).trans ((jL (p := ⟨gb1099, _, none⟩) hnegb4 _).trans ((jD BK5.out 0).trans rfl))), ((jL (p := ⟨gb1099, _, none⟩) hnegb4 _).trans ((jL (p := ⟨gb1099, _, none⟩) hnegb4 _).trans ((jD BK5.out 1).trans rfl))), ((jL (p := ⟨gb1099, _, none⟩) hnegb482 _).trans ((jL (p := ⟨gb1099, _, none⟩) hnegb482 _).trans ((jD HF486.out 0).trans rfl))), ((jL (p := ⟨gb1099, _, none⟩) hnegb482 _).trans ((jL (p := ⟨gb1099, _, none⟩) hnegb482 _).trans ((jD HF486.out 1).trans rfl))), ((jL (p := ⟨gb1099, _, none⟩) hnegb483 _).trans ((jL (p := ⟨gb1099, _, none⟩) hnegb483 _).trans ((jD HF488.out 0).trans rfl))), ((jL (p := ⟨gb1099, _, none⟩) hnegb483 _).trans ((jL (p := ⟨gb1099, _, none⟩) hnegb483 _).trans ((jD HF488.out 1).trans rfl))), ((jL (p := ⟨gb1099, _, none⟩) hnegb515 _).trans ((jL (p := ⟨gb1099, _, none⟩) hnegb515 _).trans ((jD BK516.out 0).trans rfl))), ((jL (p := ⟨gb1099, _, none⟩) hnegb515 _).trans ((jL (p := ⟨gb1099, _, none⟩) hnegb515 _).trans ((jD BK516.out 1).trans rfl))), ((jL (p := ⟨gb1099, _, none⟩) hnegb529 _).trans ((jL (p := ⟨gb1099, _, none⟩) hnegb529 _).trans ((jD BK530.out 0).trans rfl))), ((jL (p := ⟨gb1099, _, none⟩) hnegb529 _).trans ((jL (p := ⟨gb1099, _, none⟩) hnegb529 _).trans ((jD BK530.out 1).trans rfl))), ((jL (p := ⟨gb1099, _, none⟩) hnegb551 _).trans ((jL (p := ⟨gb1099, _, none⟩) hnegb551 _).trans ((jD BK552.out 0).trans rfl))), ((jL (p := ⟨gb1099, _, none⟩) hnegb551 _).trans ((jL (p := ⟨gb1099, _, none⟩) hnegb551 _).trans ((jD BK552.out 1).trans rfl))), ((jL (p := ⟨gb1099, _, none⟩) hnegb554 _).trans ((jL (p := ⟨gb1099, _, none⟩) hnegb554 _).trans ((jD BK555.out 0).trans rfl))), ((jL (p := ⟨gb1099, _, none⟩) hnegb554 _).trans ((jL (p := ⟨gb1099, _, none⟩) hnegb554 _).trans ((jD BK555.out 1).trans rfl)))⟩ (fun hHeld => ?_)
 clear hK K hHeld hnegb1 hnfgb1 hnegb4 hnfgb4 hnegb482 hnfgb482 hnegb483 hnfgb483 hnegb515 hnfgb515 hnegb529 hnfgb529 hnegb551 hnfgb551 hnegb554 hnfgb554
 try clear hcz1099
 have HLgb1099 : Aside0 (w_620.heap.size ≤ gb1099) := HF1104
 generalize hq_ : World.setCell (World.setCell w_1088 ⟨gb1099, 0, none⟩ (.int .i64 res_r1)) ⟨gb1099, 1, none⟩ (.slice Ao1095 gs_r2.length co1096) = w_1114
 have hk1 : Aside0 (Kept w_1088 w_1114 (fun k_ => k_ = gb1099)) := ⟨by rw [← hq_]; exact Kept.then_ (kept_set w_1088 gb1099 0 _) (kept_set (World.setCell w_1088 ⟨gb1099, 0, none⟩ (.int .i64 res_r1)) gb1099 1 _) (fun _ h_ => .inl h_)⟩
 have hz_ : w.heap.size ≤ w_620.heap.size := HWw_620.out
 replace HB : Aside0 (Below w.heap.size w w_1114) := ⟨by rw [← hq_]; exact (below_set (below_set HB.out (Nat.le_trans hz_ HLgb1099.out)) (Nat.le_trans hz_ HLgb1099.out))⟩
 clear hz_
 replace HF1103 : Aside0 (w_1114.heap[gb1099]? = some (.cells #[.int .i64 res_r1, .slice Ao1095 gs_r2.length co1096] 28 (0, 0))) := ⟨by rw [← hq_]; exact (blk_put (cs := #[.int .i64 res_r1, .slice none 0 0]) (blk_put (cs := #[.int .i64 0, .slice none 0 0]) HF1103.out 0 _ rfl) 1 _ rfl)⟩
 clear hq_
 have HS1115 := jA hk1.out.1
 have HSZ1116 := jA (And.intro HSZ615.out (And.intro HS617.out (And.intro HS619.out (And.intro HS621.out (And.intro HS1111.out (And.intro HS1108.out (And.intro HG1109.out (And.intro HF1104.out (And.intro HG1110.out (And.intro HF1106.out (And.intro HF1107.out (HS1115.out))))))))))))
 clear HSZ615
 have sz_ := HSZ1116.out
 replace BK2 := zH hk1 BK2
 replace BK5 := zH hk1 BK5
 replace HF484 := jA (Kd.R_kept HF484.out hk1.out (fun k_ (h1_ : (w_15.heap.size ≤ k_ ∧ k_ < w_471.heap.size) ∧ some k_ = P495) (h2_ : k_ = gb1099) => by have qh1_ := h1_.1; omega))
 replace HF485 := jA (Kd.R_kept HF485.out hk1.out (fun k_ (h1_ : (w_15.heap.size ≤ k_ ∧ k_ < w_471.heap.size) ∧ some k_ ≠ P495) (h2_ : k_ = gb1099) => by have qh1_ := h1_.1; omega))
 replace HF486 := zH hk1 HF486
 replace HF488 := zH hk1 HF488
 replace BK516 := zH hk1 BK516
 replace BK530 := zH hk1 BK530
 replace HO541 := jA (Kd.R_kept HO541.out hk1.out (fun k_ (h1_ : (w_534.heap.size ≤ k_ ∧ k_ < w_537.heap.size) ∧ some k_ = P549) (h2_ : k_ = gb1099) => by have qh1_ := h1_.1; omega))
 replace HO545 := jA (Kd.R_kept HO545.out hk1.out (fun k_ (h1_ : (w_534.heap.size ≤ k_ ∧ k_ < w_537.heap.size) ∧ some k_ ≠ P549) (h2_ : k_ = gb1099) => by have qh1_ := h1_.1; omega))
 replace BK552 := zH hk1 BK552
 replace BK555 := zH hk1 BK555
 replace HF1101 := jA (Kd.R_kept HF1101.out hk1.out (fun k_ (h1_ : ((w_620.heap.size ≤ k_ ∧ k_ < w_1088.heap.size) ∧ k_ ≠ gb1099 ∧ k_ ≠ gb1100) ∧ some k_ = P1112) (h2_ : k_ = gb1099) => by have qh1_ := h1_.1; omega))
 replace HF1102 := jA (Kd.R_kept HF1102.out hk1.out (fun k_ (h1_ : ((w_620.heap.size ≤ k_ ∧ k_ < w_1088.heap.size) ∧ k_ ≠ gb1099 ∧ k_ ≠ gb1100) ∧ some k_ ≠ P1112) (h2_ : k_ = gb1099) => by have qh1_ := h1_.1; omega))
 replace HF1105 := zH hk1 HF1105
 clear sz_
 clear hk1
 have HWw_1114 := jA HB.out.size
 refine one_ (i := 16) (N := none) m18_3fffe rfl rfl (one_of HT_.out zr) (by decide) (fun K hK => ?_)
 have hcz1100 := zc2 HF1105
 have hnegb1 := Nat.ne_of_lt (Nat.lt_of_lt_of_le HLTgb1.out HF1106.out)
 have hnfgb1 := hnegb1.symm
 have hnegb4 := Nat.ne_of_lt (Nat.lt_of_lt_of_le HLTgb4.out HF1106.out)
 have hnfgb4 := hnegb4.symm
 have hnegb482 := Nat.ne_of_lt (Nat.lt_of_lt_of_le HLTgb482.out HF1106.out)
 have hnfgb482 := hnegb482.symm
 have hnegb483 := Nat.ne_of_lt (Nat.lt_of_lt_of_le HLTgb483.out HF1106.out)
 have hnfgb483 := hnegb483.symm
 have hnegb515 := Nat.ne_of_lt (Nat.lt_of_lt_of_le HLTgb515.out HF1106.out)
 have hnfgb515 := hnegb515.symm
 have hnegb529 := Nat.ne_of_lt (Nat.lt_of_lt_of_le HLTgb529.out HF1106.out)
 have hnfgb529 := hnegb529.symm
 have hnegb551 := Nat.ne_of_lt (Nat.lt_of_lt_of_le HLTgb551.out HF1106.out)
 have hnfgb551 := hnegb551.symm
 have hnegb554 := Nat.ne_of_lt (Nat.lt_of_lt_of_le HLTgb554.out HF1106.out)
 have hnfgb554 := hnegb554.symm
 refine skip_ (w1 := ?_) (by rfl) rfl ?_ ?_
 rotate_left
 ·go_simp
  rfl
 refine hK.out _ _ ⟨((jL (p := ⟨gb1100, _, none⟩) hnegb1 _).trans ((jL (p := ⟨gb1100, _, none⟩) hnegb1 _).trans ((jD BK2.out 0).trans rfl))), ((jL (p := ⟨gb1100, _, none⟩) hnegb1 _).trans ((jL (p := ⟨gb1100, _, none⟩) hnegb1 _).trans ((jD BK2.out 1).trans rfl))), ((jL (p := ⟨gb1100, _, none⟩) hnegb4 _).trans ((jL (p := ⟨gb1100, _, none⟩) hnegb4 _).trans ((jD BK5.out 0).trans rfl))), ((jL (p := ⟨gb1100, _, none⟩) hnegb4 _).trans ((jL (p := ⟨gb1100, _, none⟩) hnegb4 _).trans ((jD BK5.out 1).trans rfl))), ((jL (p := ⟨gb1100, _, none⟩) hnegb482 _).trans ((jL (p := ⟨gb1100, _, none⟩) hnegb482 _).trans ((jD HF486.out 0).trans rfl))), ((jL (p := ⟨gb1100, _, none⟩) hnegb482 _).trans ((jL (p := ⟨gb1100, _, none⟩) hnegb482 _).trans ((jD HF486.out 1).trans rfl))), ((jL (p := ⟨gb1100, _, none⟩) hnegb483 _).trans ((jL (p := ⟨gb1100, _, none⟩) hnegb483 _).trans ((jD HF488.out 0).trans rfl))), ((jL (p := ⟨gb1100, _, none⟩) hnegb483 _).trans ((jL (p := ⟨gb1100, _, none⟩) hnegb483 _).trans ((jD HF488.out 1).trans rfl))), ((jL (p := ⟨gb1100, _, none⟩) hnegb515 _).trans ((jL (p := ⟨gb1100, _, none⟩) hnegb515 _).trans ((jD BK516.out 0).trans rfl))), ((jL (p := ⟨gb1100, _, none⟩) hnegb515 _).trans ((jL (p := ⟨gb1100, _, none⟩) hnegb515 _).trans ((jD BK516.out 1).trans rfl))), ((jL (p := ⟨gb1100, _, none⟩) hnegb529 _).trans ((jL (p := ⟨gb1100, _, none⟩) hnegb529 _).trans ((jD BK530.out 0).trans rfl))), ((jL (p := ⟨gb1100, _, none⟩) hnegb529 _).trans ((jL (p := ⟨gb1100, _, none⟩) hnegb529 _).trans ((jD BK530.out 1).trans rfl))), ((jL (p := ⟨gb1100, _, none⟩) hnegb551 _).trans ((jL (p := ⟨gb1100, _, none⟩) hnegb551 _).trans ((jD BK552.out 0).trans rfl))), ((jL (p := ⟨gb1100, _, none⟩) hnegb551 _).trans ((jL (p := ⟨gb1100, _, none⟩) hnegb551 _).trans ((jD BK552.out 1).trans rfl))), ((jL (p := ⟨gb1100, _, none⟩) hnegb554 _).trans ((jL (p := ⟨gb1100, _, none⟩) hnegb554 _).trans ((jD BK555.out 0).trans rfl))), ((jL (p := ⟨gb1100, _, none⟩) hnegb554 _).trans ((jL (p := ⟨gb1100, _, none⟩) hnegb554 _).trans ((jD BK555.out 1).trans rfl)))⟩ (fun hHeld => ?_)
 clear hK K hHeld hnegb1 hnfgb1 hnegb4 hnfgb4 hnegb482 hnfgb482 hnegb483 hnfgb483 hnegb515 hnfgb515 hnegb529 hnfgb529 hnegb551 hnfgb551 hnegb554 hnfgb554
 try clear hcz1100
 have HLgb1100 : Aside0 (w_620.heap.size ≤ gb1100) := HF1106
 generalize hq_ : World.setCell (World.setCell w_1114 ⟨gb1100, 0, none⟩ (.int .i64 res_r3)) ⟨gb1100, 1, none⟩ (.slice Ao1097 gs_r4.length co1098) = w_1117
 have hk1 : Aside0 (Kept w_1114 w_1117 (fun k_ => k_ = gb1100)) := ⟨by rw [← hq_]; exact Kept.then_ (kept_set w_1114 gb1100 0 _) (kept_set (World.setCell w_1114 ⟨gb1100, 0, none⟩ (.int .i64 res_r3)) gb1100 1 _) (fun _ h_ => .inl h_)⟩
 have hz_ : w.heap.size ≤ w_620.heap.size := HWw_620.out
 replace HB : Aside0 (Below w.heap.size w w_1117) := ⟨by rw [← hq_]; exact (below_set (below_set HB.out (Nat.le_trans hz_ HLgb1100.out)) (Nat.le_trans hz_ HLgb1100.out))⟩
 clear hz_
 replace HF1105 : Aside0 (w_1117.heap[gb1100]? = some (.cells #[.int .i64 res_r3, .slice Ao1097 gs_r4.length co1098] 28 (0, 0))) := ⟨by rw [← hq_]; exact (blk_put (cs := #[.int .i64 res_r3, .slice none 0 0]) (blk_put (cs := #[.int .i64 0, .slice none 0 0]) HF1105.out 0 _ rfl) 1 _ rfl)⟩
 clear hq_
 have HS1118 := jA hk1.out.1
 have HSZ1119 := jA (And.intro HSZ1116.out (HS1118.out))
 clear HSZ1116
 have sz_ := HSZ1119.out
 replace BK2 := zH hk1 BK2
 replace BK5 := zH hk1 BK5
 replace HF484 := jA (Kd.R_kept HF484.out hk1.out (fun k_ (h1_ : (w_15.heap.size ≤ k_ ∧ k_ < w_471.heap.size) ∧ some k_ = P495) (h2_ : k_ = gb1100) => by have qh1_ := h1_.1; omega))
 replace HF485 := jA (Kd.R_kept HF485.out hk1.out (fun k_ (h1_ : (w_15.heap.size ≤ k_ ∧ k_ < w_471.heap.size) ∧ some k_ ≠ P495) (h2_ : k_ = gb1100) => by have qh1_ := h1_.1; omega))
 replace HF486 := zH hk1 HF486
 replace HF488 := zH hk1 HF488
 replace BK516 := zH hk1 BK516
 replace BK530 := zH hk1 BK530
 replace HO541 := jA (Kd.R_kept HO541.out hk1.out (fun k_ (h1_ : (w_534.heap.size ≤ k_ ∧ k_ < w_537.heap.size) ∧ some k_ = P549) (h2_ : k_ = gb1100) => by have qh1_ := h1_.1; omega))
 replace HO545 := jA (Kd.R_kept HO545.out hk1.out (fun k_ (h1_ : (w_534.heap.size ≤ k_ ∧ k_ < w_537.heap.size) ∧ some k_ ≠ P549) (h2_ : k_ = gb1100) => by have qh1_ := h1_.1; omega))
 replace BK552 := zH hk1 BK552
 replace BK555 := zH hk1 BK555
 replace HF1101 := jA (Kd.R_kept HF1101.out hk1.out (fun k_ (h1_ : ((w_620.heap.size ≤ k_ ∧ k_ < w_1088.heap.size) ∧ k_ ≠ gb1099 ∧ k_ ≠ gb1100) ∧ some k_ = P1112) (h2_ : k_ = gb1100) => by have qh1_ := h1_.1; omega))
 replace HF1102 := jA (Kd.R_kept HF1102.out hk1.out (fun k_ (h1_ : ((w_620.heap.size ≤ k_ ∧ k_ < w_1088.heap.size) ∧ k_ ≠ gb1099 ∧ k_ ≠ gb1100) ∧ some k_ ≠ P1112) (h2_ : k_ = gb1100) => by have qh1_ := h1_.1; omega))
 replace HF1103 := zH hk1 HF1103
 clear sz_
 clear hk1
 have HWw_1117 := jA HB.out.size
 refine zp HT_ 17 26 m18_3ffff ?_
 refine done_ (done_of HT_.out zr) ?_
 replace HF1101 := jA (Kd.R_mono (ok' := fun k_ => (w_620.heap.size ≤ k_ ∧ k_ < w_1088.heap.size) ∧ some k_ = P1112) HF1101.out (fun k_ (h_ : ((w_620.heap.size ≤ k_ ∧ k_ < w_1088.heap.size) ∧ k_ ≠ gb1099 ∧ k_ ≠ gb1100) ∧ some k_ = P1112) => ⟨h_.1.1, h_.2⟩))
 replace HF1102 := jA (Kd.R_mono (ok' := fun k_ => (w_620.heap.size ≤ k_ ∧ k_ < w_1088.heap.size) ∧ some k_ ≠ P1112) HF1102.out (fun k_ (h_ : ((w_620.heap.size ≤ k_ ∧ k_ < w_1088.heap.size) ∧ k_ ≠ gb1099 ∧ k_ ≠ gb1100) ∧ some k_ ≠ P1112) => ⟨h_.1.1, h_.2⟩))
 have hcz1 := zc2 BK2
 have hcz4 := zc2 BK5
 have hcz482 := zc2 HF486
 have hcz483 := zc2 HF488
 have hcz515 := zc2 BK516
 have hcz529 := zc2 BK530
 have hcz551 := zc2 BK552
 have hcz554 := zc2 BK555
 have hcz1099 := zc2 HF1103
 have hcz1100 := zc2 HF1105
 go_wp2_with (fail)
 try clear hcz1
 try clear hcz4
 try clear hcz482
 try clear hcz483
 try clear hcz515
 try clear hcz529
 try clear hcz551
 try clear hcz554
 try clear hcz1099
 try clear hcz1100
 go_at_call 19
 (with_reducible refine (laws_eqMagazine.calls k res_r1 _ _ gs_r2 res_r1 _ _ ws_r2 true _ ?side1 ?side2 ?side3 ?side4 HE_gs_r2_ws_r2.out).mono ?_)
 (case side1 => exact zv HF1101)
 (case side2 => exact (jP HF1101.out).2.1)
 (case side3 => exact zv HF484)
 (case side4 => exact (jP HF484.out).2.1)
 rintro e w_1120 ⟨rfl, hb⟩
 have HBi := zJ w_1117 w_1120 hb
 clear hb
 have HBn := jA (below_step HB.out HBi.out)
 clear HB
 have HB := HBn
 clear HBn
 have HS1121 := jA HBi.out.size
 replace BK2 := zA jO BK2 HBi
 replace BK5 := zA jO BK5 HBi
 replace HF484 := zA Kd.R_below HF484 HBi
 replace HF485 := zA Kd.R_below HF485 HBi
 replace HF486 := zA jO HF486 HBi
 replace HF488 := zA jO HF488 HBi
 replace BK516 := zA jO BK516 HBi
 replace BK530 := zA jO BK530 HBi
 replace HO541 := zA Kd.R_below HO541 HBi
 replace HO545 := zA Kd.R_below HO545 HBi
 replace BK552 := zA jO BK552 HBi
 replace BK555 := zA jO BK555 HBi
 replace HF1101 := zA Kd.R_below HF1101 HBi
 replace HF1102 := zA Kd.R_below HF1102 HBi
 replace HF1103 := zA jO HF1103 HBi
 replace HF1105 := zA jO HF1105 HBi
 clear HBi
 have HWw_1120 := jA HB.out.size
 have hcz1 := zc2 BK2
 have hcz4 := zc2 BK5
 have hcz482 := zc2 HF486
 have hcz483 := zc2 HF488
 have hcz515 := zc2 BK516
 have hcz529 := zc2 BK530
 have hcz551 := zc2 BK552
 have hcz554 := zc2 BK555
 have hcz1099 := zc2 HF1103
 have hcz1100 := zc2 HF1105
 go_wp2_with (fail)
 try clear hcz1
 try clear hcz4
 try clear hcz482
 try clear hcz483
 try clear hcz515
 try clear hcz529
 try clear hcz551
 try clear hcz554
 try clear hcz1099
 try clear hcz1100
 go_at_call 19
 (with_reducible refine (laws_eqMagazine.calls k res_r3 _ _ gs_r4 res_r3 _ _ ws_r4 true _ ?side1 ?side2 ?side3 ?side4 HE_gs_r4_ws_r4.out).mono ?_)
 (case side1 => exact zv HF1102)
 (case side2 => exact (jP HF1102.out).2.1)
 (case side3 => exact zv HF485)
 (case side4 => exact (jP HF485.out).2.1)
 rintro e w_1122 ⟨rfl, hb⟩
 have HBi := zJ w_1120 w_1122 hb
 clear hb
 have HBn := jA (below_step HB.out HBi.out)
 clear HB
 have HB := HBn
 clear HBn
 have HS1123 := jA HBi.out.size
 replace BK2 := zA jO BK2 HBi
 replace BK5 := zA jO BK5 HBi
 replace HF484 := zA Kd.R_below HF484 HBi
 replace HF485 := zA Kd.R_below HF485 HBi
 replace HF486 := zA jO HF486 HBi
 replace HF488 := zA jO HF488 HBi
 replace BK516 := zA jO BK516 HBi
 replace BK530 := zA jO BK530 HBi
 replace HO541 := zA Kd.R_below HO541 HBi
 replace HO545 := zA Kd.R_below HO545 HBi
 replace BK552 := zA jO BK552 HBi
 replace BK555 := zA jO BK555 HBi
 replace HF1101 := zA Kd.R_below HF1101 HBi
 replace HF1102 := zA Kd.R_below HF1102 HBi
 replace HF1103 := zA jO HF1103 HBi
 replace HF1105 := zA jO HF1105 HBi
 clear HBi
 have HWw_1122 := jA HB.out.size
 have hcz1 := zc2 BK2
 have hcz4 := zc2 BK5
 have hcz482 := zc2 HF486
 have hcz483 := zc2 HF488
 have hcz515 := zc2 BK516
 have hcz529 := zc2 BK530
 have hcz551 := zc2 BK552
 have hcz554 := zc2 BK555
 have hcz1099 := zc2 HF1103
 have hcz1100 := zc2 HF1105
 go_wp2_with (fail)
 try clear hcz1
 try clear hcz4
 try clear hcz482
 try clear hcz483
 try clear hcz515
 try clear hcz529
 try clear hcz551
 try clear hcz554
 try clear hcz1099
 try clear hcz1100
 go_at_call 24
 (with_reducible refine (laws_heldMagazine.calls k res_r1 _ _ ml_3 101 mk_3 _ ?side1 ?side2 HH_ml_3.out).mono ?_)
 (case side1 => exact zv HO541)
 (case side2 => exact (jP HO541.out).2.1)
 rintro e w_1124 ⟨rfl, hb⟩
 have HBi := zJ w_1122 w_1124 hb
 clear hb
 have HBn := jA (below_step HB.out HBi.out)
 clear HB
 have HB := HBn
 clear HBn
 have HS1125 := jA HBi.out.size
 replace BK2 := zA jO BK2 HBi
 replace BK5 := zA jO BK5 HBi
 replace HF484 := zA Kd.R_below HF484 HBi
 replace HF485 := zA Kd.R_below HF485 HBi
 replace HF486 := zA jO HF486 HBi
 replace HF488 := zA jO HF488 HBi
 replace BK516 := zA jO BK516 HBi
 replace BK530 := zA jO BK530 HBi
 replace HO541 := zA Kd.R_below HO541 HBi
 replace HO545 := zA Kd.R_below HO545 HBi
 replace BK552 := zA jO BK552 HBi
 replace BK555 := zA jO BK555 HBi
 replace HF1101 := zA Kd.R_below HF1101 HBi
 replace HF1102 := zA Kd.R_below HF1102 HBi
 replace HF1103 := zA jO HF1103 HBi
 replace HF1105 := zA jO HF1105 HBi
 clear HBi
 have HWw_1124 := jA HB.out.size
 have hn_ := HMN3.out
 have hcz1 := zc2 BK2
 have hcz4 := zc2 BK5
 have hcz482 := zc2 HF486
 have hcz483 := zc2 HF488
 have hcz515 := zc2 BK516
 have hcz529 := zc2 BK530
 have hcz551 := zc2 BK552
 have hcz554 := zc2 BK555
 have hcz1099 := zc2 HF1103
 have hcz1100 := zc2 HF1105
 go_wp2_with (fail)
 try clear hcz1
 try clear hcz4
 try clear hcz482
 try clear hcz483
 try clear hcz515
 try clear hcz529
 try clear hcz551
 try clear hcz554
 try clear hcz1099
 try clear hcz1100
 clear hn_
 have hcz1 := zc2 BK2
 have hcz4 := zc2 BK5
 have hcz482 := zc2 HF486
 have hcz483 := zc2 HF488
 have hcz515 := zc2 BK516
 have hcz529 := zc2 BK530
 have hcz551 := zc2 BK552
 have hcz554 := zc2 BK555
 have hcz1099 := zc2 HF1103
 have hcz1100 := zc2 HF1105
 go_wp2_with (fail)
 try clear hcz1
 try clear hcz4
 try clear hcz482
 try clear hcz483
 try clear hcz515
 try clear hcz529
 try clear hcz551
 try clear hcz554
 try clear hcz1099
 try clear hcz1100
 go_at_call 24
 (with_reducible refine (laws_heldMagazine.calls k res_r3 _ _ ml_4 mk_3 mk_4 _ ?side1 ?side2 HH_ml_4.out).mono ?_)
 (case side1 => exact zv HO545)
 (case side2 => exact (jP HO545.out).2.1)
 rintro e w_1126 ⟨rfl, hb⟩
 have HBi := zJ w_1124 w_1126 hb
 clear hb
 have HBn := jA (below_step HB.out HBi.out)
 clear HB
 have HB := HBn
 clear HBn
 have HS1127 := jA HBi.out.size
 replace BK2 := zA jO BK2 HBi
 replace BK5 := zA jO BK5 HBi
 replace HF484 := zA Kd.R_below HF484 HBi
 replace HF485 := zA Kd.R_below HF485 HBi
 replace HF486 := zA jO HF486 HBi
 replace HF488 := zA jO HF488 HBi
 replace BK516 := zA jO BK516 HBi
 replace BK530 := zA jO BK530 HBi
 replace HO541 := zA Kd.R_below HO541 HBi
 replace HO545 := zA Kd.R_below HO545 HBi
 replace BK552 := zA jO BK552 HBi
 replace BK555 := zA jO BK555 HBi
 replace HF1101 := zA Kd.R_below HF1101 HBi
 replace HF1102 := zA Kd.R_below HF1102 HBi
 replace HF1103 := zA jO HF1103 HBi
 replace HF1105 := zA jO HF1105 HBi
 clear HBi
 have HWw_1126 := jA HB.out.size
 have hn_ := HMN4.out
 have hcz1 := zc2 BK2
 have hcz4 := zc2 BK5
 have hcz482 := zc2 HF486
 have hcz483 := zc2 HF488
 have hcz515 := zc2 BK516
 have hcz529 := zc2 BK530
 have hcz551 := zc2 BK552
 have hcz554 := zc2 BK555
 have hcz1099 := zc2 HF1103
 have hcz1100 := zc2 HF1105
 go_wp2_with (fail)
 try clear hcz1
 try clear hcz4
 try clear hcz482
 try clear hcz483
 try clear hcz515
 try clear hcz529
 try clear hcz551
 try clear hcz554
 try clear hcz1099
 try clear hcz1100
 clear hn_
 go_wp2
 go_ret
 exact ⟨by first | rfl | (simp; done) | (simp [*]; done), zb0 HB⟩

/-- What is to be told of the answers, for the law to tell true. -/
structure laws_FnExactMovePieces.Facts (k : Nat) (l0 : List (S62)) (a1_0 : Int) (l1_1 : List Int) (a2_0 : Int) (l2_1 : List Int) (a3 : ByteArray) (a4 : Int) (xs0 : List (S65)) (ext0 : List (S65)) (extb0 : List (S65)) (rm0 : Int) (xs1_1 : List Int) (ext1_1 : List Int) (extb1_1 : List Int) (rm1_1 : Int) (xs2_1 : List Int) (ext2_1 : List Int) (extb2_1 : List Int) (rm2_1 : Int) (t_1 : Int) (t_2 : Int) (t_3 : Int) (res_r1 : Int) (ws_r2 : List Int) (res_r3 : Int) (ws_r4 : List Int) (res_r5 : Int) (gs_r2 : List Int) (gs_r4 : List Int) (mk_0 : Int) (ml_0 : List (S65)) (mk_1 : Int) (ml_1 : List Int) (mk_2 : Int) (ml_2 : List Int) (mk_3 : Int) (ml_3 : List Int) (mk_4 : Int) (ml_4 : List Int) : Prop where
 hto0 : laws_toArticleSX.f k l0 false = some ext0
 htob0 : laws_toArticleSX.f k l0 true = some extb0
 hxl0 : xs0.length = l0.length
 hnb0 : extb0 = [] → l0.length = 0
 hne0 : ¬ (ext0 = [])
 hxe0 : xs0 = ext0.take xs0.length
 hxb0 : xs0 = extb0.take xs0.length
 hle0 : xs0.length ≤ ext0.length
 hlb0 : xs0.length ≤ extb0.length
 hrm0 : laws_roomBehind.f (xs0.length : Int) = some rm0
 hj0 : wrap64 ((xs0.length : Int) + rm0) = (ext0.length : Int)
 heqx0 : laws_eqArticleS.f k ext0 ext0 = some true
 hto1_1 : laws_toInt64SX.f k l1_1 false = some ext1_1
 htob1_1 : laws_toInt64SX.f k l1_1 true = some extb1_1
 hxl1_1 : xs1_1.length = l1_1.length
 hnb1_1 : extb1_1 = [] → l1_1.length = 0
 hne1_1 : ¬ (ext1_1 = [])
 hxe1_1 : xs1_1 = ext1_1.take xs1_1.length
 hxb1_1 : xs1_1 = extb1_1.take xs1_1.length
 hle1_1 : xs1_1.length ≤ ext1_1.length
 hlb1_1 : xs1_1.length ≤ extb1_1.length
 hrm1_1 : laws_roomBehind.f (xs1_1.length : Int) = some rm1_1
 hj1_1 : wrap64 ((xs1_1.length : Int) + rm1_1) = (ext1_1.length : Int)
 heqx1_1 : laws_eqInt64S.f k ext1_1 ext1_1 = some true
 hto2_1 : laws_toInt64SX.f k l2_1 false = some ext2_1
 htob2_1 : laws_toInt64SX.f k l2_1 true = some extb2_1
 hxl2_1 : xs2_1.length = l2_1.length
 hnb2_1 : extb2_1 = [] → l2_1.length = 0
 hne2_1 : ¬ (ext2_1 = [])
 hxe2_1 : xs2_1 = ext2_1.take xs2_1.length
 hxb2_1 : xs2_1 = extb2_1.take xs2_1.length
 hle2_1 : xs2_1.length ≤ ext2_1.length
 hlb2_1 : xs2_1.length ≤ extb2_1.length
 hrm2_1 : laws_roomBehind.f (xs2_1.length : Int) = some rm2_1
 hj2_1 : wrap64 ((xs2_1.length : Int) + rm2_1) = (ext2_1.length : Int)
 heqx2_1 : laws_eqInt64S.f k ext2_1 ext2_1 = some true
 hz1 : laws_szArticleS.f k l0 (wrap64 (1000000 - ((a3.size : Int)))) = some t_1
 hn1 : decide (t_1 < 0) = false
 hz2 : laws_szMagazine.f a1_0 l1_1 t_1 = some t_2
 hn2 : decide (t_2 < 0) = false
 hz3 : laws_szMagazine.f a2_0 l2_1 t_2 = some t_3
 hn3 : decide (t_3 < 0) = false
 hfspec : spec_MovePieces.f k xs0 a1_0 xs1_1 a2_0 xs2_1 a3 a4 = some (res_r1, ws_r2, res_r3, ws_r4, res_r5)
 hfimpl : impl_MovePieces.f k xs0 a1_0 xs1_1 a2_0 xs2_1 a3 a4 = some (res_r1, gs_r2, res_r3, gs_r4, res_r5)
 he_gs_r2_ws_r2 : laws_eqMagazine.f k res_r1 gs_r2 res_r1 ws_r2 = some true
 he_gs_r4_ws_r4 : laws_eqMagazine.f k res_r3 gs_r4 res_r3 ws_r4 = some true
 hm0 : laws_markArticleS.f k xs0 101 = some (mk_0, ml_0)
 hmn0 : decide (mk_0 < 0) = false
 hm1 : laws_markMagazine.f k a1_0 xs1_1 mk_0 = some (mk_1, ml_1)
 hmn1 : decide (mk_1 < 0) = false
 hm2 : laws_markMagazine.f k a2_0 xs2_1 mk_1 = some (mk_2, ml_2)
 hmn2 : decide (mk_2 < 0) = false
 hm3 : laws_markMagazine.f k res_r1 gs_r2 101 = some (mk_3, ml_3)
 hmn3 : decide (mk_3 < 0) = false
 hml3 : gs_r2.length = ml_3.length
 hm4 : laws_markMagazine.f k res_r3 gs_r4 mk_3 = some (mk_4, ml_4)
 hmn4 : decide (mk_4 < 0) = false
 hml4 : gs_r4.length = ml_4.length
 hh_ml_3 : laws_heldMagazine.f k res_r1 ml_3 101 = some mk_3
 hh_ml_4 : laws_heldMagazine.f k res_r3 ml_4 mk_3 = some mk_4
/-- The statement over numbers and lists. -/
def laws_FnExactMovePieces.Pure : Prop := ∀ (l0 : List (S62)) (a1_0 : Int) (l1_1 : List Int) (a2_0 : Int) (l2_1 : List Int) (a3 : ByteArray) (a4 : Int), (l0.length ≤ 140737488351232) → (l1_1.length ≤ 9223372036854775807) → (l2_1.length ≤ 9223372036854775807) → ((Lit.int .i64 a1_0).wf = true) → ((Lit.int .i64 a2_0).wf = true) → (a3.size ≤ 140737488351232) → ((Lit.int .i64 a4).wf = true) → (∀ x ∈ l0, x.f0.size ≤ maxLen) → 
  (∃ k t_1, laws_szArticleS.f k l0 (wrap64 (1000000 - ((a3.size : Int)))) = some t_1 ∧ decide (t_1 < 0) = true) ∨
  (∃ k t_1 t_2, laws_szArticleS.f k l0 (wrap64 (1000000 - ((a3.size : Int)))) = some t_1 ∧ decide (t_1 < 0) = false ∧ laws_szMagazine.f a1_0 l1_1 t_1 = some t_2 ∧ decide (t_2 < 0) = true) ∨
  (∃ k t_1 t_2 t_3, laws_szArticleS.f k l0 (wrap64 (1000000 - ((a3.size : Int)))) = some t_1 ∧ decide (t_1 < 0) = false ∧ laws_szMagazine.f a1_0 l1_1 t_1 = some t_2 ∧ decide (t_2 < 0) = false ∧ laws_szMagazine.f a2_0 l2_1 t_2 = some t_3 ∧ decide (t_3 < 0) = true) ∨
  (∃ k xs0 ext0 extb0 rm0 xs1_1 ext1_1 extb1_1 rm1_1 xs2_1 ext2_1 extb2_1 rm2_1 t_1 t_2 t_3 res_r1 ws_r2 res_r3 ws_r4 res_r5 gs_r2 gs_r4 mk_0 ml_0 mk_1 ml_1 mk_2 ml_2 mk_3 ml_3 mk_4 ml_4, laws_FnExactMovePieces.Facts k l0 a1_0 l1_1 a2_0 l2_1 a3 a4 xs0 ext0 extb0 rm0 xs1_1 ext1_1 extb1_1 rm1_1 xs2_1 ext2_1 extb2_1 rm2_1 t_1 t_2 t_3 res_r1 ws_r2 res_r3 ws_r4 res_r5 gs_r2 gs_r4 mk_0 ml_0 mk_1 ml_1 mk_2 ml_2 mk_3 ml_3 mk_4 ml_4)

theorem laws_FnExactMovePieces.walk (P_ : laws_FnExactMovePieces.Pure) (A0 : Option Addr) (c0 : Nat) (l0 : List (S62)) (a1_0 : Int) (A1_1 : Option Addr) (c1_1 : Nat) (l1_1 : List Int) (a2_0 : Int) (A2_1 : Option Addr) (c2_1 : Nat) (l2_1 : List Int) (a3 : ByteArray) (a4 : Int) (w : World) (hr0 : Kd.C k62 w A0 l0.length l0) (hc0 : l0.length ≤ c0) (hr1_1 : Kd.C (Kd.int .i64) w A1_1 l1_1.length l1_1) (hc1_1 : l1_1.length ≤ c1_1) (hr2_1 : Kd.C (Kd.int .i64) w A2_1 l2_1.length l2_1) (hc2_1 : l2_1.length ≤ c2_1) (wa1_0 : (Lit.int .i64 a1_0).wf = true) (wa2_0 : (Lit.int .i64 a2_0).wf = true) (wa3 : a3.size ≤ 140737488351232) (wa4 : (Lit.int .i64 a4).wf = true) (wsl0 : ∀ x ∈ l0, x.f0.size ≤ maxLen) (wl0 : l0.length ≤ 140737488351232) :
  Calls Try.prog 3 #[.slice A0 l0.length c0, .agg #[.int .i64 a1_0, .slice A1_1 l1_1.length c1_1], .agg #[.int .i64 a2_0, .slice A2_1 l2_1.length c2_1], .string a3, .int .i64 a4] w fun e w' => e = .returned (.bool true) ∧ Below w.heap.size w w' := by
 rcases P_ l0 a1_0 l1_1 a2_0 l2_1 a3 a4 wl0 (Kd.C_max hr1_1) (Kd.C_max hr2_1) wa1_0 wa2_0 wa3 wa4 wsl0 with ⟨k, t_1, h0_, h1_⟩ | ⟨k, t_1, t_2, h0_, h1_, h2_, h3_⟩ | ⟨k, t_1, t_2, t_3, h0_, h1_, h2_, h3_, h4_, h5_⟩ | ⟨k, xs0, ext0, extb0, rm0, xs1_1, ext1_1, extb1_1, rm1_1, xs2_1, ext2_1, extb2_1, rm2_1, t_1, t_2, t_3, res_r1, ws_r2, res_r3, ws_r4, res_r5, gs_r2, gs_r4, mk_0, ml_0, mk_1, ml_1, mk_2, ml_2, mk_3, ml_3, mk_4, ml_4, F⟩
 ·exact laws_FnExactMovePieces.skip1_ _ _ l0 a1_0 _ _ l1_1 a2_0 _ _ l2_1 a3 a4 w hr0 hc0 hr1_1 hc1_1 hr2_1 hc2_1 k t_1 h0_ h1_
 ·exact laws_FnExactMovePieces.skip2_ _ _ l0 a1_0 _ _ l1_1 a2_0 _ _ l2_1 a3 a4 w hr0 hc0 hr1_1 hc1_1 hr2_1 hc2_1 k t_1 t_2 h0_ h1_ h2_ h3_
 ·exact laws_FnExactMovePieces.skip3_ _ _ l0 a1_0 _ _ l1_1 a2_0 _ _ l2_1 a3 a4 w hr0 hc0 hr1_1 hc1_1 hr2_1 hc2_1 k t_1 t_2 t_3 h0_ h1_ h2_ h3_ h4_ h5_
 ·exact laws_FnExactMovePieces.true_ k _ _ l0 a1_0 _ _ l1_1 a2_0 _ _ l2_1 a3 a4 w hr0 hc0 hr1_1 hc1_1 hr2_1 hc2_1 xs0 ext0 extb0 rm0 xs1_1 ext1_1 extb1_1 rm1_1 xs2_1 ext2_1 extb2_1 rm2_1 t_1 t_2 t_3 res_r1 ws_r2 res_r3 ws_r4 res_r5 gs_r2 gs_r4 mk_0 ml_0 mk_1 ml_1 mk_2 ml_2 mk_3 ml_3 mk_4 ml_4 F.hto0 F.htob0 F.hxl0 F.hnb0 F.hne0 F.hxe0 F.hxb0 F.hle0 F.hlb0 F.hrm0 F.hj0 F.heqx0 F.hto1_1 F.htob1_1 F.hxl1_1 F.hnb1_1 F.hne1_1 F.hxe1_1 F.hxb1_1 F.hle1_1 F.hlb1_1 F.hrm1_1 F.hj1_1 F.heqx1_1 F.hto2_1 F.htob2_1 F.hxl2_1 F.hnb2_1 F.hne2_1 F.hxe2_1 F.hxb2_1 F.hle2_1 F.hlb2_1 F.hrm2_1 F.hj2_1 F.heqx2_1 F.hz1 F.hn1 F.hz2 F.hn2 F.hz3 F.hn3 F.hfspec F.hfimpl F.he_gs_r2_ws_r2 F.he_gs_r4_ws_r4 F.hm0 F.hmn0 F.hm1 F.hmn1 F.hm2 F.hmn2 F.hm3 F.hmn3 F.hml3 F.hm4 F.hmn4 F.hml4 F.hh_ml_3 F.hh_ml_4

end Go.Proofs.Ytdgglhfnlljmeaa.PFnExactMovePieces
