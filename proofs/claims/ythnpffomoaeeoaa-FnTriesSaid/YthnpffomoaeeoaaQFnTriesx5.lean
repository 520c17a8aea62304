/- Functions and contracts that FnTries reaches (6 of 13). -/
import Derived.Test.YthnpffomoaeeoaaQFnTriesx4
namespace Go.Proofs.Ythnpffomoaeeoaa.PFnTries
open Go.RowKit Go.Proofs.YthnpffomoaeeoaaW.PrintWords Go.Proofs.YthnpffomoaeeoaaW.PrintLast Go.Proofs.YthnpffomoaeeoaaW.PrintMore
attribute [local go_sem] max2_int min2_int max_two min_two max_three min_three max_four min_four   -- for this text's walks alone
set_option linter.unusedVariables false
set_option linter.unusedSimpArgs false

/-! ### impl_AddTry: function 24 -/
def impl_AddTry.f (k : Nat) (l0 : List (S36)) (a1_0 : Int) (a1_1 : Int) (a1_2 : Bool) : Option ((List (S36)) × Int) := (impl_AreTries.f k l0).bind fun t178 => (if t178 = true then (if (l0.length : Int) = 40 then (some (([] : List (S36)), 3)) else ((some (([] : List (S36)) : List (S36))).bind fun y179 => (if y179.length + l0.length < 5864062014805 then ((some (y179 ++ l0 : List (S36))).bind fun y182 => ((some (([(⟨a1_0, a1_1, a1_2⟩ : S36)] : List (S36)) : List (S36))).bind fun y185 => (if y182.length + y185.length < 5864062014805 then ((some (y182 ++ y185 : List (S36))).bind fun y188 => ((impl_AreTries.f k y188).bind fun t191 => (if t191 = true then (some (y188, 0)) else (some (([] : List (S36)), 5))))) else (none)))) else (none)))) else (some (([] : List (S36)), 1)))
theorem impl_AddTry.mono : ∀ a0 a1 a2 a3 k, LeO (impl_AddTry.f k a0 a1 a2 a3) (impl_AddTry.f (k + 1) a0 a1 a2 a3) := by
 intro a0 a1 a2 a3 k
 unfold impl_AddTry.f
 repeat' first
   | (with_reducible exact impl_AreTries.mono _ _)
   | (with_reducible exact LeO.refl _)
   | (with_reducible exact LeO.none _)
   | (with_reducible refine LeO.ite ?_ ?_)
   | (with_reducible refine LeO.bind ?_ (fun _ => ?_))
   | exact impl_AreTries.mono _ _
   | exact LeO.none _
   | refine LeO.ite ?_ ?_
   | refine LeO.bind ?_ (fun _ => ?_)
set_option maxHeartbeats 8000000 in
set_option maxRecDepth 100000 in
theorem impl_AddTry.calls (k : Nat) (A0 : Option Addr) (c0 : Nat) (l0 : List (S36)) (a1_0 : Int) (a1_1 : Int) (a1_2 : Bool) (r1 : List (S36)) (r2 : Int) (w : World) (hr0 : Kd.C k36 w A0 l0.length l0) (hc0 : l0.length ≤ c0) (h : impl_AddTry.f k l0 a1_0 a1_1 a1_2 = some (r1, r2)) :
  Calls Try.prog 24 #[.slice A0 l0.length c0, .agg #[.int .i64 a1_0, .int .i64 a1_1, .bool a1_2]] w fun e w' => ∃ v0_ : Value, e = .returned (.tuple #[v0_, .int .i64 r2]) ∧ Kd.R k36 36 w' w.heap.size (fun _ => True) v0_ r1 ∧ Below w.heap.size w w' := by
 have hu36 := Try.underlying36
 have HR0 := jA hr0
 have HC0 := jA hc0
 clear hr0 hc0
 have HB := jA (Below.refl w.heap.size w)
 have H : ((impl_AreTries.f k l0).bind fun t178 => (if t178 = true then (if (l0.length : Int) = 40 then (some (([] : List (S36)), 3)) else ((some (([] : List (S36)) : List (S36))).bind fun y179 => (if y179.length + l0.length < 5864062014805 then ((some (y179 ++ l0 : List (S36))).bind fun y182 => ((some (([(⟨a1_0, a1_1, a1_2⟩ : S36)] : List (S36)) : List (S36))).bind fun y185 => (if y182.length + y185.length < 5864062014805 then ((some (y182 ++ y185 : List (S36))).bind fun y188 => ((impl_AreTries.f k y188).bind fun t191 => (if t191 = true then (some (y188, 0)) else (some (([] : List (S36)), 5))))) else (none)))) else (none)))) else (some (([] : List (S36)), 1)))) = some (r1, r2) := h
 clear h
 replace H := jG.mp H
 obtain ⟨t178, A30, H⟩ := H
 replace H : (if t178 = true then (if (l0.length : Int) = 40 then (some (([] : List (S36)), 3)) else ((some (([] : List (S36)) : List (S36))).bind fun y179 => (if y179.length + l0.length < 5864062014805 then ((some (y179 ++ l0 : List (S36))).bind fun y182 => ((some (([(⟨a1_0, a1_1, a1_2⟩ : S36)] : List (S36)) : List (S36))).bind fun y185 => (if y182.length + y185.length < 5864062014805 then ((some (y182 ++ y185 : List (S36))).bind fun y188 => ((impl_AreTries.f k y188).bind fun t191 => (if t191 = true then (some (y188, 0)) else (some (([] : List (S36)), 5))))) else (none)))) else (none)))) else (some (([] : List (S36)), 1))) = some (r1, r2) := H
 have A3 := jA A30
 clear A30
 by_cases c4 : t178 = true
 ·subst c4
  have H1 : (if (l0.length : Int) = 40 then (some (([] : List (S36)), 3)) else ((some (([] : List (S36)) : List (S36))).bind fun y179 => (if y179.length + l0.length < 5864062014805 then ((some (y179 ++ l0 : List (S36))).bind fun y182 => ((some (([(⟨a1_0, a1_1, a1_2⟩ : S36)] : List (S36)) : List (S36))).bind fun y185 => (if y182.length + y185.length < 5864062014805 then ((some (y182 ++ y185 : List (S36))).bind fun y188 => ((impl_AreTries.f k y188).bind fun t191 => (if t191 = true then (some (y188, 0)) else (some (([] : List (S36)), 5))))) else (none)))) else (none)))) = some (r1, r2) := by rw [if_pos rfl] at H; exact H
  clear H
  have H := H1
  clear H1
  by_cases c5 : (l0.length : Int) = 40
  ·rw [if_pos c5] at H
   have c5b0 : ((l0.length : Int) == 40) = true := beq_iff_eq.mpr c5
   have c5b1 : ((l0.length : Int) != 40) = false := bne_eq_false_iff_eq.mpr c5
   clear c5
   simp only [jf, jh] at H
   obtain ⟨rfl, rfl⟩ := H
   go_enter Try.func24, Try.ntmps24
   go_wp2_with (first | ((with_reducible refine gate_dst (N := 3) rfl ?_); refine box_event ?hg (N := 3) ?hd (cs := #[.int .i64 a1_0, .int .i64 a1_1, .bool a1_2]) (t := 36) ?hr ?_; (case hd => rfl); (case hg => rfl); (case hr => first | (go_simp; done) | (go_simp; rfl)); intro gb177 hg w6 hbox hb; have n0_ := jA (jH (zb0 HB) hb); have n1_ := jA (hbox); have n2_ := jA ((by rw [hg]; exact (jP (zb0 HB)) : w.heap.size ≤ gb177)); have n3_ := jA ((by rw [hg]; exact (jP (zb0 HB)) : w.heap.size ≤ gb177)); clear HB; have HB := n0_; have BK177 := n1_; have GW177 := n2_; have GE177 := n3_; clear n0_ n1_ n2_ n3_; clear hb hbox hg) | ((with_reducible refine jU (f := 16) rfl ?_); refine goesL_ (some 8) rfl rfl Try.func16 zr rfl #[.slice A0 l0.length c0] rfl zm ?_; (with_reducible refine (impl_AreTries.calls k _ _ l0 true _ ?side1 ?side2 A3.out).mono ?_); (case side1 => exact zs HR0 HB); (case side2 => exact HC0.out); rintro e w7 ⟨rfl, hb⟩; refine ⟨_, rfl, ?_⟩; have n0_ := jA (jb (g := gb177) (o := .cells #[.int .i64 a1_0, .int .i64 a1_1, .bool a1_2] 36 (0, 0)) (zk BK177) hb); have n1_ := jA (jH (zb1 HB GE177) hb); clear BK177; clear HB; have BK177 := n0_; have HB := n1_; clear n0_ n1_; (try clear hb); (try clear hb2); (try clear hk); (try clear hi)))
   go_ret2
   exact ⟨_, by first | rfl | (simp [errW_none, errW_some] <;> rfl) | (simp [*, errW_none, errW_some] <;> rfl), by first | exact Kd.R_nil _ _ _ _ _ | exact Kd.N_nil _ _ _ _ _ | exact Kd.V_nil _ _ _ _ _ | exact Kd.Q_nil _ _ _ _ _ | exact Kd.S_nil _ _ _ _ _, zb1 HB GE177⟩
  ·rw [if_neg c5] at H
   have c5b0 : ((l0.length : Int) == 40) = false := beq_eq_false_iff_ne.mpr c5
   have c5b1 : ((l0.length : Int) != 40) = true := bne_iff_ne.mpr c5
   obtain ⟨y179, hy179⟩ : ∃ y_ : List (S36), y_ = (([] : List (S36))) := ⟨_, rfl⟩
   replace H : (if y179.length + l0.length < 5864062014805 then ((some (y179 ++ l0 : List (S36))).bind fun y182 => ((some (([(⟨a1_0, a1_1, a1_2⟩ : S36)] : List (S36)) : List (S36))).bind fun y185 => (if y182.length + y185.length < 5864062014805 then ((some (y182 ++ y185 : List (S36))).bind fun y188 => ((impl_AreTries.f k y188).bind fun t191 => (if t191 = true then (some (y188, 0)) else (some (([] : List (S36)), 5))))) else (none)))) else (none)) = some (r1, r2) := by first | (rw [hy179]; with_reducible exact H) | (have H2_ := (Option.bind_some _ _).symm.trans H; rw [hy179]; with_reducible exact H2_) | (have H2_ := (Option.bind_some _ _).symm.trans H; with_reducible exact H2_) | with_reducible exact H | (rw [hy179]; exact H) | exact H
   have Ny179 := jA hy179
   clear hy179
   by_cases c8 : y179.length + l0.length < 5864062014805
   ·rw [if_pos c8] at H
    have LMc8 := jA c8
    clear c8
    obtain ⟨y182, hy182⟩ : ∃ y_ : List (S36), y_ = (y179 ++ l0) := ⟨_, rfl⟩
    replace H : ((some (([(⟨a1_0, a1_1, a1_2⟩ : S36)] : List (S36)) : List (S36))).bind fun y185 => (if y182.length + y185.length < 5864062014805 then ((some (y182 ++ y185 : List (S36))).bind fun y188 => ((impl_AreTries.f k y188).bind fun t191 => (if t191 = true then (some (y188, 0)) else (some (([] : List (S36)), 5))))) else (none))) = some (r1, r2) := by first | (rw [hy182]; with_reducible exact H) | (have H2_ := (Option.bind_some _ _).symm.trans H; rw [hy182]; with_reducible exact H2_) | (have H2_ := (Option.bind_some _ _).symm.trans H; with_reducible exact H2_) | with_reducible exact H | (rw [hy182]; exact H) | exact H
    have Ny182 := jA hy182
    clear hy182
    obtain ⟨y185, hy185⟩ : ∃ y_ : List (S36), y_ = (([(⟨a1_0, a1_1, a1_2⟩ : S36)] : List (S36))) := ⟨_, rfl⟩
    replace H : (if y182.length + y185.length < 5864062014805 then ((some (y182 ++ y185 : List (S36))).bind fun y188 => ((impl_AreTries.f k y188).bind fun t191 => (if t191 = true then (some (y188, 0)) else (some (([] : List (S36)), 5))))) else (none)) = some (r1, r2) := by first | (rw [hy185]; with_reducible exact H) | (have H2_ := (Option.bind_some _ _).symm.trans H; rw [hy185]; with_reducible exact H2_) | (have H2_ := (Option.bind_some _ _).symm.trans H; with_reducible exact H2_) | with_reducible exact H | (rw [hy185]; exact H) | exact H
    have Ny185 := jA hy185
    clear hy185
    by_cases c9 : y182.length + y185.length < 5864062014805
    ·rw [if_pos c9] at H
     have LMc9 := jA c9
     clear c9
     obtain ⟨y188, hy188⟩ : ∃ y_ : List (S36), y_ = (y182 ++ y185) := ⟨_, rfl⟩
     replace H : ((impl_AreTries.f k y188).bind fun t191 => (if t191 = true then (some (y188, 0)) else (some (([] : List (S36)), 5)))) = some (r1, r2) := by first | (rw [hy188]; with_reducible exact H) | (have H2_ := (Option.bind_some _ _).symm.trans H; rw [hy188]; with_reducible exact H2_) | (have H2_ := (Option.bind_some _ _).symm.trans H; with_reducible exact H2_) | with_reducible exact H | (rw [hy188]; exact H) | exact H
     have Ny188 := jA hy188
     clear hy188
     replace H := jG.mp H
     obtain ⟨t191, A100, H⟩ := H
     replace H : (if t191 = true then (some (y188, 0)) else (some (([] : List (S36)), 5))) = some (r1, r2) := H
     have A10 := jA A100
     clear A100
     by_cases c11 : t191 = true
     ·subst c11
      have H1 : (some (y188, 0)) = some (r1, r2) := by rw [if_pos rfl] at H; exact H
      clear H
      have H := H1
      clear H1
      simp only [jf, jh] at H
      obtain ⟨rfl, rfl⟩ := H
      go_enter Try.func24, Try.ntmps24
      try go_wp2_with (first | ((with_reducible refine gate_dst (N := 3) rfl ?_); refine box_event ?hg (N := 3) ?hd (cs := #[.int .i64 a1_0, .int .i64 a1_1, .bool a1_2]) (t := 36) ?hr ?_; (case hd => rfl); (case hg => rfl); (case hr => first | (go_simp; done) | (go_simp; rfl)); intro gb177 hg w12 hbox hb; have n0_ := jA (jH (zb0 HB) hb); have n1_ := jA (hbox); have n2_ := jA ((by rw [hg]; exact (jP (zb0 HB)) : w.heap.size ≤ gb177)); have n3_ := jA ((by rw [hg]; exact (jP (zb0 HB)) : w.heap.size ≤ gb177)); clear HB; have HB := n0_; have BK177 := n1_; have GW177 := n2_; have GE177 := n3_; clear n0_ n1_ n2_ n3_; clear hb hbox hg) | ((with_reducible refine jU (f := 16) rfl ?_); refine goesL_ (some 8) rfl rfl Try.func16 zr rfl #[.slice A0 l0.length c0] rfl zm ?_; (with_reducible refine (impl_AreTries.calls k _ _ l0 true _ ?side1 ?side2 A3.out).mono ?_); (case side1 => exact zs HR0 HB); (case side2 => exact HC0.out); rintro e w13 ⟨rfl, hb⟩; refine ⟨_, rfl, ?_⟩; have n0_ := jA (jb (g := gb177) (o := .cells #[.int .i64 a1_0, .int .i64 a1_1, .bool a1_2] 36 (0, 0)) (zk BK177) hb); have n1_ := jA (jH (zb1 HB GE177) hb); clear BK177; clear HB; have BK177 := n0_; have HB := n1_; clear n0_ n1_; (try clear hb); (try clear hb2); (try clear hk); (try clear hi)))
      have n0_ := jA (jW BK177.out)
      have n1_ := jA (jL HB.out)
      clear BK177
      clear HB
      have BK177 := n0_
      have HB := n1_
      clear n0_ n1_
      refine start_ (n := 7) (S := fun w' => w'.cell? ⟨gb177, 0, none⟩ = some (.int .i64 a1_0) ∧ w'.cell? ⟨gb177, 1, none⟩ = some (.int .i64 a1_1) ∧ w'.cell? ⟨gb177, 2, none⟩ = some (.bool a1_2)) (ds := []) m7_0 zr rfl rfl ⟨(jC BK177.out 0).trans rfl, (jC BK177.out 1).trans rfl, (jC BK177.out 2).trans rfl⟩ (fun hHeld => ?_)
      generalize w13.drew = w14 at BK177 HB hHeld ⊢
      refine pure_ (i := 1) (N := some 14) (v := ?_) (a' := ?_) m7_20 rfl rfl zr (fun _ _ _ h => h) (Or.inl ⟨by rfl, ?_⟩) ?_ ?_
      rotate_left
      ·intro w'
       go_simp
       with_reducible rfl
      rotate_left
      ·simp only [Act.put, jB, jE, jF, i64_w, i32_w]
       rfl
      refine take_ (i := 3) (N := some 16) (v := ?_) (a' := ?_) m7_28 rfl rfl zr (fun _ _ _ h => h) (Or.inl ⟨by rfl, ?_⟩) hHeld ?_ ?_
      rotate_left
      ·rintro w' ⟨s0, s1, s2⟩
       go_simp
       with_reducible rfl
      rotate_left
      ·simp only [Act.put, jB, jE, jF, i64_w, i32_w]
       rfl
      refine join_ (σ := Value × Value × Value) 2 m7_7c (fun s_ => [(13, s_.1), (15, s_.2.1), (17, s_.2.2)]) (fun s_ w' => (w'.cell? ⟨gb177, 0, none⟩ = some (.int .i64 a1_0) ∧ w'.cell? ⟨gb177, 1, none⟩ = some (.int .i64 a1_1) ∧ w'.cell? ⟨gb177, 2, none⟩ = some (.bool a1_2)) ∧ (Kd.R k36 36 w' w.heap.size (fun k_ => some k_ ≠ (s_.2.2 : Value).ownBlock ∧ k_ ≠ gb177) s_.2.1 y182) ∧ (Kd.R k36 36 w' w.heap.size (fun k_ => some k_ ≠ (s_.2.1 : Value).ownBlock ∧ k_ ≠ gb177) s_.2.2 y185) ∧ (w'.heap[gb177]? = some (.cells #[.int .i64 a1_0, .int .i64 a1_1, .bool a1_2] 36 (0, 0))) ∧ (Below w.heap.size w w')) ?_ ?_
      rotate_left
      ·intro hCont
       refine two_ (i := 0) (j := 4) (Ni := some 13) (Nj := some 17) m7_68 m7_2c rfl rfl rfl rfl zr (by decide) (by decide) (fun K hK => ?_) (fun K hK => ?_)
       ·skip
        refine Kd.R_lit_step k36 _ 36 ?hg (N := 13) ?hd (xs := ([] : List (S36))) (inner := []) (ok := fun _ => True) (okp := fun _ => True) ?hr ?hp (fun _ hk => hk) trivial (Below.refl _ _) (Nat.le_refl _) (by simp) ?_; (case hd => rfl); (case hg => rfl); (case hr => first | (go_simp; done) | (go_simp; rfl)); (case hp => exact (Reps.none _ _))
        intro v180 w15 ho16 hb hg_ hnew_
        clear hg_ hnew_
        (first | rw [← Ny179.out] at ho16 | (simp only [Int.reduceToNat] at ho16; rw [← Ny179.out] at ho16))
        have n0_ := jA (jc (Kd.R_newB ho16 (g := gb177) (o := .cells #[.int .i64 a1_0, .int .i64 a1_1, .bool a1_2] 36 (0, 0)) (zk BK177)) (jP (zb1 HB GE177)))
        have n1_ := jA (jb (g := gb177) (o := .cells #[.int .i64 a1_0, .int .i64 a1_1, .bool a1_2] 36 (0, 0)) (zk BK177) hb)
        have n2_ := jA (jH (zb1 HB GE177) hb)
        clear BK177
        clear HB
        have HO181 := n0_
        have BK177 := n1_
        have HB := n2_
        clear n0_ n1_ n2_
        clear hb ho16
        refine hK.out _ _ ⟨(jC BK177.out 0).trans rfl, (jC BK177.out 1).trans rfl, (jC BK177.out 2).trans rfl⟩ (fun hHeld => ?_)
        clear hK K
        refine norm_ (a' := ?_) ?_ ?_
        rotate_left
        ·show Act.put _ (some 13) _ = _
         simp only [Act.put, jB, jE, jF, i64_w, i32_w]
         rfl
        refine two_ (i := 2) (j := 4) (Ni := some 15) (Nj := some 17) m7_78 m7_6c rfl rfl rfl rfl zr (by decide) (by decide) (fun K hK => ?_) (fun K hK => ?_)
        ·skip
         refine Kd.R_append_rows_step k36 (w0 := w) w.heap.size (by rfl) (.tmp 13) (.tmp 14) 25 36 (.agg #[(.int .i64 0), (.int .i64 0), (.bool false)]) 24 rfl Try.underlying25 info36 rfl (by decide) (by omega) v180 y179 l0 _ _ _ (fun k_ => k_ ≠ gb177) (fun _ => False) rfl rfl ?aO ?aR (fun _ _ h => h) (fun _ h => h.elim) ?aF ?aB ?aS ?aL ?_
         (case aR => repeat (first | exact HR0.out | exact (Kd.C_below HR0.out HB.out) | (with_reducible refine jN ?_ _) | (with_reducible refine jM ?_ _) | (with_reducible refine jT ?_)))
         (case aB => exact (zb1 HB GE177))
         (case aF => exact (fun k_ hk => Kd.freshB (g := gb177) (o := .cells #[.int .i64 a1_0, .int .i64 a1_1, .bool a1_2] 36 (0, 0)) (zk BK177) k_ hk))
         (case aO => exact (by (with_reducible repeat (first | apply jR | apply jQ | apply jS)); exact Kd.R_mono HO181.out (fun _ hk => hk.2)))
         (case aS => exact (jP (zb1 HB GE177)))
         (case aL => have := LMc8.out; omega)
         intro v183 w17 ho hb hg hat
         rw [← Ny182.out] at ho
         have n0_ := jA (blk_grown (g := gb177) (o := .cells #[.int .i64 a1_0, .int .i64 a1_1, .bool a1_2] 36 (0, 0)) (zk BK177) hg (Kd.R_away HO181.out (fun _ hk => hk.2)))
         have n1_ := jA (hb)
         have n2_ := jA (ho)
         clear BK177
         clear HB
         clear HO181
         have BK177 := n0_
         have HB := n1_
         have HO184 := n2_
         clear n0_ n1_ n2_
         clear ho hb hg hat
         refine hK.out _ _ ⟨(jC BK177.out 0).trans rfl, (jC BK177.out 1).trans rfl, (jC BK177.out 2).trans rfl⟩ (fun hHeld => ?_)
         clear hK K
         refine norm_ (a' := ?_) ?_ ?_
         rotate_left
         ·show Act.put _ (some 15) _ = _
          simp only [Act.put, jB, jE, jF, i64_w, i32_w]
          rfl
         refine one_ (i := 4) (N := some 17) m7_7c rfl rfl zr (by decide) (fun K hK => ?_)
         refine Kd.R_lit_step k36 _ 36 ?hg (N := 17) ?hd (xs := ([(⟨a1_0, a1_1, a1_2⟩ : S36)] : List (S36))) (inner := [.int .i64 a1_0, .int .i64 a1_1, .bool a1_2]) (ok := fun _ => True) (okp := fun _ => True) ?hr ?hp (fun _ hk => hk) trivial (Below.refl _ _) (Nat.le_refl _) (by simp) ?_; (case hd => rfl); (case hg => rfl); (case hr => first | (go_simp; done) | (go_simp; rfl)); (case hp => exact (Reps.c3 (show Kd.M k36 _ _ _ (⟨a1_0, a1_1, a1_2⟩ : S36) [.int .i64 a1_0, .int .i64 a1_1, .bool a1_2] from (k36_mkM _ _ _ (⟨a1_0, a1_1, a1_2⟩ : S36) )) (Reps.none _ _)))
         intro v186 w18 ho19 hb hg_ hnew_
         clear hg_ hnew_
         (first | rw [← Ny185.out] at ho19 | (simp only [Int.reduceToNat] at ho19; rw [← Ny185.out] at ho19))
         have n0_ := jA (Kd.R_elder' (zo HO184) (Kd.R_base ho19) hb)
         have n1_ := jA (jc (Kd.R_newB (Kd.R_new' ho19 (Kd.R_lt (zo HO184))) (g := gb177) (o := .cells #[.int .i64 a1_0, .int .i64 a1_1, .bool a1_2] 36 (0, 0)) (zk BK177)) (jP (zb1 HB GE177)))
         have n2_ := jA (jb (g := gb177) (o := .cells #[.int .i64 a1_0, .int .i64 a1_1, .bool a1_2] 36 (0, 0)) (zk BK177) hb)
         have n3_ := jA (jH (zb1 HB GE177) hb)
         clear HO184
         clear BK177
         clear HB
         have HO184 := n0_
         have HO187 := n1_
         have BK177 := n2_
         have HB := n3_
         clear n0_ n1_ n2_ n3_
         clear hb ho19
         refine hK.out _ _ ⟨(jC BK177.out 0).trans rfl, (jC BK177.out 1).trans rfl, (jC BK177.out 2).trans rfl⟩ (fun hHeld => ?_)
         clear hK K
         refine norm_ (a' := ?_) ?_ ?_
         rotate_left
         ·show Act.put _ (some 17) _ = _
          simp only [Act.put, jB, jE, jF, i64_w, i32_w]
          rfl
         exact norm_ (by simp only [putAll, Act.put, jB, jE, jF]) (hCont (v180, v183, v186) _ ⟨hHeld, (by (with_reducible repeat (first | apply jR | apply jQ | apply jS)); exact Kd.R_mono HO184.out (fun _ hk => ⟨hk.2, hk.1⟩)), (by (with_reducible repeat (first | apply jR | apply jQ | apply jS)); exact Kd.R_mono HO187.out (fun _ hk => ⟨hk.1.2, hk.2⟩)), (zk BK177), (zb1 HB GE177)⟩)
        ·skip
         refine Kd.R_lit_step k36 _ 36 ?hg (N := 17) ?hd (xs := ([(⟨a1_0, a1_1, a1_2⟩ : S36)] : List (S36))) (inner := [.int .i64 a1_0, .int .i64 a1_1, .bool a1_2]) (ok := fun _ => True) (okp := fun _ => True) ?hr ?hp (fun _ hk => hk) trivial (Below.refl _ _) (Nat.le_refl _) (by simp) ?_; (case hd => rfl); (case hg => rfl); (case hr => first | (go_simp; done) | (go_simp; rfl)); (case hp => exact (Reps.c3 (show Kd.M k36 _ _ _ (⟨a1_0, a1_1, a1_2⟩ : S36) [.int .i64 a1_0, .int .i64 a1_1, .bool a1_2] from (k36_mkM _ _ _ (⟨a1_0, a1_1, a1_2⟩ : S36) )) (Reps.none _ _)))
         intro v186 w17 ho18 hb hg_ hnew_
         clear hg_ hnew_
         (first | rw [← Ny185.out] at ho18 | (simp only [Int.reduceToNat] at ho18; rw [← Ny185.out] at ho18))
         have n0_ := jA (Kd.R_elder' (zo HO181) (Kd.R_base ho18) hb)
         have n1_ := jA (jc (Kd.R_newB (Kd.R_new' ho18 (Kd.R_lt (zo HO181))) (g := gb177) (o := .cells #[.int .i64 a1_0, .int .i64 a1_1, .bool a1_2] 36 (0, 0)) (zk BK177)) (jP (zb1 HB GE177)))
         have n2_ := jA (jb (g := gb177) (o := .cells #[.int .i64 a1_0, .int .i64 a1_1, .bool a1_2] 36 (0, 0)) (zk BK177) hb)
         have n3_ := jA (jH (zb1 HB GE177) hb)
         clear HO181
         clear BK177
         clear HB
         have HO181 := n0_
         have HO187 := n1_
         have BK177 := n2_
         have HB := n3_
         clear n0_ n1_ n2_ n3_
         clear hb ho18
         refine hK.out _ _ ⟨(jC BK177.out 0).trans rfl, (jC BK177.out 1).trans rfl, (jC BK177.out 2).trans rfl⟩ (fun hHeld => ?_)
         clear hK K
         refine norm_ (a' := ?_) ?_ ?_
         rotate_left
         ·show Act.put _ (some 17) _ = _
          simp only [Act.put, jB, jE, jF, i64_w, i32_w]
          rfl
         refine one_ (i := 2) (N := some 15) m7_7c rfl rfl zr (by decide) (fun K hK => ?_)
         refine Kd.R_append_rows_step k36 (w0 := w) w.heap.size (by rfl) (.tmp 13) (.tmp 14) 25 36 (.agg #[(.int .i64 0), (.int .i64 0), (.bool false)]) 24 rfl Try.underlying25 info36 rfl (by decide) (by omega) v180 y179 l0 _ _ _ (fun k_ => some k_ ≠ (v186 : Value).ownBlock ∧ k_ ≠ gb177) (fun _ => False) rfl rfl ?aO ?aR (fun _ _ h => h) (fun _ h => h.elim) ?aF ?aB ?aS ?aL ?_
         (case aR => repeat (first | exact HR0.out | exact (Kd.C_below HR0.out HB.out) | (with_reducible refine jN ?_ _) | (with_reducible refine jM ?_ _) | (with_reducible refine jT ?_)))
         (case aB => exact (zb1 HB GE177))
         (case aF => exact (fun k_ hk => ⟨Kd.fresh' (Kd.R_lt (zo HO187)) k_ hk, Kd.freshB (g := gb177) (o := .cells #[.int .i64 a1_0, .int .i64 a1_1, .bool a1_2] 36 (0, 0)) (zk BK177) k_ hk⟩))
         (case aO => exact (by (with_reducible repeat (first | apply jR | apply jQ | apply jS)); exact Kd.R_mono HO181.out (fun _ hk => ⟨hk.2, hk.1.2⟩)))
         (case aS => exact (jP (zb1 HB GE177)))
         (case aL => have := LMc8.out; omega)
         intro v183 w19 ho hb hg hat
         rw [← Ny182.out] at ho
         have n0_ := jA (blk_grown (g := gb177) (o := .cells #[.int .i64 a1_0, .int .i64 a1_1, .bool a1_2] 36 (0, 0)) (zk BK177) hg (Kd.R_away HO181.out (fun _ hk => hk.1.2)))
         have n1_ := jA (Kd.R_after (ok := (fun k_ => k_ ≠ gb177)) (by (with_reducible repeat (first | apply jR | apply jQ | apply jS)); exact Kd.R_mono HO187.out (fun _ hk => ⟨hk.2, hk.1.2⟩)) hg hat)
         have n2_ := jA (hb)
         have n3_ := jA (ho)
         clear BK177
         clear HO187
         clear HB
         clear HO181
         have BK177 := n0_
         have HO187 := n1_
         have HB := n2_
         have HO184 := n3_
         clear n0_ n1_ n2_ n3_
         clear ho hb hg hat
         refine hK.out _ _ ⟨(jC BK177.out 0).trans rfl, (jC BK177.out 1).trans rfl, (jC BK177.out 2).trans rfl⟩ (fun hHeld => ?_)
         clear hK K
         refine norm_ (a' := ?_) ?_ ?_
         rotate_left
         ·show Act.put _ (some 15) _ = _
          simp only [Act.put, jB, jE, jF, i64_w, i32_w]
          rfl
         exact norm_ (by simp only [putAll, Act.put, jB, jE, jF]) (hCont (v180, v183, v186) _ ⟨hHeld, (zo HO184), (by (with_reducible repeat (first | apply jR | apply jQ | apply jS)); exact Kd.R_mono HO187.out (fun _ hk => ⟨hk.2, hk.1⟩)), (zk BK177), (zb1 HB GE177)⟩)
       ·skip
        refine Kd.R_lit_step k36 _ 36 ?hg (N := 17) ?hd (xs := ([(⟨a1_0, a1_1, a1_2⟩ : S36)] : List (S36))) (inner := [.int .i64 a1_0, .int .i64 a1_1, .bool a1_2]) (ok := fun _ => True) (okp := fun _ => True) ?hr ?hp (fun _ hk => hk) trivial (Below.refl _ _) (Nat.le_refl _) (by simp) ?_; (case hd => rfl); (case hg => rfl); (case hr => first | (go_simp; done) | (go_simp; rfl)); (case hp => exact (Reps.c3 (show Kd.M k36 _ _ _ (⟨a1_0, a1_1, a1_2⟩ : S36) [.int .i64 a1_0, .int .i64 a1_1, .bool a1_2] from (k36_mkM _ _ _ (⟨a1_0, a1_1, a1_2⟩ : S36) )) (Reps.none _ _)))
        intro v186 w15 ho16 hb hg_ hnew_
        clear hg_ hnew_
        (first | rw [← Ny185.out] at ho16 | (simp only [Int.reduceToNat] at ho16; rw [← Ny185.out] at ho16))
        have n0_ := jA (jc (Kd.R_newB ho16 (g := gb177) (o := .cells #[.int .i64 a1_0, .int .i64 a1_1, .bool a1_2] 36 (0, 0)) (zk BK177)) (jP (zb1 HB GE177)))
        have n1_ := jA (jb (g := gb177) (o := .cells #[.int .i64 a1_0, .int .i64 a1_1, .bool a1_2] 36 (0, 0)) (zk BK177) hb)
        have n2_ := jA (jH (zb1 HB GE177) hb)
        clear BK177
        clear HB
        have HO187 := n0_
        have BK177 := n1_
        have HB := n2_
        clear n0_ n1_ n2_
        clear hb ho16
        refine hK.out _ _ ⟨(jC BK177.out 0).trans rfl, (jC BK177.out 1).trans rfl, (jC BK177.out 2).trans rfl⟩ (fun hHeld => ?_)
        clear hK K
        refine norm_ (a' := ?_) ?_ ?_
        rotate_left
        ·show Act.put _ (some 17) _ = _
         simp only [Act.put, jB, jE, jF, i64_w, i32_w]
         rfl
        refine one_ (i := 0) (N := some 13) m7_6c rfl rfl zr (by decide) (fun K hK => ?_)
        refine Kd.R_lit_step k36 _ 36 ?hg (N := 13) ?hd (xs := ([] : List (S36))) (inner := []) (ok := fun _ => True) (okp := fun _ => True) ?hr ?hp (fun _ hk => hk) trivial (Below.refl _ _) (Nat.le_refl _) (by simp) ?_; (case hd => rfl); (case hg => rfl); (case hr => first | (go_simp; done) | (go_simp; rfl)); (case hp => exact (Reps.none _ _))
        intro v180 w17 ho18 hb hg_ hnew_
        clear hg_ hnew_
        (first | rw [← Ny179.out] at ho18 | (simp only [Int.reduceToNat] at ho18; rw [← Ny179.out] at ho18))
        have n0_ := jA (Kd.R_elder' (zo HO187) (Kd.R_base ho18) hb)
        have n1_ := jA (jc (Kd.R_newB (Kd.R_new' ho18 (Kd.R_lt (zo HO187))) (g := gb177) (o := .cells #[.int .i64 a1_0, .int .i64 a1_1, .bool a1_2] 36 (0, 0)) (zk BK177)) (jP (zb1 HB GE177)))
        have n2_ := jA (jb (g := gb177) (o := .cells #[.int .i64 a1_0, .int .i64 a1_1, .bool a1_2] 36 (0, 0)) (zk BK177) hb)
        have n3_ := jA (jH (zb1 HB GE177) hb)
        clear HO187
        clear BK177
        clear HB
        have HO187 := n0_
        have HO181 := n1_
        have BK177 := n2_
        have HB := n3_
        clear n0_ n1_ n2_ n3_
        clear hb ho18
        refine hK.out _ _ ⟨(jC BK177.out 0).trans rfl, (jC BK177.out 1).trans rfl, (jC BK177.out 2).trans rfl⟩ (fun hHeld => ?_)
        clear hK K
        refine norm_ (a' := ?_) ?_ ?_
        rotate_left
        ·show Act.put _ (some 13) _ = _
         simp only [Act.put, jB, jE, jF, i64_w, i32_w]
         rfl
        refine one_ (i := 2) (N := some 15) m7_7c rfl rfl zr (by decide) (fun K hK => ?_)
        refine Kd.R_append_rows_step k36 (w0 := w) w.heap.size (by rfl) (.tmp 13) (.tmp 14) 25 36 (.agg #[(.int .i64 0), (.int .i64 0), (.bool false)]) 24 rfl Try.underlying25 info36 rfl (by decide) (by omega) v180 y179 l0 _ _ _ (fun k_ => some k_ ≠ (v186 : Value).ownBlock ∧ k_ ≠ gb177) (fun _ => False) rfl rfl ?aO ?aR (fun _ _ h => h) (fun _ h => h.elim) ?aF ?aB ?aS ?aL ?_
        (case aR => repeat (first | exact HR0.out | exact (Kd.C_below HR0.out HB.out) | (with_reducible refine jN ?_ _) | (with_reducible refine jM ?_ _) | (with_reducible refine jT ?_)))
        (case aB => exact (zb1 HB GE177))
        (case aF => exact (fun k_ hk => ⟨Kd.fresh' (Kd.R_lt (zo HO187)) k_ hk, Kd.freshB (g := gb177) (o := .cells #[.int .i64 a1_0, .int .i64 a1_1, .bool a1_2] 36 (0, 0)) (zk BK177) k_ hk⟩))
        (case aO => exact (by (with_reducible repeat (first | apply jR | apply jQ | apply jS)); exact Kd.R_mono HO181.out (fun _ hk => ⟨hk.1.2, hk.2⟩)))
        (case aS => exact (jP (zb1 HB GE177)))
        (case aL => have := LMc8.out; omega)
        intro v183 w19 ho hb hg hat
        rw [← Ny182.out] at ho
        have n0_ := jA (blk_grown (g := gb177) (o := .cells #[.int .i64 a1_0, .int .i64 a1_1, .bool a1_2] 36 (0, 0)) (zk BK177) hg (Kd.R_away HO181.out (fun _ hk => hk.2)))
        have n1_ := jA (Kd.R_after (ok := (fun k_ => k_ ≠ gb177)) (by (with_reducible repeat (first | apply jR | apply jQ | apply jS)); exact Kd.R_mono HO187.out (fun _ hk => ⟨hk.1.2, hk.2⟩)) hg hat)
        have n2_ := jA (hb)
        have n3_ := jA (ho)
        clear BK177
        clear HO187
        clear HB
        clear HO181
        have BK177 := n0_
        have HO187 := n1_
        have HB := n2_
        have HO184 := n3_
        clear n0_ n1_ n2_ n3_
        clear ho hb hg hat
        refine hK.out _ _ ⟨(jC BK177.out 0).trans rfl, (jC BK177.out 1).trans rfl, (jC BK177.out 2).trans rfl⟩ (fun hHeld => ?_)
        clear hK K
        refine norm_ (a' := ?_) ?_ ?_
        rotate_left
        ·show Act.put _ (some 15) _ = _
         simp only [Act.put, jB, jE, jF, i64_w, i32_w]
         rfl
        exact norm_ (by simp only [putAll, Act.put, jB, jE, jF]) (hCont (v180, v183, v186) _ ⟨hHeld, (zo HO184), (by (with_reducible repeat (first | apply jR | apply jQ | apply jS)); exact Kd.R_mono HO187.out (fun _ hk => ⟨hk.2, hk.1⟩)), (zk BK177), (zb1 HB GE177)⟩)
      rintro ⟨v180, v183, v186⟩ w20 ⟨hS_, h0_, h1_, h2_, h3_⟩
      have n0_ : Aside0 (Kd.R k36 36 w20 w.heap.size (fun k_ => some k_ ≠ (v186 : Value).ownBlock ∧ k_ ≠ gb177) v183 y182) := ⟨h0_⟩
      have n1_ : Aside0 (Kd.R k36 36 w20 w.heap.size (fun k_ => some k_ ≠ (v183 : Value).ownBlock ∧ k_ ≠ gb177) v186 y185) := ⟨h1_⟩
      have n2_ : Aside0 (w20.heap[gb177]? = some (.cells #[.int .i64 a1_0, .int .i64 a1_1, .bool a1_2] 36 (0, 0))) := ⟨h2_⟩
      have n3_ : Aside0 (Below w.heap.size w w20) := ⟨h3_⟩
      clear BK177
      clear HB
      clear h0_ h1_ h2_ h3_
      have HO184 := n0_
      have HO187 := n1_
      have BK177 := n2_
      have HB := n3_
      clear n0_ n1_ n2_ n3_
      have hHeld : w20.cell? ⟨gb177, 0, none⟩ = some (.int .i64 a1_0) ∧ w20.cell? ⟨gb177, 1, none⟩ = some (.int .i64 a1_1) ∧ w20.cell? ⟨gb177, 2, none⟩ = some (.bool a1_2) := hS_
      obtain ⟨Ao22, co22, eo22⟩ := Kd.R_slice HO187.out
      (first | subst eo22 | (injection eo22 with f1_ f2_ f3_; have f4_ := f1_.symm; have f5_ := f3_.symm; clear f1_ f2_ f3_; subst f4_; subst f5_))
      refine norm_ (a' := ?_) ?_ ?_
      rotate_left
      ·simp only [putAll, Act.put, jB, jE, jF]
       rfl
      refine one_ (i := 5) (N := some 18) m7_7e rfl rfl zr (by decide) (fun K hK => ?_)
      refine Kd.R_append_rows_step k36 (w0 := w) w.heap.size (by rfl) (.tmp 15) (.tmp 17) 25 36 (.agg #[(.int .i64 0), (.int .i64 0), (.bool false)]) 24 rfl Try.underlying25 info36 rfl (by decide) (by omega) v183 y182 y185 _ _ _ (fun k_ => some k_ ≠ (.slice Ao22 y185.length co22 : Value).ownBlock ∧ k_ ≠ gb177) (fun _ => False) rfl rfl ?aO ?aR (fun _ _ h => h) (fun _ h => h.elim) ?aF ?aB ?aS ?aL ?_
      (case aR => repeat (first | exact (jD HO187.out).2.2 | (with_reducible refine jN ?_ _) | (with_reducible refine jM ?_ _) | (with_reducible refine jT ?_)))
      (case aB => exact (zb1 HB GE177))
      (case aF => exact (fun k_ hk => ⟨Kd.fresh' (Kd.R_lt (zo HO187)) k_ hk, Kd.freshB (g := gb177) (o := .cells #[.int .i64 a1_0, .int .i64 a1_1, .bool a1_2] 36 (0, 0)) (zk BK177) k_ hk⟩))
      (case aO => exact (zo HO184))
      (case aS => exact (jP (zb1 HB GE177)))
      (case aL => have := LMc9.out; omega)
      intro v189 w21 ho hb hg hat
      rw [← Ny188.out] at ho
      have n0_ := jA (blk_grown (g := gb177) (o := .cells #[.int .i64 a1_0, .int .i64 a1_1, .bool a1_2] 36 (0, 0)) (zk BK177) hg (Kd.R_away HO184.out (fun _ hk => hk.2)))
      have n1_ := jA (Kd.R_after (ok := (fun k_ => k_ ≠ gb177)) (by (with_reducible repeat (first | apply jR | apply jQ | apply jS)); exact Kd.R_mono HO187.out (fun _ hk => ⟨hk.2, hk.1⟩)) hg hat)
      have n2_ := jA (hb)
      have n3_ := jA (ho)
      clear BK177
      clear HO187
      clear HB
      clear HO184
      have BK177 := n0_
      have HO187 := n1_
      have HB := n2_
      have HO190 := n3_
      clear n0_ n1_ n2_ n3_
      clear ho hb hg hat
      refine hK.out _ _ ⟨(jC BK177.out 0).trans rfl, (jC BK177.out 1).trans rfl, (jC BK177.out 2).trans rfl⟩ (fun hHeld => ?_)
      clear hK K
      refine norm_ (a' := ?_) ?_ ?_
      rotate_left
      ·show Act.put _ (some 18) _ = _
       simp only [Act.put, jB, jE, jF, i64_w, i32_w]
       rfl
      refine pure_ (i := 6) (N := some 6) (v := ?_) (a' := ?_) m7_7f rfl rfl zr (fun _ _ _ h => h) (Or.inl ⟨by rfl, ?_⟩) ?_ ?_
      rotate_left
      ·intro w'
       go_simp
       with_reducible rfl
      rotate_left
      ·simp only [Act.put, jB, jE, jF, i64_w, i32_w]
       rfl
      refine done_ zr ?_
      obtain ⟨Ao23, co23, eo23⟩ := Kd.R_slice HO190.out
      subst eo23
      try go_wp2_with (first | ((with_reducible refine jU (f := 16) rfl ?_); refine goesL_ (some 20) rfl rfl Try.func16 zr rfl #[.slice Ao23 y188.length co23] rfl zm ?_; (with_reducible refine (impl_AreTries.calls k _ _ y188 true _ ?side1 ?side2 A10.out).mono ?_); (case side1 => repeat (first | exact (jD HO190.out).2.2 | (with_reducible refine jN ?_ _) | (with_reducible refine jM ?_ _) | (with_reducible refine jT ?_))); (case side2 => exact (jD HO190.out).2.1); rintro e w24 ⟨rfl, hb⟩; refine ⟨_, rfl, ?_⟩; have n0_ := jA (jK (zo HO187) hb); have n1_ := jA (jK (zo HO190) hb); have n2_ := jA (jb (g := gb177) (o := .cells #[.int .i64 a1_0, .int .i64 a1_1, .bool a1_2] 36 (0, 0)) (zk BK177) hb); have n3_ := jA (jH (zb1 HB GE177) hb); clear HO187; clear HO190; clear BK177; clear HB; have HO187 := n0_; have HO190 := n1_; have BK177 := n2_; have HB := n3_; clear n0_ n1_ n2_ n3_; (try clear hb); (try clear hb2); (try clear hk); (try clear hi)))
      go_ret2
      exact ⟨_, by first | rfl | (simp [errW_none, errW_some] <;> rfl) | (simp [*, errW_none, errW_some] <;> rfl), by (with_reducible repeat (first | apply jR | apply jQ | apply jS)); exact Kd.R_mono HO190.out (fun _ hk => trivial), zb1 HB GE177⟩
     ·replace c11 := Bool.eq_false_iff.mpr c11
      subst c11
      have H1 : (some (([] : List (S36)), 5)) = some (r1, r2) := by rw [if_neg (show ¬ (false = true) by decide)] at H; exact H
      clear H
      have H := H1
      clear H1
      simp only [jf, jh] at H
      obtain ⟨rfl, rfl⟩ := H
      go_enter Try.func24, Try.ntmps24
      try go_wp2_with (first | ((with_reducible refine gate_dst (N := 3) rfl ?_); refine box_event ?hg (N := 3) ?hd (cs := #[.int .i64 a1_0, .int .i64 a1_1, .bool a1_2]) (t := 36) ?hr ?_; (case hd => rfl); (case hg => rfl); (case hr => first | (go_simp; done) | (go_simp; rfl)); intro gb177 hg w25 hbox hb; have n0_ := jA (jH (zb0 HB) hb); have n1_ := jA (hbox); have n2_ := jA ((by rw [hg]; exact (jP (zb0 HB)) : w.heap.size ≤ gb177)); have n3_ := jA ((by rw [hg]; exact (jP (zb0 HB)) : w.heap.size ≤ gb177)); clear HB; have HB := n0_; have BK177 := n1_; have GW177 := n2_; have GE177 := n3_; clear n0_ n1_ n2_ n3_; clear hb hbox hg) | ((with_reducible refine jU (f := 16) rfl ?_); refine goesL_ (some 8) rfl rfl Try.func16 zr rfl #[.slice A0 l0.length c0] rfl zm ?_; (with_reducible refine (impl_AreTries.calls k _ _ l0 true _ ?side1 ?side2 A3.out).mono ?_); (case side1 => exact zs HR0 HB); (case side2 => exact HC0.out); rintro e w26 ⟨rfl, hb⟩; refine ⟨_, rfl, ?_⟩; have n0_ := jA (jb (g := gb177) (o := .cells #[.int .i64 a1_0, .int .i64 a1_1, .bool a1_2] 36 (0, 0)) (zk BK177) hb); have n1_ := jA (jH (zb1 HB GE177) hb); clear BK177; clear HB; have BK177 := n0_; have HB := n1_; clear n0_ n1_; (try clear hb); (try clear hb2); (try clear hk); (try clear hi)))
      have n0_ := jA (jW BK177.out)
      have n1_ := jA (jL HB.out)
      clear BK177
      clear HB
      have BK177 := n0_
      have HB := n1_
      clear n0_ n1_
      refine start_ (n := 7) (S := fun w' => w'.cell? ⟨gb177, 0, none⟩ = some (.int .i64 a1_0) ∧ w'.cell? ⟨gb177, 1, none⟩ = some (.int .i64 a1_1) ∧ w'.cell? ⟨gb177, 2, none⟩ = some (.bool a1_2)) (ds := []) m7_0 zr rfl rfl ⟨(jC BK177.out 0).trans rfl, (jC BK177.out 1).trans rfl, (jC BK177.out 2).trans rfl⟩ (fun hHeld => ?_)
      generalize w26.drew = w27 at BK177 HB hHeld ⊢
      refine pure_ (i := 1) (N := some 14) (v := ?_) (a' := ?_) m7_20 rfl rfl zr (fun _ _ _ h => h) (Or.inl ⟨by rfl, ?_⟩) ?_ ?_
      rotate_left
      ·intro w'
       go_simp
       with_reducible rfl
      rotate_left
      ·simp only [Act.put, jB, jE, jF, i64_w, i32_w]
       rfl
      refine take_ (i := 3) (N := some 16) (v := ?_) (a' := ?_) m7_28 rfl rfl zr (fun _ _ _ h => h) (Or.inl ⟨by rfl, ?_⟩) hHeld ?_ ?_
      rotate_left
      ·rintro w' ⟨s0, s1, s2⟩
       go_simp
       with_reducible rfl
      rotate_left
      ·simp only [Act.put, jB, jE, jF, i64_w, i32_w]
       rfl
      refine join_ (σ := Value × Value × Value) 2 m7_7c (fun s_ => [(13, s_.1), (15, s_.2.1), (17, s_.2.2)]) (fun s_ w' => (w'.cell? ⟨gb177, 0, none⟩ = some (.int .i64 a1_0) ∧ w'.cell? ⟨gb177, 1, none⟩ = some (.int .i64 a1_1) ∧ w'.cell? ⟨gb177, 2, none⟩ = some (.bool a1_2)) ∧ (Kd.R k36 36 w' w.heap.size (fun k_ => some k_ ≠ (s_.2.2 : Value).ownBlock ∧ k_ ≠ gb177) s_.2.1 y182) ∧ (Kd.R k36 36 w' w.heap.size (fun k_ => some k_ ≠ (s_.2.1 : Value).ownBlock ∧ k_ ≠ gb177) s_.2.2 y185) ∧ (w'.heap[gb177]? = some (.cells #[.int .i64 a1_0, .int .i64 a1_1, .bool a1_2] 36 (0, 0))) ∧ (Below w.heap.size w w')) ?_ ?_
      rotate_left
      ·intro hCont
       refine two_ (i := 0) (j := 4) (Ni := some 13) (Nj := some 17) m7_68 m7_2c rfl rfl rfl rfl zr (by decide) (by decide) (fun K hK => ?_) (fun K hK => ?_)
       ·skip
        refine Kd.R_lit_step k36 _ 36 ?hg (N := 13) ?hd (xs := ([] : List (S36))) (inner := []) (ok := fun _ => True) (okp := fun _ => True) ?hr ?hp (fun _ hk => hk) trivial (Below.refl _ _) (Nat.le_refl _) (by simp) ?_; (case hd => rfl); (case hg => rfl); (case hr => first | (go_simp; done) | (go_simp; rfl)); (case hp => exact (Reps.none _ _))
        intro v180 w28 ho29 hb hg_ hnew_
        clear hg_ hnew_
        (first | rw [← Ny179.out] at ho29 | (simp only [Int.reduceToNat] at ho29; rw [← Ny179.out] at ho29))
        have n0_ := jA (jc (Kd.R_newB ho29 (g := gb177) (o := .cells #[.int .i64 a1_0, .int .i64 a1_1, .bool a1_2] 36 (0, 0)) (zk BK177)) (jP (zb1 HB GE177)))
        have n1_ := jA (jb (g := gb177) (o := .cells #[.int .i64 a1_0, .int .i64 a1_1, .bool a1_2] 36 (0, 0)) (zk BK177) hb)
        have n2_ := jA (jH (zb1 HB GE177) hb)
        clear BK177
        clear HB
        have HO181 := n0_
        have BK177 := n1_
        have HB := n2_
        clear n0_ n1_ n2_
        clear hb ho29
        refine hK.out _ _ ⟨(jC BK177.out 0).trans rfl, (jC BK177.out 1).trans rfl, (jC BK177.out 2).trans rfl⟩ (fun hHeld => ?_)
        clear hK K
        refine norm_ (a' := ?_) ?_ ?_
        rotate_left
        ·show Act.put _ (some 13) _ = _
         simp only [Act.put, jB, jE, jF, i64_w, i32_w]
         rfl
        refine two_ (i := 2) (j := 4) (Ni := some 15) (Nj := some 17) m7_78 m7_6c rfl rfl rfl rfl zr (by decide) (by decide) (fun K hK => ?_) (fun K hK => ?_)
        ·skip
         refine Kd.R_append_rows_step k36 (w0 := w) w.heap.size (by rfl) (.tmp 13) (.tmp 14) 25 36 (.agg #[(.int .i64 0), (.int .i64 0), (.bool false)]) 24 rfl Try.underlying25 info36 rfl (by decide) (by omega) v180 y179 l0 _ _ _ (fun k_ => k_ ≠ gb177) (fun _ => False) rfl rfl ?aO ?aR (fun _ _ h => h) (fun _ h => h.elim) ?aF ?aB ?aS ?aL ?_
         (case aR => repeat (first | exact HR0.out | exact (Kd.C_below HR0.out HB.out) | (with_reducible refine jN ?_ _) | (with_reducible refine jM ?_ _) | (with_reducible refine jT ?_)))
         (case aB => exact (zb1 HB GE177))
         (case aF => exact (fun k_ hk => Kd.freshB (g := gb177) (o := .cells #[.int .i64 a1_0, .int .i64 a1_1, .bool a1_2] 36 (0, 0)) (zk BK177) k_ hk))
         (case aO => exact (by (with_reducible repeat (first | apply jR | apply jQ | apply jS)); exact Kd.R_mono HO181.out (fun _ hk => hk.2)))
         (case aS => exact (jP (zb1 HB GE177)))
         (case aL => have := LMc8.out; omega)
         intro v183 w30 ho hb hg hat
         rw [← Ny182.out] at ho
         have n0_ := jA (blk_grown (g := gb177) (o := .cells #[.int .i64 a1_0, .int .i64 a1_1, .bool a1_2] 36 (0, 0)) (zk BK177) hg (Kd.R_away HO181.out (fun _ hk => hk.2)))
         have n1_ := jA (hb)
         have n2_ := jA (ho)
         clear BK177
         clear HB
         clear HO181
         have BK177 := n0_
         have HB := n1_
         have HO184 := n2_
         clear n0_ n1_ n2_
         clear ho hb hg hat
         refine hK.out _ _ ⟨(jC BK177.out 0).trans rfl, (jC BK177.out 1).trans rfl, (jC BK177.out 2).trans rfl⟩ (fun hHeld => ?_)
         clear hK K
         refine norm_ (a' := ?_) ?_ ?_
         rotate_left
         ·show Act.put _ (some 15) _ = _
          simp only [Act.put, jB, jE, jF, i64_w, i32_w]
          rfl
         refine one_ (i := 4) (N := some 17) m7_7c rfl rfl zr (by decide) (fun K hK => ?_)
         refine Kd.R_lit_step k36 _ 36 ?hg (N := 17) ?hd (xs := ([(⟨a1_0, a1_1, a1_2⟩ : S36)] : List (S36))) (inner := [.int .i64 a1_0, .int .i64 a1_1, .bool a1_2]) (ok := fun _ => True) (okp := fun _ => True) ?hr ?hp (fun _ hk => hk) trivial (Below.refl _ _) (Nat.le_refl _) (by simp) ?_; (case hd => rfl); (case hg => rfl); (case hr => first | (go_simp; done) | (go_simp; rfl)); (case hp => exact (Reps.c3 (show Kd.M k36 _ _ _ (⟨a1_0, a1_1, a1_2⟩ : S36) [.int .i64 a1_0, .int .i64 a1_1, .bool a1_2] from (k36_mkM _ _ _ (⟨a1_0, a1_1, a1_2⟩ : S36) )) (Reps.none _ _)))
         intro v186 w31 ho32 hb hg_ hnew_
         clear hg_ hnew_
         (first | rw [← Ny185.out] at ho32 | (simp only [Int.reduceToNat] at ho32; rw [← Ny185.out] at ho32))
         have n0_ := jA (Kd.R_elder' (zo HO184) (Kd.R_base ho32) hb)
         have n1_ := jA (jc (Kd.R_newB (Kd.R_new' ho32 (Kd.R_lt (zo HO184))) (g := gb177) (o := .cells #[.int .i64 a1_0, .int .i64 a1_1, .bool a1_2] 36 (0, 0)) (zk BK177)) (jP (zb1 HB GE177)))
         have n2_ := jA (jb (g := gb177) (o := .cells #[.int .i64 a1_0, .int .i64 a1_1, .bool a1_2] 36 (0, 0)) (zk BK177) hb)
         have n3_ := jA (jH (zb1 HB GE177) hb)
         clear HO184
         clear BK177
         clear HB
         have HO184 := n0_
         have HO187 := n1_
         have BK177 := n2_
         have HB := n3_
         clear n0_ n1_ n2_ n3_
         clear hb ho32
         refine hK.out _ _ ⟨(jC BK177.out 0).trans rfl, (jC BK177.out 1).trans rfl, (jC BK177.out 2).trans rfl⟩ (fun hHeld => ?_)
         clear hK K
         refine norm_ (a' := ?_) ?_ ?_
         rotate_left
         ·show Act.put _ (some 17) _ = _
          simp only [Act.put, jB, jE, jF, i64_w, i32_w]
          rfl
         exact norm_ (by simp only [putAll, Act.put, jB, jE, jF]) (hCont (v180, v183, v186) _ ⟨hHeld, (by (with_reducible repeat (first | apply jR | apply jQ | apply jS)); exact Kd.R_mono HO184.out (fun _ hk => ⟨hk.2, hk.1⟩)), (by (with_reducible repeat (first | apply jR | apply jQ | apply jS)); exact Kd.R_mono HO187.out (fun _ hk => ⟨hk.1.2, hk.2⟩)), (zk BK177), (zb1 HB GE177)⟩)
        ·skip
         refine Kd.R_lit_step k36 _ 36 ?hg (N := 17) ?hd (xs := ([(⟨a1_0, a1_1, a1_2⟩ : S36)] : List (S36))) (inner := [.int .i64 a1_0, .int .i64 a1_1, .bool a1_2]) (ok := fun _ => True) (okp := fun _ => True) ?hr ?hp (fun _ hk => hk) trivial (Below.refl _ _) (Nat.le_refl _) (by simp) ?_; (case hd => rfl); (case hg => rfl); (case hr => first | (go_simp; done) | (go_simp; rfl)); (case hp => exact (Reps.c3 (show Kd.M k36 _ _ _ (⟨a1_0, a1_1, a1_2⟩ : S36) [.int .i64 a1_0, .int .i64 a1_1, .bool a1_2] from (k36_mkM _ _ _ (⟨a1_0, a1_1, a1_2⟩ : S36) )) (Reps.none _ _)))
         intro v186 w30 ho31 hb hg_ hnew_
         clear hg_ hnew_
         (first | rw [← Ny185.out] at ho31 | (simp only [Int.reduceToNat] at ho31; rw [← Ny185.out] at ho31))
         have n0_ := jA (Kd.R_elder' (zo HO181) (Kd.R_base ho31) hb)
         have n1_ := jA (jc (Kd.R_newB (Kd.R_new' ho31 (Kd.R_lt (zo HO181))) (g := gb177) (o := .cells #[.int .i64 a1_0, .int .i64 a1_1, .bool a1_2] 36 (0, 0)) (zk BK177)) (jP (zb1 HB GE177)))
         have n2_ := jA (jb (g := gb177) (o := .cells #[.int .i64 a1_0, .int .i64 a1_1, .bool a1_2] 36 (0, 0)) (zk BK177) hb)
         have n3_ := jA (jH (zb1 HB GE177) hb)
         clear HO181
         clear BK177
         clear HB
         have HO181 := n0_
         have HO187 := n1_
         have BK177 := n2_
         have HB := n3_
         clear n0_ n1_ n2_ n3_
         clear hb ho31
         refine hK.out _ _ ⟨(jC BK177.out 0).trans rfl, (jC BK177.out 1).trans rfl, (jC BK177.out 2).trans rfl⟩ (fun hHeld => ?_)
         clear hK K
         refine norm_ (a' := ?_) ?_ ?_
         rotate_left
         ·show Act.put _ (some 17) _ = _
          simp only [Act.put, jB, jE, jF, i64_w, i32_w]
          rfl
         refine one_ (i := 2) (N := some 15) m7_7c rfl rfl zr (by decide) (fun K hK => ?_)
         refine Kd.R_append_rows_step k36 (w0 := w) w.heap.size (by rfl) (.tmp 13) (.tmp 14) 25 36 (.agg #[(.int .i64 0), (.int .i64 0), (.bool false)]) 24 rfl Try.underlying25 info36 rfl (by decide) (by omega) v180 y179 l0 _ _ _ (fun k_ => some k_ ≠ (v186 : Value).ownBlock ∧ k_ ≠ gb177) (fun _ => False) rfl rfl ?aO ?aR (fun _ _ h => h) (fun _ h => h.elim) ?aF ?aB ?aS ?aL ?_
         (case aR => repeat (first | exact HR0.out | exact (Kd.C_below HR0.out HB.out) | (with_reducible refine jN ?_ _) | (with_reducible refine jM ?_ _) | (with_reducible refine jT ?_)))
         (case aB => exact (zb1 HB GE177))
         (case aF => exact (fun k_ hk => ⟨Kd.fresh' (Kd.R_lt (zo HO187)) k_ hk, Kd.freshB (g := gb177) (o := .cells #[.int .i64 a1_0, .int .i64 a1_1, .bool a1_2] 36 (0, 0)) (zk BK177) k_ hk⟩))
         (case aO => exact (by (with_reducible repeat (first | apply jR | apply jQ | apply jS)); exact Kd.R_mono HO181.out (fun _ hk => ⟨hk.2, hk.1.2⟩)))
         (case aS => exact (jP (zb1 HB GE177)))
         (case aL => have := LMc8.out; omega)
         intro v183 w32 ho hb hg hat
         rw [← Ny182.out] at ho
         have n0_ := jA (blk_grown (g := gb177) (o := .cells #[.int .i64 a1_0, .int .i64 a1_1, .bool a1_2] 36 (0, 0)) (zk BK177) hg (Kd.R_away HO181.out (fun _ hk => hk.1.2)))
         have n1_ := jA (Kd.R_after (ok := (fun k_ => k_ ≠ gb177)) (by (with_reducible repeat (first | apply jR | apply jQ | apply jS)); exact Kd.R_mono HO187.out (fun _ hk => ⟨hk.2, hk.1.2⟩)) hg hat)
         have n2_ := jA (hb)
         have n3_ := jA (ho)
         clear BK177
         clear HO187
         clear HB
         clear HO181
         have BK177 := n0_
         have HO187 := n1_
         have HB := n2_
         have HO184 := n3_
         clear n0_ n1_ n2_ n3_
         clear ho hb hg hat
         refine hK.out _ _ ⟨(jC BK177.out 0).trans rfl, (jC BK177.out 1).trans rfl, (jC BK177.out 2).trans rfl⟩ (fun hHeld => ?_)
         clear hK K
         refine norm_ (a' := ?_) ?_ ?_
         rotate_left
         ·show Act.put _ (some 15) _ = _
          simp only [Act.put, jB, jE, jF, i64_w, i32_w]
          rfl
         exact norm_ (by simp only [putAll, Act.put, jB, jE, jF]) (hCont (v180, v183, v186) _ ⟨hHeld, (zo HO184), (by (with_reducible repeat (first | apply jR | apply jQ | apply jS)); exact Kd.R_mono HO187.out (fun _ hk => ⟨hk.2, hk.1⟩)), (zk BK177), (zb1 HB GE177)⟩)
       ·skip
        refine Kd.R_lit_step k36 _ 36 ?hg (N := 17) ?hd (xs := ([(⟨a1_0, a1_1, a1_2⟩ : S36)] : List (S36))) (inner := [.int .i64 a1_0, .int .i64 a1_1, .bool a1_2]) (ok := fun _ => True) (okp := fun _ => True) ?hr ?hp (fun _ hk => hk) trivial (Below.refl _ _) (Nat.le_refl _) (by simp) ?_; (case hd => rfl); (case hg => rfl); (case hr => first | (go_simp; done) | (go_simp; rfl)); (case hp => exact (Reps.c3 (show Kd.M k36 _ _ _ (⟨a1_0, a1_1, a1_2⟩ : S36) [.int .i64 a1_0, .int .i64 a1_1, .bool a1_2] from (k36_mkM _ _ _ (⟨a1_0, a1_1, a1_2⟩ : S36) )) (Reps.none _ _)))
        intro v186 w28 ho29 hb hg_ hnew_
        clear hg_ hnew_
        (first | rw [← Ny185.out] at ho29 | (simp only [Int.reduceToNat] at ho29; rw [← Ny185.out] at ho29))
        have n0_ := jA (jc (Kd.R_newB ho29 (g := gb177) (o := .cells #[.int .i64 a1_0, .int .i64 a1_1, .bool a1_2] 36 (0, 0)) (zk BK177)) (jP (zb1 HB GE177)))
        have n1_ := jA (jb (g := gb177) (o := .cells #[.int .i64 a1_0, .int .i64 a1_1, .bool a1_2] 36 (0, 0)) (zk BK177) hb)
        have n2_ := jA (jH (zb1 HB GE177) hb)
        clear BK177
        clear HB
        have HO187 := n0_
        have BK177 := n1_
        have HB := n2_
        clear n0_ n1_ n2_
        clear hb ho29
        refine hK.out _ _ ⟨(jC BK177.out 0).trans rfl, (jC BK177.out 1).trans rfl, (jC BK177.out 2).trans rfl⟩ (fun hHeld => ?_)
        clear hK K
        refine norm_ (a' := ?_) ?_ ?_
        rotate_left
        ·show Act.put _ (some 17) _ = _
         simp only [Act.put, jB, jE, jF, i64_w, i32_w]
         rfl
        refine one_ (i := 0) (N := some 13) m7_6c rfl rfl zr (by decide) (fun K hK => ?_)
        refine Kd.R_lit_step k36 _ 36 ?hg (N := 13) ?hd (xs := ([] : List (S36))) (inner := []) (ok := fun _ => True) (okp := fun _ => True) ?hr ?hp (fun _ hk => hk) trivial (Below.refl _ _) (Nat.le_refl _) (by simp) ?_; (case hd => rfl); (case hg => rfl); (case hr => first | (go_simp; done) | (go_simp; rfl)); (case hp => exact (Reps.none _ _))
        intro v180 w30 ho31 hb hg_ hnew_
        clear hg_ hnew_
        (first | rw [← Ny179.out] at ho31 | (simp only [Int.reduceToNat] at ho31; rw [← Ny179.out] at ho31))
        have n0_ := jA (Kd.R_elder' (zo HO187) (Kd.R_base ho31) hb)
        have n1_ := jA (jc (Kd.R_newB (Kd.R_new' ho31 (Kd.R_lt (zo HO187))) (g := gb177) (o := .cells #[.int .i64 a1_0, .int .i64 a1_1, .bool a1_2] 36 (0, 0)) (zk BK177)) (jP (zb1 HB GE177)))
        have n2_ := jA (jb (g := gb177) (o := .cells #[.int .i64 a1_0, .int .i64 a1_1, .bool a1_2] 36 (0, 0)) (zk BK177) hb)
        have n3_ := jA (jH (zb1 HB GE177) hb)
        clear HO187
        clear BK177
        clear HB
        have HO187 := n0_
        have HO181 := n1_
        have BK177 := n2_
        have HB := n3_
        clear n0_ n1_ n2_ n3_
        clear hb ho31
        refine hK.out _ _ ⟨(jC BK177.out 0).trans rfl, (jC BK177.out 1).trans rfl, (jC BK177.out 2).trans rfl⟩ (fun hHeld => ?_)
        clear hK K
        refine norm_ (a' := ?_) ?_ ?_
        rotate_left
        ·show Act.put _ (some 13) _ = _
         simp only [Act.put, jB, jE, jF, i64_w, i32_w]
         rfl
        refine one_ (i := 2) (N := some 15) m7_7c rfl rfl zr (by decide) (fun K hK => ?_)
        refine Kd.R_append_rows_step k36 (w0 := w) w.heap.size (by rfl) (.tmp 13) (.tmp 14) 25 36 (.agg #[(.int .i64 0), (.int .i64 0), (.bool false)]) 24 rfl Try.underlying25 info36 rfl (by decide) (by omega) v180 y179 l0 _ _ _ (fun k_ => some k_ ≠ (v186 : Value).ownBlock ∧ k_ ≠ gb177) (fun _ => False) rfl rfl ?aO ?aR (fun _ _ h => h) (fun _ h => h.elim) ?aF ?aB ?aS ?aL ?_
        (case aR => repeat (first | exact HR0.out | exact (Kd.C_below HR0.out HB.out) | (with_reducible refine jN ?_ _) | (with_reducible refine jM ?_ _) | (with_reducible refine jT ?_)))
        (case aB => exact (zb1 HB GE177))
        (case aF => exact (fun k_ hk => ⟨Kd.fresh' (Kd.R_lt (zo HO187)) k_ hk, Kd.freshB (g := gb177) (o := .cells #[.int .i64 a1_0, .int .i64 a1_1, .bool a1_2] 36 (0, 0)) (zk BK177) k_ hk⟩))
        (case aO => exact (by (with_reducible repeat (first | apply jR | apply jQ | apply jS)); exact Kd.R_mono HO181.out (fun _ hk => ⟨hk.1.2, hk.2⟩)))
        (case aS => exact (jP (zb1 HB GE177)))
        (case aL => have := LMc8.out; omega)
        intro v183 w32 ho hb hg hat
        rw [← Ny182.out] at ho
        have n0_ := jA (blk_grown (g := gb177) (o := .cells #[.int .i64 a1_0, .int .i64 a1_1, .bool a1_2] 36 (0, 0)) (zk BK177) hg (Kd.R_away HO181.out (fun _ hk => hk.2)))
        have n1_ := jA (Kd.R_after (ok := (fun k_ => k_ ≠ gb177)) (by (with_reducible repeat (first | apply jR | apply jQ | apply jS)); exact Kd.R_mono HO187.out (fun _ hk => ⟨hk.1.2, hk.2⟩)) hg hat)
        have n2_ := jA (hb)
        have n3_ := jA (ho)
        clear BK177
        clear HO187
        clear HB
        clear HO181
        have BK177 := n0_
        have HO187 := n1_
        have HB := n2_
        have HO184 := n3_
        clear n0_ n1_ n2_ n3_
        clear ho hb hg hat
        refine hK.out _ _ ⟨(jC BK177.out 0).trans rfl, (jC BK177.out 1).trans rfl, (jC BK177.out 2).trans rfl⟩ (fun hHeld => ?_)
        clear hK K
        refine norm_ (a' := ?_) ?_ ?_
        rotate_left
        ·show Act.put _ (some 15) _ = _
         simp only [Act.put, jB, jE, jF, i64_w, i32_w]
         rfl
        exact norm_ (by simp only [putAll, Act.put, jB, jE, jF]) (hCont (v180, v183, v186) _ ⟨hHeld, (zo HO184), (by (with_reducible repeat (first | apply jR | apply jQ | apply jS)); exact Kd.R_mono HO187.out (fun _ hk => ⟨hk.2, hk.1⟩)), (zk BK177), (zb1 HB GE177)⟩)
      rintro ⟨v180, v183, v186⟩ w33 ⟨hS_, h0_, h1_, h2_, h3_⟩
      have n0_ : Aside0 (Kd.R k36 36 w33 w.heap.size (fun k_ => some k_ ≠ (v186 : Value).ownBlock ∧ k_ ≠ gb177) v183 y182) := ⟨h0_⟩
      have n1_ : Aside0 (Kd.R k36 36 w33 w.heap.size (fun k_ => some k_ ≠ (v183 : Value).ownBlock ∧ k_ ≠ gb177) v186 y185) := ⟨h1_⟩
      have n2_ : Aside0 (w33.heap[gb177]? = some (.cells #[.int .i64 a1_0, .int .i64 a1_1, .bool a1_2] 36 (0, 0))) := ⟨h2_⟩
      have n3_ : Aside0 (Below w.heap.size w w33) := ⟨h3_⟩
      clear BK177
      clear HB
      clear h0_ h1_ h2_ h3_
      have HO184 := n0_
      have HO187 := n1_
      have BK177 := n2_
      have HB := n3_
      clear n0_ n1_ n2_ n3_
      have hHeld : w33.cell? ⟨gb177, 0, none⟩ = some (.int .i64 a1_0) ∧ w33.cell? ⟨gb177, 1, none⟩ = some (.int .i64 a1_1) ∧ w33.cell? ⟨gb177, 2, none⟩ = some (.bool a1_2) := hS_
      obtain ⟨Ao35, co35, eo35⟩ := Kd.R_slice HO187.out
      (first | subst eo35 | (injection eo35 with f1_ f2_ f3_; have f4_ := f1_.symm; have f5_ := f3_.symm; clear f1_ f2_ f3_; subst f4_; subst f5_))
      refine norm_ (a' := ?_) ?_ ?_
      rotate_left
      ·simp only [putAll, Act.put, jB, jE, jF]
       rfl
      refine one_ (i := 5) (N := some 18) m7_7e rfl rfl zr (by decide) (fun K hK => ?_)
      refine Kd.R_append_rows_step k36 (w0 := w) w.heap.size (by rfl) (.tmp 15) (.tmp 17) 25 36 (.agg #[(.int .i64 0), (.int .i64 0), (.bool false)]) 24 rfl Try.underlying25 info36 rfl (by decide) (by omega) v183 y182 y185 _ _ _ (fun k_ => some k_ ≠ (.slice Ao35 y185.length co35 : Value).ownBlock ∧ k_ ≠ gb177) (fun _ => False) rfl rfl ?aO ?aR (fun _ _ h => h) (fun _ h => h.elim) ?aF ?aB ?aS ?aL ?_
      (case aR => repeat (first | exact (jD HO187.out).2.2 | (with_reducible refine jN ?_ _) | (with_reducible refine jM ?_ _) | (with_reducible refine jT ?_)))
      (case aB => exact (zb1 HB GE177))
      (case aF => exact (fun k_ hk => ⟨Kd.fresh' (Kd.R_lt (zo HO187)) k_ hk, Kd.freshB (g := gb177) (o := .cells #[.int .i64 a1_0, .int .i64 a1_1, .bool a1_2] 36 (0, 0)) (zk BK177) k_ hk⟩))
      (case aO => exact (zo HO184))
      (case aS => exact (jP (zb1 HB GE177)))
      (case aL => have := LMc9.out; omega)
      intro v189 w34 ho hb hg hat
      rw [← Ny188.out] at ho
      have n0_ := jA (blk_grown (g := gb177) (o := .cells #[.int .i64 a1_0, .int .i64 a1_1, .bool a1_2] 36 (0, 0)) (zk BK177) hg (Kd.R_away HO184.out (fun _ hk => hk.2)))
      have n1_ := jA (Kd.R_after (ok := (fun k_ => k_ ≠ gb177)) (by (with_reducible repeat (first | apply jR | apply jQ | apply jS)); exact Kd.R_mono HO187.out (fun _ hk => ⟨hk.2, hk.1⟩)) hg hat)
      have n2_ := jA (hb)
      have n3_ := jA (ho)
      clear BK177
      clear HO187
      clear HB
      clear HO184
      have BK177 := n0_
      have HO187 := n1_
      have HB := n2_
      have HO190 := n3_
      clear n0_ n1_ n2_ n3_
      clear ho hb hg hat
      refine hK.out _ _ ⟨(jC BK177.out 0).trans rfl, (jC BK177.out 1).trans rfl, (jC BK177.out 2).trans rfl⟩ (fun hHeld => ?_)
      clear hK K
      refine norm_ (a' := ?_) ?_ ?_
      rotate_left
      ·show Act.put _ (some 18) _ = _
       simp only [Act.put, jB, jE, jF, i64_w, i32_w]
       rfl
      refine pure_ (i := 6) (N := some 6) (v := ?_) (a' := ?_) m7_7f rfl rfl zr (fun _ _ _ h => h) (Or.inl ⟨by rfl, ?_⟩) ?_ ?_
      rotate_left
      ·intro w'
       go_simp
       with_reducible rfl
      rotate_left
      ·simp only [Act.put, jB, jE, jF, i64_w, i32_w]
       rfl
      refine done_ zr ?_
      obtain ⟨Ao36, co36, eo36⟩ := Kd.R_slice HO190.out
      subst eo36
      try go_wp2_with (first | ((with_reducible refine jU (f := 16) rfl ?_); refine goesL_ (some 20) rfl rfl Try.func16 zr rfl #[.slice Ao36 y188.length co36] rfl zm ?_; (with_reducible refine (impl_AreTries.calls k _ _ y188 false _ ?side1 ?side2 A10.out).mono ?_); (case side1 => repeat (first | exact (jD HO190.out).2.2 | (with_reducible refine jN ?_ _) | (with_reducible refine jM ?_ _) | (with_reducible refine jT ?_))); (case side2 => exact (jD HO190.out).2.1); rintro e w37 ⟨rfl, hb⟩; refine ⟨_, rfl, ?_⟩; have n0_ := jA (jK (zo HO187) hb); have n1_ := jA (jK (zo HO190) hb); have n2_ := jA (jb (g := gb177) (o := .cells #[.int .i64 a1_0, .int .i64 a1_1, .bool a1_2] 36 (0, 0)) (zk BK177) hb); have n3_ := jA (jH (zb1 HB GE177) hb); clear HO187; clear HO190; clear BK177; clear HB; have HO187 := n0_; have HO190 := n1_; have BK177 := n2_; have HB := n3_; clear n0_ n1_ n2_ n3_; (try clear hb); (try clear hb2); (try clear hk); (try clear hi)))
      go_ret2
      exact ⟨_, by first | rfl | (simp [errW_none, errW_some] <;> rfl) | (simp [*, errW_none, errW_some] <;> rfl), by first | exact Kd.R_nil _ _ _ _ _ | exact Kd.N_nil _ _ _ _ _ | exact Kd.V_nil _ _ _ _ _ | exact Kd.Q_nil _ _ _ _ _ | exact Kd.S_nil _ _ _ _ _, zb1 HB GE177⟩
    ·rw [if_neg c9] at H
     exact absurd H (by simp)
   ·rw [if_neg c8] at H
    exact absurd H (by simp)
 ·replace c4 := Bool.eq_false_iff.mpr c4
  subst c4
  have H1 : (some (([] : List (S36)), 1)) = some (r1, r2) := by rw [if_neg (show ¬ (false = true) by decide)] at H; exact H
  clear H
  have H := H1
  clear H1
  simp only [jf, jh] at H
  obtain ⟨rfl, rfl⟩ := H
  go_enter Try.func24, Try.ntmps24
  go_wp2_with (first | ((with_reducible refine gate_dst (N := 3) rfl ?_); refine box_event ?hg (N := 3) ?hd (cs := #[.int .i64 a1_0, .int .i64 a1_1, .bool a1_2]) (t := 36) ?hr ?_; (case hd => rfl); (case hg => rfl); (case hr => first | (go_simp; done) | (go_simp; rfl)); intro gb177 hg w38 hbox hb; have n0_ := jA (jH (zb0 HB) hb); have n1_ := jA (hbox); have n2_ := jA ((by rw [hg]; exact (jP (zb0 HB)) : w.heap.size ≤ gb177)); have n3_ := jA ((by rw [hg]; exact (jP (zb0 HB)) : w.heap.size ≤ gb177)); clear HB; have HB := n0_; have BK177 := n1_; have GW177 := n2_; have GE177 := n3_; clear n0_ n1_ n2_ n3_; clear hb hbox hg) | ((with_reducible refine jU (f := 16) rfl ?_); refine goesL_ (some 8) rfl rfl Try.func16 zr rfl #[.slice A0 l0.length c0] rfl zm ?_; (with_reducible refine (impl_AreTries.calls k _ _ l0 false _ ?side1 ?side2 A3.out).mono ?_); (case side1 => exact zs HR0 HB); (case side2 => exact HC0.out); rintro e w39 ⟨rfl, hb⟩; refine ⟨_, rfl, ?_⟩; have n0_ := jA (jb (g := gb177) (o := .cells #[.int .i64 a1_0, .int .i64 a1_1, .bool a1_2] 36 (0, 0)) (zk BK177) hb); have n1_ := jA (jH (zb1 HB GE177) hb); clear BK177; clear HB; have BK177 := n0_; have HB := n1_; clear n0_ n1_; (try clear hb); (try clear hb2); (try clear hk); (try clear hi)))
  go_ret2
  exact ⟨_, by first | rfl | (simp [errW_none, errW_some] <;> rfl) | (simp [*, errW_none, errW_some] <;> rfl), by first | exact Kd.R_nil _ _ _ _ _ | exact Kd.N_nil _ _ _ _ _ | exact Kd.V_nil _ _ _ _ _ | exact Kd.Q_nil _ _ _ _ _ | exact Kd.S_nil _ _ _ _ _, zb1 HB GE177⟩

end Go.Proofs.Ythnpffomoaeeoaa.PFnTries
