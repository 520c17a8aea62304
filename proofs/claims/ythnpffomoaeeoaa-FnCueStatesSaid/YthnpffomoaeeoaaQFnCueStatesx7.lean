/- Functions and contracts that FnCueStates reaches (8 of 11). -/
import Derived.Test.YthnpffomoaeeoaaQFnCueStatesx6
namespace Go.Proofs.Ythnpffomoaeeoaa.PFnCueStates
open Go.RowKit Go.Proofs.YthnpffomoaeeoaaW.PrintWords Go.Proofs.YthnpffomoaeeoaaW.PrintLast Go.Proofs.YthnpffomoaeeoaaW.PrintMore
attribute [local go_sem] max2_int min2_int max_two min_two max_three min_three max_four min_four   -- for this text's walks alone
set_option linter.unusedVariables false
set_option linter.unusedSimpArgs false

/-! ### spec_AddTry: function 22 -/
def spec_AddTry.f (k : Nat) (l0 : List (S36)) (a1_0 : Int) (a1_1 : Int) (a1_2 : Bool) : Option ((List (S36)) × Int) := (spec_AreTries.f k l0).bind fun t243 => (if t243 = true then (if (l0.length : Int) = 40 then (some (([] : List (S36)), 3)) else ((some (([] : List (S36)) : List (S36))).bind fun y244 => (if y244.length + l0.length < 5864062014805 then ((some (y244 ++ l0 : List (S36))).bind fun y247 => ((some (([(⟨a1_0, a1_1, a1_2⟩ : S36)] : List (S36)) : List (S36))).bind fun y250 => (if y247.length + y250.length < 5864062014805 then ((some (y247 ++ y250 : List (S36))).bind fun y253 => ((spec_AreTries.f k y253).bind fun t256 => (if t256 = true then (some (y253, 0)) else (some (([] : List (S36)), 5))))) else (none)))) else (none)))) else (some (([] : List (S36)), 1)))
theorem spec_AddTry.mono : ∀ a0 a1 a2 a3 k, LeO (spec_AddTry.f k a0 a1 a2 a3) (spec_AddTry.f (k + 1) a0 a1 a2 a3) := by
 intro a0 a1 a2 a3 k
 unfold spec_AddTry.f
 repeat' first
   | (with_reducible exact spec_AreTries.mono _ _)
   | (with_reducible exact LeO.refl _)
   | (with_reducible exact LeO.none _)
   | (with_reducible refine LeO.ite ?_ ?_)
   | (with_reducible refine LeO.bind ?_ (fun _ => ?_))
   | exact spec_AreTries.mono _ _
   | exact LeO.none _
   | refine LeO.ite ?_ ?_
   | refine LeO.bind ?_ (fun _ => ?_)
set_option maxHeartbeats 8000000 in
set_option maxRecDepth 100000 in
theorem spec_AddTry.calls (k : Nat) (A0 : Option Addr) (c0 : Nat) (l0 : List (S36)) (a1_0 : Int) (a1_1 : Int) (a1_2 : Bool) (r1 : List (S36)) (r2 : Int) (w : World) (hr0 : Kd.C k36 w A0 l0.length l0) (hc0 : l0.length ≤ c0) (h : spec_AddTry.f k l0 a1_0 a1_1 a1_2 = some (r1, r2)) :
  Calls Try.prog 22 #[.slice A0 l0.length c0, .agg #[.int .i64 a1_0, .int .i64 a1_1, .bool a1_2]] w fun e w' => ∃ v0_ : Value, e = .returned (.tuple #[v0_, .int .i64 r2]) ∧ Kd.R k36 36 w' w.heap.size (fun _ => True) v0_ r1 ∧ Below w.heap.size w w' := by
 have hu36 := Try.underlying36
 have HR0 := jA hr0
 have HC0 := jA hc0
 clear hr0 hc0
 have HB := jA (Below.refl w.heap.size w)
 have H : ((spec_AreTries.f k l0).bind fun t243 => (if t243 = true then (if (l0.length : Int) = 40 then (some (([] : List (S36)), 3)) else ((some (([] : List (S36)) : List (S36))).bind fun y244 => (if y244.length + l0.length < 5864062014805 then ((some (y244 ++ l0 : List (S36))).bind fun y247 => ((some (([(⟨a1_0, a1_1, a1_2⟩ : S36)] : List (S36)) : List (S36))).bind fun y250 => (if y247.length + y250.length < 5864062014805 then ((some (y247 ++ y250 : List (S36))).bind fun y253 => ((spec_AreTries.f k y253).bind fun t256 => (if t256 = true then (some (y253, 0)) else (some (([] : List (S36)), 5))))) else (none)))) else (none)))) else (some (([] : List (S36)), 1)))) = some (r1, r2) := h
 clear h
 replace H := jD.mp H
 obtain ⟨t243, A30, H⟩ := H
 replace H : (if t243 = true then (if (l0.length : Int) = 40 then (some (([] : List (S36)), 3)) else ((some (([] : List (S36)) : List (S36))).bind fun y244 => (if y244.length + l0.length < 5864062014805 then ((some (y244 ++ l0 : List (S36))).bind fun y247 => ((some (([(⟨a1_0, a1_1, a1_2⟩ : S36)] : List (S36)) : List (S36))).bind fun y250 => (if y247.length + y250.length < 5864062014805 then ((some (y247 ++ y250 : List (S36))).bind fun y253 => ((spec_AreTries.f k y253).bind fun t256 => (if t256 = true then (some (y253, 0)) else (some (([] : List (S36)), 5))))) else (none)))) else (none)))) else (some (([] : List (S36)), 1))) = some (r1, r2) := H
 have A3 := jA A30
 clear A30
 by_cases c4 : t243 = true
 ·subst c4
  have H1 : (if (l0.length : Int) = 40 then (some (([] : List (S36)), 3)) else ((some (([] : List (S36)) : List (S36))).bind fun y244 => (if y244.length + l0.length < 5864062014805 then ((some (y244 ++ l0 : List (S36))).bind fun y247 => ((some (([(⟨a1_0, a1_1, a1_2⟩ : S36)] : List (S36)) : List (S36))).bind fun y250 => (if y247.length + y250.length < 5864062014805 then ((some (y247 ++ y250 : List (S36))).bind fun y253 => ((spec_AreTries.f k y253).bind fun t256 => (if t256 = true then (some (y253, 0)) else (some (([] : List (S36)), 5))))) else (none)))) else (none)))) = some (r1, r2) := by rw [if_pos rfl] at H; exact H
  clear H
  have H := H1
  clear H1
  by_cases c5 : (l0.length : Int) = 40
  ·rw [if_pos c5] at H
   have c5b0 : ((l0.length : Int) == 40) = true := beq_iff_eq.mpr c5
   have c5b1 : ((l0.length : Int) != 40) = false := bne_eq_false_iff_eq.mpr c5
   clear c5
   simp only [jY, jc] at H
   obtain ⟨rfl, rfl⟩ := H
   go_enter Try.func22, Try.ntmps22
   go_wp2_with (first | ((with_reducible refine gate_dst (N := 3) rfl ?_); refine box_event ?hg (N := 3) ?hd (cs := #[.int .i64 a1_0, .int .i64 a1_1, .bool a1_2]) (t := 36) ?hr ?_; (case hd => rfl); (case hg => rfl); (case hr => first | (go_simp; done) | (go_simp; rfl)); intro gb242 hg w6 hbox hb; have n0_ := jA (jM (zb0 HB) hb); have n1_ := jA (hbox); have n2_ := jA ((by rw [hg]; exact (jT (zb0 HB)) : w.heap.size ≤ gb242)); have n3_ := jA ((by rw [hg]; exact (jT (zb0 HB)) : w.heap.size ≤ gb242)); clear HB; have HB := n0_; have BK242 := n1_; have GW242 := n2_; have GE242 := n3_; clear n0_ n1_ n2_ n3_; clear hb hbox hg) | ((with_reducible refine jL (f := 14) rfl ?_); refine goesL_ (some 8) rfl rfl Try.func14 zr rfl #[.slice A0 l0.length c0] rfl zm ?_; (with_reducible refine (spec_AreTries.calls k _ _ l0 true _ ?side1 ?side2 A3.out).mono ?_); (case side1 => exact zs HR0 HB); (case side2 => exact HC0.out); rintro e w7 ⟨rfl, hb⟩; refine ⟨_, rfl, ?_⟩; have n0_ := jA (blk_below (g := gb242) (o := .cells #[.int .i64 a1_0, .int .i64 a1_1, .bool a1_2] 36 (0, 0)) (zk BK242) hb); have n1_ := jA (jM (zb1 HB GE242) hb); clear BK242; clear HB; have BK242 := n0_; have HB := n1_; clear n0_ n1_; (try clear hb); (try clear hb2); (try clear hk); (try clear hi)))
   go_ret2
   exact ⟨_, by first | rfl | (simp [errW_none, errW_some] <;> rfl) | (simp [*, errW_none, errW_some] <;> rfl), by first | exact Kd.R_nil _ _ _ _ _ | exact Kd.N_nil _ _ _ _ _ | exact Kd.V_nil _ _ _ _ _ | exact Kd.Q_nil _ _ _ _ _ | exact Kd.S_nil _ _ _ _ _, zb1 HB GE242⟩
  ·rw [if_neg c5] at H
   have c5b0 : ((l0.length : Int) == 40) = false := beq_eq_false_iff_ne.mpr c5
   have c5b1 : ((l0.length : Int) != 40) = true := bne_iff_ne.mpr c5
   obtain ⟨y244, hy244⟩ : ∃ y_ : List (S36), y_ = (([] : List (S36))) := ⟨_, rfl⟩
   replace H : (if y244.length + l0.length < 5864062014805 then ((some (y244 ++ l0 : List (S36))).bind fun y247 => ((some (([(⟨a1_0, a1_1, a1_2⟩ : S36)] : List (S36)) : List (S36))).bind fun y250 => (if y247.length + y250.length < 5864062014805 then ((some (y247 ++ y250 : List (S36))).bind fun y253 => ((spec_AreTries.f k y253).bind fun t256 => (if t256 = true then (some (y253, 0)) else (some (([] : List (S36)), 5))))) else (none)))) else (none)) = some (r1, r2) := by first | (rw [hy244]; with_reducible exact H) | (have H2_ := (Option.bind_some _ _).symm.trans H; rw [hy244]; with_reducible exact H2_) | (have H2_ := (Option.bind_some _ _).symm.trans H; with_reducible exact H2_) | with_reducible exact H | (rw [hy244]; exact H) | exact H
   have Ny244 := jA hy244
   clear hy244
   by_cases c8 : y244.length + l0.length < 5864062014805
   ·rw [if_pos c8] at H
    have LMc8 := jA c8
    clear c8
    obtain ⟨y247, hy247⟩ : ∃ y_ : List (S36), y_ = (y244 ++ l0) := ⟨_, rfl⟩
    replace H : ((some (([(⟨a1_0, a1_1, a1_2⟩ : S36)] : List (S36)) : List (S36))).bind fun y250 => (if y247.length + y250.length < 5864062014805 then ((some (y247 ++ y250 : List (S36))).bind fun y253 => ((spec_AreTries.f k y253).bind fun t256 => (if t256 = true then (some (y253, 0)) else (some (([] : List (S36)), 5))))) else (none))) = some (r1, r2) := by first | (rw [hy247]; with_reducible exact H) | (have H2_ := (Option.bind_some _ _).symm.trans H; rw [hy247]; with_reducible exact H2_) | (have H2_ := (Option.bind_some _ _).symm.trans H; with_reducible exact H2_) | with_reducible exact H | (rw [hy247]; exact H) | exact H
    have Ny247 := jA hy247
    clear hy247
    obtain ⟨y250, hy250⟩ : ∃ y_ : List (S36), y_ = (([(⟨a1_0, a1_1, a1_2⟩ : S36)] : List (S36))) := ⟨_, rfl⟩
    replace H : (if y247.length + y250.length < 5864062014805 then ((some (y247 ++ y250 : List (S36))).bind fun y253 => ((spec_AreTries.f k y253).bind fun t256 => (if t256 = true then (some (y253, 0)) else (some (([] : List (S36)), 5))))) else (none)) = some (r1, r2) := by first | (rw [hy250]; with_reducible exact H) | (have H2_ := (Option.bind_some _ _).symm.trans H; rw [hy250]; with_reducible exact H2_) | (have H2_ := (Option.bind_some _ _).symm.trans H; with_reducible exact H2_) | with_reducible exact H | (rw [hy250]; exact H) | exact H
    have Ny250 := jA hy250
    clear hy250
    by_cases c9 : y247.length + y250.length < 5864062014805
    ·rw [if_pos c9] at H
     have LMc9 := jA c9
     clear c9
     obtain ⟨y253, hy253⟩ : ∃ y_ : List (S36), y_ = (y247 ++ y250) := ⟨_, rfl⟩
     replace H : ((spec_AreTries.f k y253).bind fun t256 => (if t256 = true then (some (y253, 0)) else (some (([] : List (S36)), 5)))) = some (r1, r2) := by first | (rw [hy253]; with_reducible exact H) | (have H2_ := (Option.bind_some _ _).symm.trans H; rw [hy253]; with_reducible exact H2_) | (have H2_ := (Option.bind_some _ _).symm.trans H; with_reducible exact H2_) | with_reducible exact H | (rw [hy253]; exact H) | exact H
     have Ny253 := jA hy253
     clear hy253
     replace H := jD.mp H
     obtain ⟨t256, A100, H⟩ := H
     replace H : (if t256 = true then (some (y253, 0)) else (some (([] : List (S36)), 5))) = some (r1, r2) := H
     have A10 := jA A100
     clear A100
     by_cases c11 : t256 = true
     ·subst c11
      have H1 : (some (y253, 0)) = some (r1, r2) := by rw [if_pos rfl] at H; exact H
      clear H
      have H := H1
      clear H1
      simp only [jY, jc] at H
      obtain ⟨rfl, rfl⟩ := H
      go_enter Try.func22, Try.ntmps22
      try go_wp2_with (first | ((with_reducible refine gate_dst (N := 3) rfl ?_); refine box_event ?hg (N := 3) ?hd (cs := #[.int .i64 a1_0, .int .i64 a1_1, .bool a1_2]) (t := 36) ?hr ?_; (case hd => rfl); (case hg => rfl); (case hr => first | (go_simp; done) | (go_simp; rfl)); intro gb242 hg w12 hbox hb; have n0_ := jA (jM (zb0 HB) hb); have n1_ := jA (hbox); have n2_ := jA ((by rw [hg]; exact (jT (zb0 HB)) : w.heap.size ≤ gb242)); have n3_ := jA ((by rw [hg]; exact (jT (zb0 HB)) : w.heap.size ≤ gb242)); clear HB; have HB := n0_; have BK242 := n1_; have GW242 := n2_; have GE242 := n3_; clear n0_ n1_ n2_ n3_; clear hb hbox hg) | ((with_reducible refine jL (f := 14) rfl ?_); refine goesL_ (some 8) rfl rfl Try.func14 zr rfl #[.slice A0 l0.length c0] rfl zm ?_; (with_reducible refine (spec_AreTries.calls k _ _ l0 true _ ?side1 ?side2 A3.out).mono ?_); (case side1 => exact zs HR0 HB); (case side2 => exact HC0.out); rintro e w13 ⟨rfl, hb⟩; refine ⟨_, rfl, ?_⟩; have n0_ := jA (blk_below (g := gb242) (o := .cells #[.int .i64 a1_0, .int .i64 a1_1, .bool a1_2] 36 (0, 0)) (zk BK242) hb); have n1_ := jA (jM (zb1 HB GE242) hb); clear BK242; clear HB; have BK242 := n0_; have HB := n1_; clear n0_ n1_; (try clear hb); (try clear hb2); (try clear hk); (try clear hi)))
      have n0_ := jA (jb BK242.out)
      have n1_ := jA (jQ HB.out)
      clear BK242
      clear HB
      have BK242 := n0_
      have HB := n1_
      clear n0_ n1_
      refine start_ (n := 7) (S := fun w' => w'.cell? ⟨gb242, 0, none⟩ = some (.int .i64 a1_0) ∧ w'.cell? ⟨gb242, 1, none⟩ = some (.int .i64 a1_1) ∧ w'.cell? ⟨gb242, 2, none⟩ = some (.bool a1_2)) (ds := []) m7_0 zr rfl rfl ⟨(jE BK242.out 0).trans rfl, (jE BK242.out 1).trans rfl, (jE BK242.out 2).trans rfl⟩ (fun hHeld => ?_)
      generalize w13.drew = w14 at BK242 HB hHeld ⊢
      refine pure_ (i := 1) (N := some 14) (v := ?_) (a' := ?_) m7_20 rfl rfl zr (fun _ _ _ h => h) (Or.inl ⟨by rfl, ?_⟩) ?_ ?_
      rotate_left
      ·intro w'
       go_simp
       with_reducible rfl
      rotate_left
      ·simp only [Act.put, jB, jI, jJ, i64_w, i32_w]
       rfl
      refine take_ (i := 3) (N := some 16) (v := ?_) (a' := ?_) m7_28 rfl rfl zr (fun _ _ _ h => h) (Or.inl ⟨by rfl, ?_⟩) hHeld ?_ ?_
      rotate_left
      ·rintro w' ⟨s0, s1, s2⟩
       go_simp
       with_reducible rfl
      rotate_left
      ·simp only [Act.put, jB, jI, jJ, i64_w, i32_w]
       rfl
      refine join_ (σ := Value × Value × Value) 2 m7_7c (fun s_ => [(13, s_.1), (15, s_.2.1), (17, s_.2.2)]) (fun s_ w' => (w'.cell? ⟨gb242, 0, none⟩ = some (.int .i64 a1_0) ∧ w'.cell? ⟨gb242, 1, none⟩ = some (.int .i64 a1_1) ∧ w'.cell? ⟨gb242, 2, none⟩ = some (.bool a1_2)) ∧ (Kd.R k36 36 w' w.heap.size (fun k_ => some k_ ≠ (s_.2.2 : Value).ownBlock ∧ k_ ≠ gb242) s_.2.1 y247) ∧ (Kd.R k36 36 w' w.heap.size (fun k_ => some k_ ≠ (s_.2.1 : Value).ownBlock ∧ k_ ≠ gb242) s_.2.2 y250) ∧ (w'.heap[gb242]? = some (.cells #[.int .i64 a1_0, .int .i64 a1_1, .bool a1_2] 36 (0, 0))) ∧ (Below w.heap.size w w')) ?_ ?_
      rotate_left
      ·intro hCont
       refine two_ (i := 0) (j := 4) (Ni := some 13) (Nj := some 17) m7_68 m7_2c rfl rfl rfl rfl zr (by decide) (by decide) (fun K hK => ?_) (fun K hK => ?_)
       ·skip
        refine Kd.R_lit_step k36 _ 36 ?hg (N := 13) ?hd (xs := ([] : List (S36))) (inner := []) (ok := fun _ => True) (okp := fun _ => True) ?hr ?hp (fun _ hk => hk) trivial (Below.refl _ _) (Nat.le_refl _) (by simp) ?_; (case hd => rfl); (case hg => rfl); (case hr => first | (go_simp; done) | (go_simp; rfl)); (case hp => exact (Reps.none _ _))
        intro v245 w15 ho16 hb hg_ hnew_
        clear hg_ hnew_
        (first | rw [← Ny244.out] at ho16 | (simp only [Int.reduceToNat] at ho16; rw [← Ny244.out] at ho16))
        have n0_ := jA (jZ (Kd.R_newB ho16 (g := gb242) (o := .cells #[.int .i64 a1_0, .int .i64 a1_1, .bool a1_2] 36 (0, 0)) (zk BK242)) (jT (zb1 HB GE242)))
        have n1_ := jA (blk_below (g := gb242) (o := .cells #[.int .i64 a1_0, .int .i64 a1_1, .bool a1_2] 36 (0, 0)) (zk BK242) hb)
        have n2_ := jA (jM (zb1 HB GE242) hb)
        clear BK242
        clear HB
        have HO246 := n0_
        have BK242 := n1_
        have HB := n2_
        clear n0_ n1_ n2_
        clear hb ho16
        refine hK.out _ _ ⟨(jE BK242.out 0).trans rfl, (jE BK242.out 1).trans rfl, (jE BK242.out 2).trans rfl⟩ (fun hHeld => ?_)
        clear hK K
        refine norm_ (a' := ?_) ?_ ?_
        rotate_left
        ·show Act.put _ (some 13) _ = _
         simp only [Act.put, jB, jI, jJ, i64_w, i32_w]
         rfl
        refine two_ (i := 2) (j := 4) (Ni := some 15) (Nj := some 17) m7_78 m7_6c rfl rfl rfl rfl zr (by decide) (by decide) (fun K hK => ?_) (fun K hK => ?_)
        ·skip
         refine Kd.R_append_rows_step k36 (w0 := w) w.heap.size (by rfl) (.tmp 13) (.tmp 14) 25 36 (.agg #[(.int .i64 0), (.int .i64 0), (.bool false)]) 24 rfl Try.underlying25 info36 rfl (by decide) (by omega) v245 y244 l0 _ _ _ (fun k_ => k_ ≠ gb242) (fun _ => False) rfl rfl ?aO ?aR (fun _ _ h => h) (fun _ h => h.elim) ?aF ?aB ?aS ?aL ?_
         (case aR => repeat (first | exact HR0.out | exact (Kd.C_below HR0.out HB.out) | (with_reducible refine jP ?_ _) | (with_reducible refine jO ?_ _) | (with_reducible refine jU ?_)))
         (case aB => exact (zb1 HB GE242))
         (case aF => exact (fun k_ hk => Kd.freshB (g := gb242) (o := .cells #[.int .i64 a1_0, .int .i64 a1_1, .bool a1_2] 36 (0, 0)) (zk BK242) k_ hk))
         (case aO => exact (by (with_reducible repeat (first | apply jG | apply jF | apply jK)); exact Kd.R_mono HO246.out (fun _ hk => hk.2)))
         (case aS => exact (jT (zb1 HB GE242)))
         (case aL => have := LMc8.out; omega)
         intro v248 w17 ho hb hg hat
         rw [← Ny247.out] at ho
         have n0_ := jA (blk_grown (g := gb242) (o := .cells #[.int .i64 a1_0, .int .i64 a1_1, .bool a1_2] 36 (0, 0)) (zk BK242) hg (Kd.R_away HO246.out (fun _ hk => hk.2)))
         have n1_ := jA (hb)
         have n2_ := jA (ho)
         clear BK242
         clear HB
         clear HO246
         have BK242 := n0_
         have HB := n1_
         have HO249 := n2_
         clear n0_ n1_ n2_
         clear ho hb hg hat
         refine hK.out _ _ ⟨(jE BK242.out 0).trans rfl, (jE BK242.out 1).trans rfl, (jE BK242.out 2).trans rfl⟩ (fun hHeld => ?_)
         clear hK K
         refine norm_ (a' := ?_) ?_ ?_
         rotate_left
         ·show Act.put _ (some 15) _ = _
          simp only [Act.put, jB, jI, jJ, i64_w, i32_w]
          rfl
         refine one_ (i := 4) (N := some 17) m7_7c rfl rfl zr (by decide) (fun K hK => ?_)
         refine Kd.R_lit_step k36 _ 36 ?hg (N := 17) ?hd (xs := ([(⟨a1_0, a1_1, a1_2⟩ : S36)] : List (S36))) (inner := [.int .i64 a1_0, .int .i64 a1_1, .bool a1_2]) (ok := fun _ => True) (okp := fun _ => True) ?hr ?hp (fun _ hk => hk) trivial (Below.refl _ _) (Nat.le_refl _) (by simp) ?_; (case hd => rfl); (case hg => rfl); (case hr => first | (go_simp; done) | (go_simp; rfl)); (case hp => exact (Reps.c3 (show Kd.M k36 _ _ _ (⟨a1_0, a1_1, a1_2⟩ : S36) [.int .i64 a1_0, .int .i64 a1_1, .bool a1_2] from (k36_mkM _ _ _ (⟨a1_0, a1_1, a1_2⟩ : S36) )) (Reps.none _ _)))
         intro v251 w18 ho19 hb hg_ hnew_
         clear hg_ hnew_
         (first | rw [← Ny250.out] at ho19 | (simp only [Int.reduceToNat] at ho19; rw [← Ny250.out] at ho19))
         have n0_ := jA (Kd.R_elder' (zo HO249) (Kd.R_base ho19) hb)
         have n1_ := jA (jZ (Kd.R_newB (Kd.R_new' ho19 (Kd.R_lt (zo HO249))) (g := gb242) (o := .cells #[.int .i64 a1_0, .int .i64 a1_1, .bool a1_2] 36 (0, 0)) (zk BK242)) (jT (zb1 HB GE242)))
         have n2_ := jA (blk_below (g := gb242) (o := .cells #[.int .i64 a1_0, .int .i64 a1_1, .bool a1_2] 36 (0, 0)) (zk BK242) hb)
         have n3_ := jA (jM (zb1 HB GE242) hb)
         clear HO249
         clear BK242
         clear HB
         have HO249 := n0_
         have HO252 := n1_
         have BK242 := n2_
         have HB := n3_
         clear n0_ n1_ n2_ n3_
         clear hb ho19
         refine hK.out _ _ ⟨(jE BK242.out 0).trans rfl, (jE BK242.out 1).trans rfl, (jE BK242.out 2).trans rfl⟩ (fun hHeld => ?_)
         clear hK K
         refine norm_ (a' := ?_) ?_ ?_
         rotate_left
         ·show Act.put _ (some 17) _ = _
          simp only [Act.put, jB, jI, jJ, i64_w, i32_w]
          rfl
         exact norm_ (by simp only [putAll, Act.put, jB, jI, jJ]) (hCont (v245, v248, v251) _ ⟨hHeld, (by (with_reducible repeat (first | apply jG | apply jF | apply jK)); exact Kd.R_mono HO249.out (fun _ hk => ⟨hk.2, hk.1⟩)), (by (with_reducible repeat (first | apply jG | apply jF | apply jK)); exact Kd.R_mono HO252.out (fun _ hk => ⟨hk.1.2, hk.2⟩)), (zk BK242), (zb1 HB GE242)⟩)
        ·skip
         refine Kd.R_lit_step k36 _ 36 ?hg (N := 17) ?hd (xs := ([(⟨a1_0, a1_1, a1_2⟩ : S36)] : List (S36))) (inner := [.int .i64 a1_0, .int .i64 a1_1, .bool a1_2]) (ok := fun _ => True) (okp := fun _ => True) ?hr ?hp (fun _ hk => hk) trivial (Below.refl _ _) (Nat.le_refl _) (by simp) ?_; (case hd => rfl); (case hg => rfl); (case hr => first | (go_simp; done) | (go_simp; rfl)); (case hp => exact (Reps.c3 (show Kd.M k36 _ _ _ (⟨a1_0, a1_1, a1_2⟩ : S36) [.int .i64 a1_0, .int .i64 a1_1, .bool a1_2] from (k36_mkM _ _ _ (⟨a1_0, a1_1, a1_2⟩ : S36) )) (Reps.none _ _)))
         intro v251 w17 ho18 hb hg_ hnew_
         clear hg_ hnew_
         (first | rw [← Ny250.out] at ho18 | (simp only [Int.reduceToNat] at ho18; rw [← Ny250.out] at ho18))
         have n0_ := jA (Kd.R_elder' (zo HO246) (Kd.R_base ho18) hb)
         have n1_ := jA (jZ (Kd.R_newB (Kd.R_new' ho18 (Kd.R_lt (zo HO246))) (g := gb242) (o := .cells #[.int .i64 a1_0, .int .i64 a1_1, .bool a1_2] 36 (0, 0)) (zk BK242)) (jT (zb1 HB GE242)))
         have n2_ := jA (blk_below (g := gb242) (o := .cells #[.int .i64 a1_0, .int .i64 a1_1, .bool a1_2] 36 (0, 0)) (zk BK242) hb)
         have n3_ := jA (jM (zb1 HB GE242) hb)
         clear HO246
         clear BK242
         clear HB
         have HO246 := n0_
         have HO252 := n1_
         have BK242 := n2_
         have HB := n3_
         clear n0_ n1_ n2_ n3_
         clear hb ho18
         refine hK.out _ _ ⟨(jE BK242.out 0).trans rfl, (jE BK242.out 1).trans rfl, (jE BK242.out 2).trans rfl⟩ (fun hHeld => ?_)
         clear hK K
         refine norm_ (a' := ?_) ?_ ?_
         rotate_left
         ·show Act.put _ (some 17) _ = _
          simp only [Act.put, jB, jI, jJ, i64_w, i32_w]
          rfl
         refine one_ (i := 2) (N := some 15) m7_7c rfl rfl zr (by decide) (fun K hK => ?_)
         refine Kd.R_append_rows_step k36 (w0 := w) w.heap.size (by rfl) (.tmp 13) (.tmp 14) 25 36 (.agg #[(.int .i64 0), (.int .i64 0), (.bool false)]) 24 rfl Try.underlying25 info36 rfl (by decide) (by omega) v245 y244 l0 _ _ _ (fun k_ => some k_ ≠ (v251 : Value).ownBlock ∧ k_ ≠ gb242) (fun _ => False) rfl rfl ?aO ?aR (fun _ _ h => h) (fun _ h => h.elim) ?aF ?aB ?aS ?aL ?_
         (case aR => repeat (first | exact HR0.out | exact (Kd.C_below HR0.out HB.out) | (with_reducible refine jP ?_ _) | (with_reducible refine jO ?_ _) | (with_reducible refine jU ?_)))
         (case aB => exact (zb1 HB GE242))
         (case aF => exact (fun k_ hk => ⟨Kd.fresh' (Kd.R_lt (zo HO252)) k_ hk, Kd.freshB (g := gb242) (o := .cells #[.int .i64 a1_0, .int .i64 a1_1, .bool a1_2] 36 (0, 0)) (zk BK242) k_ hk⟩))
         (case aO => exact (by (with_reducible repeat (first | apply jG | apply jF | apply jK)); exact Kd.R_mono HO246.out (fun _ hk => ⟨hk.2, hk.1.2⟩)))
         (case aS => exact (jT (zb1 HB GE242)))
         (case aL => have := LMc8.out; omega)
         intro v248 w19 ho hb hg hat
         rw [← Ny247.out] at ho
         have n0_ := jA (blk_grown (g := gb242) (o := .cells #[.int .i64 a1_0, .int .i64 a1_1, .bool a1_2] 36 (0, 0)) (zk BK242) hg (Kd.R_away HO246.out (fun _ hk => hk.1.2)))
         have n1_ := jA (Kd.R_after (ok := (fun k_ => k_ ≠ gb242)) (by (with_reducible repeat (first | apply jG | apply jF | apply jK)); exact Kd.R_mono HO252.out (fun _ hk => ⟨hk.2, hk.1.2⟩)) hg hat)
         have n2_ := jA (hb)
         have n3_ := jA (ho)
         clear BK242
         clear HO252
         clear HB
         clear HO246
         have BK242 := n0_
         have HO252 := n1_
         have HB := n2_
         have HO249 := n3_
         clear n0_ n1_ n2_ n3_
         clear ho hb hg hat
         refine hK.out _ _ ⟨(jE BK242.out 0).trans rfl, (jE BK242.out 1).trans rfl, (jE BK242.out 2).trans rfl⟩ (fun hHeld => ?_)
         clear hK K
         refine norm_ (a' := ?_) ?_ ?_
         rotate_left
         ·show Act.put _ (some 15) _ = _
          simp only [Act.put, jB, jI, jJ, i64_w, i32_w]
          rfl
         exact norm_ (by simp only [putAll, Act.put, jB, jI, jJ]) (hCont (v245, v248, v251) _ ⟨hHeld, (zo HO249), (by (with_reducible repeat (first | apply jG | apply jF | apply jK)); exact Kd.R_mono HO252.out (fun _ hk => ⟨hk.2, hk.1⟩)), (zk BK242), (zb1 HB GE242)⟩)
       ·skip
        refine Kd.R_lit_step k36 _ 36 ?hg (N := 17) ?hd (xs := ([(⟨a1_0, a1_1, a1_2⟩ : S36)] : List (S36))) (inner := [.int .i64 a1_0, .int .i64 a1_1, .bool a1_2]) (ok := fun _ => True) (okp := fun _ => True) ?hr ?hp (fun _ hk => hk) trivial (Below.refl _ _) (Nat.le_refl _) (by simp) ?_; (case hd => rfl); (case hg => rfl); (case hr => first | (go_simp; done) | (go_simp; rfl)); (case hp => exact (Reps.c3 (show Kd.M k36 _ _ _ (⟨a1_0, a1_1, a1_2⟩ : S36) [.int .i64 a1_0, .int .i64 a1_1, .bool a1_2] from (k36_mkM _ _ _ (⟨a1_0, a1_1, a1_2⟩ : S36) )) (Reps.none _ _)))
        intro v251 w15 ho16 hb hg_ hnew_
        clear hg_ hnew_
        (first | rw [← Ny250.out] at ho16 | (simp only [Int.reduceToNat] at ho16; rw [← Ny250.out] at ho16))
        have n0_ := jA (jZ (Kd.R_newB ho16 (g := gb242) (o := .cells #[.int .i64 a1_0, .int .i64 a1_1, .bool a1_2] 36 (0, 0)) (zk BK242)) (jT (zb1 HB GE242)))
        have n1_ := jA (blk_below (g := gb242) (o := .cells #[.int .i64 a1_0, .int .i64 a1_1, .bool a1_2] 36 (0, 0)) (zk BK242) hb)
        have n2_ := jA (jM (zb1 HB GE242) hb)
        clear BK242
        clear HB
        have HO252 := n0_
        have BK242 := n1_
        have HB := n2_
        clear n0_ n1_ n2_
        clear hb ho16
        refine hK.out _ _ ⟨(jE BK242.out 0).trans rfl, (jE BK242.out 1).trans rfl, (jE BK242.out 2).trans rfl⟩ (fun hHeld => ?_)
        clear hK K
        refine norm_ (a' := ?_) ?_ ?_
        rotate_left
        ·show Act.put _ (some 17) _ = _
         simp only [Act.put, jB, jI, jJ, i64_w, i32_w]
         rfl
        refine one_ (i := 0) (N := some 13) m7_6c rfl rfl zr (by decide) (fun K hK => ?_)
        refine Kd.R_lit_step k36 _ 36 ?hg (N := 13) ?hd (xs := ([] : List (S36))) (inner := []) (ok := fun _ => True) (okp := fun _ => True) ?hr ?hp (fun _ hk => hk) trivial (Below.refl _ _) (Nat.le_refl _) (by simp) ?_; (case hd => rfl); (case hg => rfl); (case hr => first | (go_simp; done) | (go_simp; rfl)); (case hp => exact (Reps.none _ _))
        intro v245 w17 ho18 hb hg_ hnew_
        clear hg_ hnew_
        (first | rw [← Ny244.out] at ho18 | (simp only [Int.reduceToNat] at ho18; rw [← Ny244.out] at ho18))
        have n0_ := jA (Kd.R_elder' (zo HO252) (Kd.R_base ho18) hb)
        have n1_ := jA (jZ (Kd.R_newB (Kd.R_new' ho18 (Kd.R_lt (zo HO252))) (g := gb242) (o := .cells #[.int .i64 a1_0, .int .i64 a1_1, .bool a1_2] 36 (0, 0)) (zk BK242)) (jT (zb1 HB GE242)))
        have n2_ := jA (blk_below (g := gb242) (o := .cells #[.int .i64 a1_0, .int .i64 a1_1, .bool a1_2] 36 (0, 0)) (zk BK242) hb)
        have n3_ := jA (jM (zb1 HB GE242) hb)
        clear HO252
        clear BK242
        clear HB
        have HO252 := n0_
        have HO246 := n1_
        have BK242 := n2_
        have HB := n3_
        clear n0_ n1_ n2_ n3_
        clear hb ho18
        refine hK.out _ _ ⟨(jE BK242.out 0).trans rfl, (jE BK242.out 1).trans rfl, (jE BK242.out 2).trans rfl⟩ (fun hHeld => ?_)
        clear hK K
        refine norm_ (a' := ?_) ?_ ?_
        rotate_left
        ·show Act.put _ (some 13) _ = _
         simp only [Act.put, jB, jI, jJ, i64_w, i32_w]
         rfl
        refine one_ (i := 2) (N := some 15) m7_7c rfl rfl zr (by decide) (fun K hK => ?_)
        refine Kd.R_append_rows_step k36 (w0 := w) w.heap.size (by rfl) (.tmp 13) (.tmp 14) 25 36 (.agg #[(.int .i64 0), (.int .i64 0), (.bool false)]) 24 rfl Try.underlying25 info36 rfl (by decide) (by omega) v245 y244 l0 _ _ _ (fun k_ => some k_ ≠ (v251 : Value).ownBlock ∧ k_ ≠ gb242) (fun _ => False) rfl rfl ?aO ?aR (fun _ _ h => h) (fun _ h => h.elim) ?aF ?aB ?aS ?aL ?_
        (case aR => repeat (first | exact HR0.out | exact (Kd.C_below HR0.out HB.out) | (with_reducible refine jP ?_ _) | (with_reducible refine jO ?_ _) | (with_reducible refine jU ?_)))
        (case aB => exact (zb1 HB GE242))
        (case aF => exact (fun k_ hk => ⟨Kd.fresh' (Kd.R_lt (zo HO252)) k_ hk, Kd.freshB (g := gb242) (o := .cells #[.int .i64 a1_0, .int .i64 a1_1, .bool a1_2] 36 (0, 0)) (zk BK242) k_ hk⟩))
        (case aO => exact (by (with_reducible repeat (first | apply jG | apply jF | apply jK)); exact Kd.R_mono HO246.out (fun _ hk => ⟨hk.1.2, hk.2⟩)))
        (case aS => exact (jT (zb1 HB GE242)))
        (case aL => have := LMc8.out; omega)
        intro v248 w19 ho hb hg hat
        rw [← Ny247.out] at ho
        have n0_ := jA (blk_grown (g := gb242) (o := .cells #[.int .i64 a1_0, .int .i64 a1_1, .bool a1_2] 36 (0, 0)) (zk BK242) hg (Kd.R_away HO246.out (fun _ hk => hk.2)))
        have n1_ := jA (Kd.R_after (ok := (fun k_ => k_ ≠ gb242)) (by (with_reducible repeat (first | apply jG | apply jF | apply jK)); exact Kd.R_mono HO252.out (fun _ hk => ⟨hk.1.2, hk.2⟩)) hg hat)
        have n2_ := jA (hb)
        have n3_ := jA (ho)
        clear BK242
        clear HO252
        clear HB
        clear HO246
        have BK242 := n0_
        have HO252 := n1_
        have HB := n2_
        have HO249 := n3_
        clear n0_ n1_ n2_ n3_
        clear ho hb hg hat
        refine hK.out _ _ ⟨(jE BK242.out 0).trans rfl, (jE BK242.out 1).trans rfl, (jE BK242.out 2).trans rfl⟩ (fun hHeld => ?_)
        clear hK K
        refine norm_ (a' := ?_) ?_ ?_
        rotate_left
        ·show Act.put _ (some 15) _ = _
         simp only [Act.put, jB, jI, jJ, i64_w, i32_w]
         rfl
        exact norm_ (by simp only [putAll, Act.put, jB, jI, jJ]) (hCont (v245, v248, v251) _ ⟨hHeld, (zo HO249), (by (with_reducible repeat (first | apply jG | apply jF | apply jK)); exact Kd.R_mono HO252.out (fun _ hk => ⟨hk.2, hk.1⟩)), (zk BK242), (zb1 HB GE242)⟩)
      rintro ⟨v245, v248, v251⟩ w20 ⟨hS_, h0_, h1_, h2_, h3_⟩
      have n0_ : Aside0 (Kd.R k36 36 w20 w.heap.size (fun k_ => some k_ ≠ (v251 : Value).ownBlock ∧ k_ ≠ gb242) v248 y247) := ⟨h0_⟩
      have n1_ : Aside0 (Kd.R k36 36 w20 w.heap.size (fun k_ => some k_ ≠ (v248 : Value).ownBlock ∧ k_ ≠ gb242) v251 y250) := ⟨h1_⟩
      have n2_ : Aside0 (w20.heap[gb242]? = some (.cells #[.int .i64 a1_0, .int .i64 a1_1, .bool a1_2] 36 (0, 0))) := ⟨h2_⟩
      have n3_ : Aside0 (Below w.heap.size w w20) := ⟨h3_⟩
      clear BK242
      clear HB
      clear h0_ h1_ h2_ h3_
      have HO249 := n0_
      have HO252 := n1_
      have BK242 := n2_
      have HB := n3_
      clear n0_ n1_ n2_ n3_
      have hHeld : w20.cell? ⟨gb242, 0, none⟩ = some (.int .i64 a1_0) ∧ w20.cell? ⟨gb242, 1, none⟩ = some (.int .i64 a1_1) ∧ w20.cell? ⟨gb242, 2, none⟩ = some (.bool a1_2) := hS_
      obtain ⟨Ao22, co22, eo22⟩ := Kd.R_slice HO252.out
      (first | subst eo22 | (injection eo22 with f1_ f2_ f3_; have f4_ := f1_.symm; have f5_ := f3_.symm; clear f1_ f2_ f3_; subst f4_; subst f5_))
      refine norm_ (a' := ?_) ?_ ?_
      rotate_left
      ·simp only [putAll, Act.put, jB, jI, jJ]
       rfl
      refine one_ (i := 5) (N := some 18) m7_7e rfl rfl zr (by decide) (fun K hK => ?_)
      refine Kd.R_append_rows_step k36 (w0 := w) w.heap.size (by rfl) (.tmp 15) (.tmp 17) 25 36 (.agg #[(.int .i64 0), (.int .i64 0), (.bool false)]) 24 rfl Try.underlying25 info36 rfl (by decide) (by omega) v248 y247 y250 _ _ _ (fun k_ => some k_ ≠ (.slice Ao22 y250.length co22 : Value).ownBlock ∧ k_ ≠ gb242) (fun _ => False) rfl rfl ?aO ?aR (fun _ _ h => h) (fun _ h => h.elim) ?aF ?aB ?aS ?aL ?_
      (case aR => repeat (first | exact (jH HO252.out).2.2 | (with_reducible refine jP ?_ _) | (with_reducible refine jO ?_ _) | (with_reducible refine jU ?_)))
      (case aB => exact (zb1 HB GE242))
      (case aF => exact (fun k_ hk => ⟨Kd.fresh' (Kd.R_lt (zo HO252)) k_ hk, Kd.freshB (g := gb242) (o := .cells #[.int .i64 a1_0, .int .i64 a1_1, .bool a1_2] 36 (0, 0)) (zk BK242) k_ hk⟩))
      (case aO => exact (zo HO249))
      (case aS => exact (jT (zb1 HB GE242)))
      (case aL => have := LMc9.out; omega)
      intro v254 w21 ho hb hg hat
      rw [← Ny253.out] at ho
      have n0_ := jA (blk_grown (g := gb242) (o := .cells #[.int .i64 a1_0, .int .i64 a1_1, .bool a1_2] 36 (0, 0)) (zk BK242) hg (Kd.R_away HO249.out (fun _ hk => hk.2)))
      have n1_ := jA (Kd.R_after (ok := (fun k_ => k_ ≠ gb242)) (by (with_reducible repeat (first | apply jG | apply jF | apply jK)); exact Kd.R_mono HO252.out (fun _ hk => ⟨hk.2, hk.1⟩)) hg hat)
      have n2_ := jA (hb)
      have n3_ := jA (ho)
      clear BK242
      clear HO252
      clear HB
      clear HO249
      have BK242 := n0_
      have HO252 := n1_
      have HB := n2_
      have HO255 := n3_
      clear n0_ n1_ n2_ n3_
      clear ho hb hg hat
      refine hK.out _ _ ⟨(jE BK242.out 0).trans rfl, (jE BK242.out 1).trans rfl, (jE BK242.out 2).trans rfl⟩ (fun hHeld => ?_)
      clear hK K
      refine norm_ (a' := ?_) ?_ ?_
      rotate_left
      ·show Act.put _ (some 18) _ = _
       simp only [Act.put, jB, jI, jJ, i64_w, i32_w]
       rfl
      refine pure_ (i := 6) (N := some 6) (v := ?_) (a' := ?_) m7_7f rfl rfl zr (fun _ _ _ h => h) (Or.inl ⟨by rfl, ?_⟩) ?_ ?_
      rotate_left
      ·intro w'
       go_simp
       with_reducible rfl
      rotate_left
      ·simp only [Act.put, jB, jI, jJ, i64_w, i32_w]
       rfl
      refine done_ zr ?_
      obtain ⟨Ao23, co23, eo23⟩ := Kd.R_slice HO255.out
      subst eo23
      try go_wp2_with (first | ((with_reducible refine jL (f := 14) rfl ?_); refine goesL_ (some 20) rfl rfl Try.func14 zr rfl #[.slice Ao23 y253.length co23] rfl zm ?_; (with_reducible refine (spec_AreTries.calls k _ _ y253 true _ ?side1 ?side2 A10.out).mono ?_); (case side1 => repeat (first | exact (jH HO255.out).2.2 | (with_reducible refine jP ?_ _) | (with_reducible refine jO ?_ _) | (with_reducible refine jU ?_))); (case side2 => exact (jH HO255.out).2.1); rintro e w24 ⟨rfl, hb⟩; refine ⟨_, rfl, ?_⟩; have n0_ := jA (jX (zo HO252) hb); have n1_ := jA (jX (zo HO255) hb); have n2_ := jA (blk_below (g := gb242) (o := .cells #[.int .i64 a1_0, .int .i64 a1_1, .bool a1_2] 36 (0, 0)) (zk BK242) hb); have n3_ := jA (jM (zb1 HB GE242) hb); clear HO252; clear HO255; clear BK242; clear HB; have HO252 := n0_; have HO255 := n1_; have BK242 := n2_; have HB := n3_; clear n0_ n1_ n2_ n3_; (try clear hb); (try clear hb2); (try clear hk); (try clear hi)))
      go_ret2
      exact ⟨_, by first | rfl | (simp [errW_none, errW_some] <;> rfl) | (simp [*, errW_none, errW_some] <;> rfl), by (with_reducible repeat (first | apply jG | apply jF | apply jK)); exact Kd.R_mono HO255.out (fun _ hk => trivial), zb1 HB GE242⟩
     ·replace c11 := Bool.eq_false_iff.mpr c11
      subst c11
      have H1 : (some (([] : List (S36)), 5)) = some (r1, r2) := by rw [if_neg (show ¬ (false = true) by decide)] at H; exact H
      clear H
      have H := H1
      clear H1
      simp only [jY, jc] at H
      obtain ⟨rfl, rfl⟩ := H
      go_enter Try.func22, Try.ntmps22
      try go_wp2_with (first | ((with_reducible refine gate_dst (N := 3) rfl ?_); refine box_event ?hg (N := 3) ?hd (cs := #[.int .i64 a1_0, .int .i64 a1_1, .bool a1_2]) (t := 36) ?hr ?_; (case hd => rfl); (case hg => rfl); (case hr => first | (go_simp; done) | (go_simp; rfl)); intro gb242 hg w25 hbox hb; have n0_ := jA (jM (zb0 HB) hb); have n1_ := jA (hbox); have n2_ := jA ((by rw [hg]; exact (jT (zb0 HB)) : w.heap.size ≤ gb242)); have n3_ := jA ((by rw [hg]; exact (jT (zb0 HB)) : w.heap.size ≤ gb242)); clear HB; have HB := n0_; have BK242 := n1_; have GW242 := n2_; have GE242 := n3_; clear n0_ n1_ n2_ n3_; clear hb hbox hg) | ((with_reducible refine jL (f := 14) rfl ?_); refine goesL_ (some 8) rfl rfl Try.func14 zr rfl #[.slice A0 l0.length c0] rfl zm ?_; (with_reducible refine (spec_AreTries.calls k _ _ l0 true _ ?side1 ?side2 A3.out).mono ?_); (case side1 => exact zs HR0 HB); (case side2 => exact HC0.out); rintro e w26 ⟨rfl, hb⟩; refine ⟨_, rfl, ?_⟩; have n0_ := jA (blk_below (g := gb242) (o := .cells #[.int .i64 a1_0, .int .i64 a1_1, .bool a1_2] 36 (0, 0)) (zk BK242) hb); have n1_ := jA (jM (zb1 HB GE242) hb); clear BK242; clear HB; have BK242 := n0_; have HB := n1_; clear n0_ n1_; (try clear hb); (try clear hb2); (try clear hk); (try clear hi)))
      have n0_ := jA (jb BK242.out)
      have n1_ := jA (jQ HB.out)
      clear BK242
      clear HB
      have BK242 := n0_
      have HB := n1_
      clear n0_ n1_
      refine start_ (n := 7) (S := fun w' => w'.cell? ⟨gb242, 0, none⟩ = some (.int .i64 a1_0) ∧ w'.cell? ⟨gb242, 1, none⟩ = some (.int .i64 a1_1) ∧ w'.cell? ⟨gb242, 2, none⟩ = some (.bool a1_2)) (ds := []) m7_0 zr rfl rfl ⟨(jE BK242.out 0).trans rfl, (jE BK242.out 1).trans rfl, (jE BK242.out 2).trans rfl⟩ (fun hHeld => ?_)
      generalize w26.drew = w27 at BK242 HB hHeld ⊢
      refine pure_ (i := 1) (N := some 14) (v := ?_) (a' := ?_) m7_20 rfl rfl zr (fun _ _ _ h => h) (Or.inl ⟨by rfl, ?_⟩) ?_ ?_
      rotate_left
      ·intro w'
       go_simp
       with_reducible rfl
      rotate_left
      ·simp only [Act.put, jB, jI, jJ, i64_w, i32_w]
       rfl
      refine take_ (i := 3) (N := some 16) (v := ?_) (a' := ?_) m7_28 rfl rfl zr (fun _ _ _ h => h) (Or.inl ⟨by rfl, ?_⟩) hHeld ?_ ?_
      rotate_left
      ·rintro w' ⟨s0, s1, s2⟩
       go_simp
       with_reducible rfl
      rotate_left
      ·simp only [Act.put, jB, jI, jJ, i64_w, i32_w]
       rfl
      refine join_ (σ := Value × Value × Value) 2 m7_7c (fun s_ => [(13, s_.1), (15, s_.2.1), (17, s_.2.2)]) (fun s_ w' => (w'.cell? ⟨gb242, 0, none⟩ = some (.int .i64 a1_0) ∧ w'.cell? ⟨gb242, 1, none⟩ = some (.int .i64 a1_1) ∧ w'.cell? ⟨gb242, 2, none⟩ = some (.bool a1_2)) ∧ (Kd.R k36 36 w' w.heap.size (fun k_ => some k_ ≠ (s_.2.2 : Value).ownBlock ∧ k_ ≠ gb242) s_.2.1 y247) ∧ (Kd.R k36 36 w' w.heap.size (fun k_ => some k_ ≠ (s_.2.1 : Value).ownBlock ∧ k_ ≠ gb242) s_.2.2 y250) ∧ (w'.heap[gb242]? = some (.cells #[.int .i64 a1_0, .int .i64 a1_1, .bool a1_2] 36 (0, 0))) ∧ (Below w.heap.size w w')) ?_ ?_
      rotate_left
      ·intro hCont
       refine two_ (i := 0) (j := 4) (Ni := some 13) (Nj := some 17) m7_68 m7_2c rfl rfl rfl rfl zr (by decide) (by decide) (fun K hK => ?_) (fun K hK => ?_)
       ·skip
        refine Kd.R_lit_step k36 _ 36 ?hg (N := 13) ?hd (xs := ([] : List (S36))) (inner := []) (ok := fun _ => True) (okp := fun _ => True) ?hr ?hp (fun _ hk => hk) trivial (Below.refl _ _) (Nat.le_refl _) (by simp) ?_; (case hd => rfl); (case hg => rfl); (case hr => first | (go_simp; done) | (go_simp; rfl)); (case hp => exact (Reps.none _ _))
        intro v245 w28 ho29 hb hg_ hnew_
        clear hg_ hnew_
        (first | rw [← Ny244.out] at ho29 | (simp only [Int.reduceToNat] at ho29; rw [← Ny244.out] at ho29))
        have n0_ := jA (jZ (Kd.R_newB ho29 (g := gb242) (o := .cells #[.int .i64 a1_0, .int .i64 a1_1, .bool a1_2] 36 (0, 0)) (zk BK242)) (jT (zb1 HB GE242)))
        have n1_ := jA (blk_below (g := gb242) (o := .cells #[.int .i64 a1_0, .int .i64 a1_1, .bool a1_2] 36 (0, 0)) (zk BK242) hb)
        have n2_ := jA (jM (zb1 HB GE242) hb)
        clear BK242
        clear HB
        have HO246 := n0_
        have BK242 := n1_
        have HB := n2_
        clear n0_ n1_ n2_
        clear hb ho29
        refine hK.out _ _ ⟨(jE BK242.out 0).trans rfl, (jE BK242.out 1).trans rfl, (jE BK242.out 2).trans rfl⟩ (fun hHeld => ?_)
        clear hK K
        refine norm_ (a' := ?_) ?_ ?_
        rotate_left
        ·show Act.put _ (some 13) _ = _
         simp only [Act.put, jB, jI, jJ, i64_w, i32_w]
         rfl
        refine two_ (i := 2) (j := 4) (Ni := some 15) (Nj := some 17) m7_78 m7_6c rfl rfl rfl rfl zr (by decide) (by decide) (fun K hK => ?_) (fun K hK => ?_)
        ·skip
         refine Kd.R_append_rows_step k36 (w0 := w) w.heap.size (by rfl) (.tmp 13) (.tmp 14) 25 36 (.agg #[(.int .i64 0), (.int .i64 0), (.bool false)]) 24 rfl Try.underlying25 info36 rfl (by decide) (by omega) v245 y244 l0 _ _ _ (fun k_ => k_ ≠ gb242) (fun _ => False) rfl rfl ?aO ?aR (fun _ _ h => h) (fun _ h => h.elim) ?aF ?aB ?aS ?aL ?_
         (case aR => repeat (first | exact HR0.out | exact (Kd.C_below HR0.out HB.out) | (with_reducible refine jP ?_ _) | (with_reducible refine jO ?_ _) | (with_reducible refine jU ?_)))
         (case aB => exact (zb1 HB GE242))
         (case aF => exact (fun k_ hk => Kd.freshB (g := gb242) (o := .cells #[.int .i64 a1_0, .int .i64 a1_1, .bool a1_2] 36 (0, 0)) (zk BK242) k_ hk))
         (case aO => exact (by (with_reducible repeat (first | apply jG | apply jF | apply jK)); exact Kd.R_mono HO246.out (fun _ hk => hk.2)))
         (case aS => exact (jT (zb1 HB GE242)))
         (case aL => have := LMc8.out; omega)
         intro v248 w30 ho hb hg hat
         rw [← Ny247.out] at ho
         have n0_ := jA (blk_grown (g := gb242) (o := .cells #[.int .i64 a1_0, .int .i64 a1_1, .bool a1_2] 36 (0, 0)) (zk BK242) hg (Kd.R_away HO246.out (fun _ hk => hk.2)))
         have n1_ := jA (hb)
         have n2_ := jA (ho)
         clear BK242
         clear HB
         clear HO246
         have BK242 := n0_
         have HB := n1_
         have HO249 := n2_
         clear n0_ n1_ n2_
         clear ho hb hg hat
         refine hK.out _ _ ⟨(jE BK242.out 0).trans rfl, (jE BK242.out 1).trans rfl, (jE BK242.out 2).trans rfl⟩ (fun hHeld => ?_)
         clear hK K
         refine norm_ (a' := ?_) ?_ ?_
         rotate_left
         ·show Act.put _ (some 15) _ = _
          simp only [Act.put, jB, jI, jJ, i64_w, i32_w]
          rfl
         refine one_ (i := 4) (N := some 17) m7_7c rfl rfl zr (by decide) (fun K hK => ?_)
         refine Kd.R_lit_step k36 _ 36 ?hg (N := 17) ?hd (xs := ([(⟨a1_0, a1_1, a1_2⟩ : S36)] : List (S36))) (inner := [.int .i64 a1_0, .int .i64 a1_1, .bool a1_2]) (ok := fun _ => True) (okp := fun _ => True) ?hr ?hp (fun _ hk => hk) trivial (Below.refl _ _) (Nat.le_refl _) (by simp) ?_; (case hd => rfl); (case hg => rfl); (case hr => first | (go_simp; done) | (go_simp; rfl)); (case hp => exact (Reps.c3 (show Kd.M k36 _ _ _ (⟨a1_0, a1_1, a1_2⟩ : S36) [.int .i64 a1_0, .int .i64 a1_1, .bool a1_2] from (k36_mkM _ _ _ (⟨a1_0, a1_1, a1_2⟩ : S36) )) (Reps.none _ _)))
         intro v251 w31 ho32 hb hg_ hnew_
         clear hg_ hnew_
         (first | rw [← Ny250.out] at ho32 | (simp only [Int.reduceToNat] at ho32; rw [← Ny250.out] at ho32))
         have n0_ := jA (Kd.R_elder' (zo HO249) (Kd.R_base ho32) hb)
         have n1_ := jA (jZ (Kd.R_newB (Kd.R_new' ho32 (Kd.R_lt (zo HO249))) (g := gb242) (o := .cells #[.int .i64 a1_0, .int .i64 a1_1, .bool a1_2] 36 (0, 0)) (zk BK242)) (jT (zb1 HB GE242)))
         have n2_ := jA (blk_below (g := gb242) (o := .cells #[.int .i64 a1_0, .int .i64 a1_1, .bool a1_2] 36 (0, 0)) (zk BK242) hb)
         have n3_ := jA (jM (zb1 HB GE242) hb)
         clear HO249
         clear BK242
         clear HB
         have HO249 := n0_
         have HO252 := n1_
         have BK242 := n2_
         have HB := n3_
         clear n0_ n1_ n2_ n3_
         clear hb ho32
         refine hK.out _ _ ⟨(jE BK242.out 0).trans rfl, (jE BK242.out 1).trans rfl, (jE BK242.out 2).trans rfl⟩ (fun hHeld => ?_)
         clear hK K
         refine norm_ (a' := ?_) ?_ ?_
         rotate_left
         ·show Act.put _ (some 17) _ = _
          simp only [Act.put, jB, jI, jJ, i64_w, i32_w]
          rfl
         exact norm_ (by simp only [putAll, Act.put, jB, jI, jJ]) (hCont (v245, v248, v251) _ ⟨hHeld, (by (with_reducible repeat (first | apply jG | apply jF | apply jK)); exact Kd.R_mono HO249.out (fun _ hk => ⟨hk.2, hk.1⟩)), (by (with_reducible repeat (first | apply jG | apply jF | apply jK)); exact Kd.R_mono HO252.out (fun _ hk => ⟨hk.1.2, hk.2⟩)), (zk BK242), (zb1 HB GE242)⟩)
        ·skip
         refine Kd.R_lit_step k36 _ 36 ?hg (N := 17) ?hd (xs := ([(⟨a1_0, a1_1, a1_2⟩ : S36)] : List (S36))) (inner := [.int .i64 a1_0, .int .i64 a1_1, .bool a1_2]) (ok := fun _ => True) (okp := fun _ => True) ?hr ?hp (fun _ hk => hk) trivial (Below.refl _ _) (Nat.le_refl _) (by simp) ?_; (case hd => rfl); (case hg => rfl); (case hr => first | (go_simp; done) | (go_simp; rfl)); (case hp => exact (Reps.c3 (show Kd.M k36 _ _ _ (⟨a1_0, a1_1, a1_2⟩ : S36) [.int .i64 a1_0, .int .i64 a1_1, .bool a1_2] from (k36_mkM _ _ _ (⟨a1_0, a1_1, a1_2⟩ : S36) )) (Reps.none _ _)))
         intro v251 w30 ho31 hb hg_ hnew_
         clear hg_ hnew_
         (first | rw [← Ny250.out] at ho31 | (simp only [Int.reduceToNat] at ho31; rw [← Ny250.out] at ho31))
         have n0_ := jA (Kd.R_elder' (zo HO246) (Kd.R_base ho31) hb)
         have n1_ := jA (jZ (Kd.R_newB (Kd.R_new' ho31 (Kd.R_lt (zo HO246))) (g := gb242) (o := .cells #[.int .i64 a1_0, .int .i64 a1_1, .bool a1_2] 36 (0, 0)) (zk BK242)) (jT (zb1 HB GE242)))
         have n2_ := jA (blk_below (g := gb242) (o := .cells #[.int .i64 a1_0, .int .i64 a1_1, .bool a1_2] 36 (0, 0)) (zk BK242) hb)
         have n3_ := jA (jM (zb1 HB GE242) hb)
         clear HO246
         clear BK242
         clear HB
         have HO246 := n0_
         have HO252 := n1_
         have BK242 := n2_
         have HB := n3_
         clear n0_ n1_ n2_ n3_
         clear hb ho31
         refine hK.out _ _ ⟨(jE BK242.out 0).trans rfl, (jE BK242.out 1).trans rfl, (jE BK242.out 2).trans rfl⟩ (fun hHeld => ?_)
         clear hK K
         refine norm_ (a' := ?_) ?_ ?_
         rotate_left
         ·show Act.put _ (some 17) _ = _
          simp only [Act.put, jB, jI, jJ, i64_w, i32_w]
          rfl
         refine one_ (i := 2) (N := some 15) m7_7c rfl rfl zr (by decide) (fun K hK => ?_)
         refine Kd.R_append_rows_step k36 (w0 := w) w.heap.size (by rfl) (.tmp 13) (.tmp 14) 25 36 (.agg #[(.int .i64 0), (.int .i64 0), (.bool false)]) 24 rfl Try.underlying25 info36 rfl (by decide) (by omega) v245 y244 l0 _ _ _ (fun k_ => some k_ ≠ (v251 : Value).ownBlock ∧ k_ ≠ gb242) (fun _ => False) rfl rfl ?aO ?aR (fun _ _ h => h) (fun _ h => h.elim) ?aF ?aB ?aS ?aL ?_
         (case aR => repeat (first | exact HR0.out | exact (Kd.C_below HR0.out HB.out) | (with_reducible refine jP ?_ _) | (with_reducible refine jO ?_ _) | (with_reducible refine jU ?_)))
         (case aB => exact (zb1 HB GE242))
         (case aF => exact (fun k_ hk => ⟨Kd.fresh' (Kd.R_lt (zo HO252)) k_ hk, Kd.freshB (g := gb242) (o := .cells #[.int .i64 a1_0, .int .i64 a1_1, .bool a1_2] 36 (0, 0)) (zk BK242) k_ hk⟩))
         (case aO => exact (by (with_reducible repeat (first | apply jG | apply jF | apply jK)); exact Kd.R_mono HO246.out (fun _ hk => ⟨hk.2, hk.1.2⟩)))
         (case aS => exact (jT (zb1 HB GE242)))
         (case aL => have := LMc8.out; omega)
         intro v248 w32 ho hb hg hat
         rw [← Ny247.out] at ho
         have n0_ := jA (blk_grown (g := gb242) (o := .cells #[.int .i64 a1_0, .int .i64 a1_1, .bool a1_2] 36 (0, 0)) (zk BK242) hg (Kd.R_away HO246.out (fun _ hk => hk.1.2)))
         have n1_ := jA (Kd.R_after (ok := (fun k_ => k_ ≠ gb242)) (by (with_reducible repeat (first | apply jG | apply jF | apply jK)); exact Kd.R_mono HO252.out (fun _ hk => ⟨hk.2, hk.1.2⟩)) hg hat)
         have n2_ := jA (hb)
         have n3_ := jA (ho)
         clear BK242
         clear HO252
         clear HB
         clear HO246
         have BK242 := n0_
         have HO252 := n1_
         have HB := n2_
         have HO249 := n3_
         clear n0_ n1_ n2_ n3_
         clear ho hb hg hat
         refine hK.out _ _ ⟨(jE BK242.out 0).trans rfl, (jE BK242.out 1).trans rfl, (jE BK242.out 2).trans rfl⟩ (fun hHeld => ?_)
         clear hK K
         refine norm_ (a' := ?_) ?_ ?_
         rotate_left
         ·show Act.put _ (some 15) _ = _
          simp only [Act.put, jB, jI, jJ, i64_w, i32_w]
          rfl
         exact norm_ (by simp only [putAll, Act.put, jB, jI, jJ]) (hCont (v245, v248, v251) _ ⟨hHeld, (zo HO249), (by (with_reducible repeat (first | apply jG | apply jF | apply jK)); exact Kd.R_mono HO252.out (fun _ hk => ⟨hk.2, hk.1⟩)), (zk BK242), (zb1 HB GE242)⟩)
       ·skip
        refine Kd.R_lit_step k36 _ 36 ?hg (N := 17) ?hd (xs := ([(⟨a1_0, a1_1, a1_2⟩ : S36)] : List (S36))) (inner := [.int .i64 a1_0, .int .i64 a1_1, .bool a1_2]) (ok := fun _ => True) (okp := fun _ => True) ?hr ?hp (fun _ hk => hk) trivial (Below.refl _ _) (Nat.le_refl _) (by simp) ?_; (case hd => rfl); (case hg => rfl); (case hr => first | (go_simp; done) | (go_simp; rfl)); (case hp => exact (Reps.c3 (show Kd.M k36 _ _ _ (⟨a1_0, a1_1, a1_2⟩ : S36) [.int .i64 a1_0, .int .i64 a1_1, .bool a1_2] from (k36_mkM _ _ _ (⟨a1_0, a1_1, a1_2⟩ : S36) )) (Reps.none _ _)))
        intro v251 w28 ho29 hb hg_ hnew_
        clear hg_ hnew_
        (first | rw [← Ny250.out] at ho29 | (simp only [Int.reduceToNat] at ho29; rw [← Ny250.out] at ho29))
        have n0_ := jA (jZ (Kd.R_newB ho29 (g := gb242) (o := .cells #[.int .i64 a1_0, .int .i64 a1_1, .bool a1_2] 36 (0, 0)) (zk BK242)) (jT (zb1 HB GE242)))
        have n1_ := jA (blk_below (g := gb242) (o := .cells #[.int .i64 a1_0, .int .i64 a1_1, .bool a1_2] 36 (0, 0)) (zk BK242) hb)
        have n2_ := jA (jM (zb1 HB GE242) hb)
        clear BK242
        clear HB
        have HO252 := n0_
        have BK242 := n1_
        have HB := n2_
        clear n0_ n1_ n2_
        clear hb ho29
        refine hK.out _ _ ⟨(jE BK242.out 0).trans rfl, (jE BK242.out 1).trans rfl, (jE BK242.out 2).trans rfl⟩ (fun hHeld => ?_)
        clear hK K
        refine norm_ (a' := ?_) ?_ ?_
        rotate_left
        ·show Act.put _ (some 17) _ = _
         simp only [Act.put, jB, jI, jJ, i64_w, i32_w]
         rfl
        refine one_ (i := 0) (N := some 13) m7_6c rfl rfl zr (by decide) (fun K hK => ?_)
        refine Kd.R_lit_step k36 _ 36 ?hg (N := 13) ?hd (xs := ([] : List (S36))) (inner := []) (ok := fun _ => True) (okp := fun _ => True) ?hr ?hp (fun _ hk => hk) trivial (Below.refl _ _) (Nat.le_refl _) (by simp) ?_; (case hd => rfl); (case hg => rfl); (case hr => first | (go_simp; done) | (go_simp; rfl)); (case hp => exact (Reps.none _ _))
        intro v245 w30 ho31 hb hg_ hnew_
        clear hg_ hnew_
        (first | rw [← Ny244.out] at ho31 | (simp only [Int.reduceToNat] at ho31; rw [← Ny244.out] at ho31))
        have n0_ := jA (Kd.R_elder' (zo HO252) (Kd.R_base ho31) hb)
        have n1_ := jA (jZ (Kd.R_newB (Kd.R_new' ho31 (Kd.R_lt (zo HO252))) (g := gb242) (o := .cells #[.int .i64 a1_0, .int .i64 a1_1, .bool a1_2] 36 (0, 0)) (zk BK242)) (jT (zb1 HB GE242)))
        have n2_ := jA (blk_below (g := gb242) (o := .cells #[.int .i64 a1_0, .int .i64 a1_1, .bool a1_2] 36 (0, 0)) (zk BK242) hb)
        have n3_ := jA (jM (zb1 HB GE242) hb)
        clear HO252
        clear BK242
        clear HB
        have HO252 := n0_
        have HO246 := n1_
        have BK242 := n2_
        have HB := n3_
        clear n0_ n1_ n2_ n3_
        clear hb ho31
        refine hK.out _ _ ⟨(jE BK242.out 0).trans rfl, (jE BK242.out 1).trans rfl, (jE BK242.out 2).trans rfl⟩ (fun hHeld => ?_)
        clear hK K
        refine norm_ (a' := ?_) ?_ ?_
        rotate_left
        ·show Act.put _ (some 13) _ = _
         simp only [Act.put, jB, jI, jJ, i64_w, i32_w]
         rfl
        refine one_ (i := 2) (N := some 15) m7_7c rfl rfl zr (by decide) (fun K hK => ?_)
        refine Kd.R_append_rows_step k36 (w0 := w) w.heap.size (by rfl) (.tmp 13) (.tmp 14) 25 36 (.agg #[(.int .i64 0), (.int .i64 0), (.bool false)]) 24 rfl Try.underlying25 info36 rfl (by decide) (by omega) v245 y244 l0 _ _ _ (fun k_ => some k_ ≠ (v251 : Value).ownBlock ∧ k_ ≠ gb242) (fun _ => False) rfl rfl ?aO ?aR (fun _ _ h => h) (fun _ h => h.elim) ?aF ?aB ?aS ?aL ?_
        (case aR => repeat (first | exact HR0.out | exact (Kd.C_below HR0.out HB.out) | (with_reducible refine jP ?_ _) | (with_reducible refine jO ?_ _) | (with_reducible refine jU ?_)))
        (case aB => exact (zb1 HB GE242))
        (case aF => exact (fun k_ hk => ⟨Kd.fresh' (Kd.R_lt (zo HO252)) k_ hk, Kd.freshB (g := gb242) (o := .cells #[.int .i64 a1_0, .int .i64 a1_1, .bool a1_2] 36 (0, 0)) (zk BK242) k_ hk⟩))
        (case aO => exact (by (with_reducible repeat (first | apply jG | apply jF | apply jK)); exact Kd.R_mono HO246.out (fun _ hk => ⟨hk.1.2, hk.2⟩)))
        (case aS => exact (jT (zb1 HB GE242)))
        (case aL => have := LMc8.out; omega)
        intro v248 w32 ho hb hg hat
        rw [← Ny247.out] at ho
        have n0_ := jA (blk_grown (g := gb242) (o := .cells #[.int .i64 a1_0, .int .i64 a1_1, .bool a1_2] 36 (0, 0)) (zk BK242) hg (Kd.R_away HO246.out (fun _ hk => hk.2)))
        have n1_ := jA (Kd.R_after (ok := (fun k_ => k_ ≠ gb242)) (by (with_reducible repeat (first | apply jG | apply jF | apply jK)); exact Kd.R_mono HO252.out (fun _ hk => ⟨hk.1.2, hk.2⟩)) hg hat)
        have n2_ := jA (hb)
        have n3_ := jA (ho)
        clear BK242
        clear HO252
        clear HB
        clear HO246
        have BK242 := n0_
        have HO252 := n1_
        have HB := n2_
        have HO249 := n3_
        clear n0_ n1_ n2_ n3_
        clear ho hb hg hat
        refine hK.out _ _ ⟨(jE BK242.out 0).trans rfl, (jE BK242.out 1).trans rfl, (jE BK242.out 2).trans rfl⟩ (fun hHeld => ?_)
        clear hK K
        refine norm_ (a' := ?_) ?_ ?_
        rotate_left
        ·show Act.put _ (some 15) _ = _
         simp only [Act.put, jB, jI, jJ, i64_w, i32_w]
         rfl
        exact norm_ (by simp only [putAll, Act.put, jB, jI, jJ]) (hCont (v245, v248, v251) _ ⟨hHeld, (zo HO249), (by (with_reducible repeat (first | apply jG | apply jF | apply jK)); exact Kd.R_mono HO252.out (fun _ hk => ⟨hk.2, hk.1⟩)), (zk BK242), (zb1 HB GE242)⟩)
      rintro ⟨v245, v248, v251⟩ w33 ⟨hS_, h0_, h1_, h2_, h3_⟩
      have n0_ : Aside0 (Kd.R k36 36 w33 w.heap.size (fun k_ => some k_ ≠ (v251 : Value).ownBlock ∧ k_ ≠ gb242) v248 y247) := ⟨h0_⟩
      have n1_ : Aside0 (Kd.R k36 36 w33 w.heap.size (fun k_ => some k_ ≠ (v248 : Value).ownBlock ∧ k_ ≠ gb242) v251 y250) := ⟨h1_⟩
      have n2_ : Aside0 (w33.heap[gb242]? = some (.cells #[.int .i64 a1_0, .int .i64 a1_1, .bool a1_2] 36 (0, 0))) := ⟨h2_⟩
      have n3_ : Aside0 (Below w.heap.size w w33) := ⟨h3_⟩
      clear BK242
      clear HB
      clear h0_ h1_ h2_ h3_
      have HO249 := n0_
      have HO252 := n1_
      have BK242 := n2_
      have HB := n3_
      clear n0_ n1_ n2_ n3_
      have hHeld : w33.cell? ⟨gb242, 0, none⟩ = some (.int .i64 a1_0) ∧ w33.cell? ⟨gb242, 1, none⟩ = some (.int .i64 a1_1) ∧ w33.cell? ⟨gb242, 2, none⟩ = some (.bool a1_2) := hS_
      obtain ⟨Ao35, co35, eo35⟩ := Kd.R_slice HO252.out
      (first | subst eo35 | (injection eo35 with f1_ f2_ f3_; have f4_ := f1_.symm; have f5_ := f3_.symm; clear f1_ f2_ f3_; subst f4_; subst f5_))
      refine norm_ (a' := ?_) ?_ ?_
      rotate_left
      ·simp only [putAll, Act.put, jB, jI, jJ]
       rfl
      refine one_ (i := 5) (N := some 18) m7_7e rfl rfl zr (by decide) (fun K hK => ?_)
      refine Kd.R_append_rows_step k36 (w0 := w) w.heap.size (by rfl) (.tmp 15) (.tmp 17) 25 36 (.agg #[(.int .i64 0), (.int .i64 0), (.bool false)]) 24 rfl Try.underlying25 info36 rfl (by decide) (by omega) v248 y247 y250 _ _ _ (fun k_ => some k_ ≠ (.slice Ao35 y250.length co35 : Value).ownBlock ∧ k_ ≠ gb242) (fun _ => False) rfl rfl ?aO ?aR (fun _ _ h => h) (fun _ h => h.elim) ?aF ?aB ?aS ?aL ?_
      (case aR => repeat (first | exact (jH HO252.out).2.2 | (with_reducible refine jP ?_ _) | (with_reducible refine jO ?_ _) | (with_reducible refine jU ?_)))
      (case aB => exact (zb1 HB GE242))
      (case aF => exact (fun k_ hk => ⟨Kd.fresh' (Kd.R_lt (zo HO252)) k_ hk, Kd.freshB (g := gb242) (o := .cells #[.int .i64 a1_0, .int .i64 a1_1, .bool a1_2] 36 (0, 0)) (zk BK242) k_ hk⟩))
      (case aO => exact (zo HO249))
      (case aS => exact (jT (zb1 HB GE242)))
      (case aL => have := LMc9.out; omega)
      intro v254 w34 ho hb hg hat
      rw [← Ny253.out] at ho
      have n0_ := jA (blk_grown (g := gb242) (o := .cells #[.int .i64 a1_0, .int .i64 a1_1, .bool a1_2] 36 (0, 0)) (zk BK242) hg (Kd.R_away HO249.out (fun _ hk => hk.2)))
      have n1_ := jA (Kd.R_after (ok := (fun k_ => k_ ≠ gb242)) (by (with_reducible repeat (first | apply jG | apply jF | apply jK)); exact Kd.R_mono HO252.out (fun _ hk => ⟨hk.2, hk.1⟩)) hg hat)
      have n2_ := jA (hb)
      have n3_ := jA (ho)
      clear BK242
      clear HO252
      clear HB
      clear HO249
      have BK242 := n0_
      have HO252 := n1_
      have HB := n2_
      have HO255 := n3_
      clear n0_ n1_ n2_ n3_
      clear ho hb hg hat
      refine hK.out _ _ ⟨(jE BK242.out 0).trans rfl, (jE BK242.out 1).trans rfl, (jE BK242.out 2).trans rfl⟩ (fun hHeld => ?_)
      clear hK K
      refine norm_ (a' := ?_) ?_ ?_
      rotate_left
      ·show Act.put _ (some 18) _ = _
       simp only [Act.put, jB, jI, jJ, i64_w, i32_w]
       rfl
      refine pure_ (i := 6) (N := some 6) (v := ?_) (a' := ?_) m7_7f rfl rfl zr (fun _ _ _ h => h) (Or.inl ⟨by rfl, ?_⟩) ?_ ?_
      rotate_left
      ·intro w'
       go_simp
       with_reducible rfl
      rotate_left
      ·simp only [Act.put, jB, jI, jJ, i64_w, i32_w]
       rfl
      refine done_ zr ?_
      obtain ⟨Ao36, co36, eo36⟩ := Kd.R_slice HO255.out
      subst eo36
      try go_wp2_with (first | ((with_reducible refine jL (f := 14) rfl ?_); refine goesL_ (some 20) rfl rfl Try.func14 zr rfl #[.slice Ao36 y253.length co36] rfl zm ?_; (with_reducible refine (spec_AreTries.calls k _ _ y253 false _ ?side1 ?side2 A10.out).mono ?_); (case side1 => repeat (first | exact (jH HO255.out).2.2 | (with_reducible refine jP ?_ _) | (with_reducible refine jO ?_ _) | (with_reducible refine jU ?_))); (case side2 => exact (jH HO255.out).2.1); rintro e w37 ⟨rfl, hb⟩; refine ⟨_, rfl, ?_⟩; have n0_ := jA (jX (zo HO252) hb); have n1_ := jA (jX (zo HO255) hb); have n2_ := jA (blk_below (g := gb242) (o := .cells #[.int .i64 a1_0, .int .i64 a1_1, .bool a1_2] 36 (0, 0)) (zk BK242) hb); have n3_ := jA (jM (zb1 HB GE242) hb); clear HO252; clear HO255; clear BK242; clear HB; have HO252 := n0_; have HO255 := n1_; have BK242 := n2_; have HB := n3_; clear n0_ n1_ n2_ n3_; (try clear hb); (try clear hb2); (try clear hk); (try clear hi)))
      go_ret2
      exact ⟨_, by first | rfl | (simp [errW_none, errW_some] <;> rfl) | (simp [*, errW_none, errW_some] <;> rfl), by first | exact Kd.R_nil _ _ _ _ _ | exact Kd.N_nil _ _ _ _ _ | exact Kd.V_nil _ _ _ _ _ | exact Kd.Q_nil _ _ _ _ _ | exact Kd.S_nil _ _ _ _ _, zb1 HB GE242⟩
    ·rw [if_neg c9] at H
     exact absurd H (by simp)
   ·rw [if_neg c8] at H
    exact absurd H (by simp)
 ·replace c4 := Bool.eq_false_iff.mpr c4
  subst c4
  have H1 : (some (([] : List (S36)), 1)) = some (r1, r2) := by rw [if_neg (show ¬ (false = true) by decide)] at H; exact H
  clear H
  have H := H1
  clear H1
  simp only [jY, jc] at H
  obtain ⟨rfl, rfl⟩ := H
  go_enter Try.func22, Try.ntmps22
  go_wp2_with (first | ((with_reducible refine gate_dst (N := 3) rfl ?_); refine box_event ?hg (N := 3) ?hd (cs := #[.int .i64 a1_0, .int .i64 a1_1, .bool a1_2]) (t := 36) ?hr ?_; (case hd => rfl); (case hg => rfl); (case hr => first | (go_simp; done) | (go_simp; rfl)); intro gb242 hg w38 hbox hb; have n0_ := jA (jM (zb0 HB) hb); have n1_ := jA (hbox); have n2_ := jA ((by rw [hg]; exact (jT (zb0 HB)) : w.heap.size ≤ gb242)); have n3_ := jA ((by rw [hg]; exact (jT (zb0 HB)) : w.heap.size ≤ gb242)); clear HB; have HB := n0_; have BK242 := n1_; have GW242 := n2_; have GE242 := n3_; clear n0_ n1_ n2_ n3_; clear hb hbox hg) | ((with_reducible refine jL (f := 14) rfl ?_); refine goesL_ (some 8) rfl rfl Try.func14 zr rfl #[.slice A0 l0.length c0] rfl zm ?_; (with_reducible refine (spec_AreTries.calls k _ _ l0 false _ ?side1 ?side2 A3.out).mono ?_); (case side1 => exact zs HR0 HB); (case side2 => exact HC0.out); rintro e w39 ⟨rfl, hb⟩; refine ⟨_, rfl, ?_⟩; have n0_ := jA (blk_below (g := gb242) (o := .cells #[.int .i64 a1_0, .int .i64 a1_1, .bool a1_2] 36 (0, 0)) (zk BK242) hb); have n1_ := jA (jM (zb1 HB GE242) hb); clear BK242; clear HB; have BK242 := n0_; have HB := n1_; clear n0_ n1_; (try clear hb); (try clear hb2); (try clear hk); (try clear hi)))
  go_ret2
  exact ⟨_, by first | rfl | (simp [errW_none, errW_some] <;> rfl) | (simp [*, errW_none, errW_some] <;> rfl), by first | exact Kd.R_nil _ _ _ _ _ | exact Kd.N_nil _ _ _ _ _ | exact Kd.V_nil _ _ _ _ _ | exact Kd.Q_nil _ _ _ _ _ | exact Kd.S_nil _ _ _ _ _, zb1 HB GE242⟩

end Go.Proofs.Ythnpffomoaeeoaa.PFnCueStates
