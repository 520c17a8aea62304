/- The contract of laws_FnProofs, part 3. -/
import Derived.Test.YthieppjmjgijfaaQFnProofsx22
namespace Go.Proofs.Ythieppjmjgijfaa.PFnProofs
open Go.RowKit Go.Proofs.YthieppjmjgijfaaW.PrintWords Go.Proofs.YthieppjmjgijfaaW.PrintLast Go.Proofs.YthieppjmjgijfaaW.PrintMore
attribute [local go_sem] max2_int min2_int max_two min_two max_three min_three max_four min_four   -- for this text's walks alone
attribute [local go_sem high] eqA23
set_option linter.unusedVariables false
set_option linter.unusedSimpArgs false
set_option maxHeartbeats 40000000 in
set_option maxRecDepth 100000 in
theorem laws_FnProofs.last : laws_FnProofs.cut2.1 := by
  intros k A0 c0 l0 r w hu23 HR0 HC0 A2 t694 t695 A4 t700 t701 t702 A5 t703 t704 t705 A6 t706 t707 A7 t708 t709 A8 t710 A9 t711 t712 t713 t714 t715 t716 t717 A10 t719 t720 t721 t722 t723 t724 t725 A11 t727 t728 t729 t730 t731 t732 A12 t734 t735 A13 t736 t737 A14 _ nd w16 Ao17 co17 Ao18 co18 w19 w20 w21 w22 w23 w24 gb718 w25 GW718 GE718 w27 gb726 w28 GW726 GE726 NB718_726 NB726_718 hnb29 hnc29 w31 gb733 w32 GW733 GE733 NB718_733 NB733_718 NB726_733 NB733_726 hnb33 hnc33 hnb34 hnc34 w36 w38 HO697 HO699 kj14 HJ14 u25 u26 kj62 HJ62 u2 u27 u28 u187 kj89 HJ89 _ _ _ _ wc u40 u41 u42 u43 u44 u45 u46 u47 u48 u49 u50 u51 u52 u53 u54 u55 u56 u57 u58 u59 u60 u61 u62 u63 u64 u65 u66 u67 u68 u69 u70 u71 u72 u73 u74 u75 u76 u77 u78 u79 u80 u81 u82 u83 u84 u85 u86 u87 u88 u89 u90 u91 u92 u93 u94 u95 u96 u97 u98 u99 u100 u101 u102 u103 u104 u105 u106 u107 u108 u109 u110 u111 u112 u113 u114 u115 u116 u117 u118 u119 u120 u121 u122 u123 u124 u125 u126 u127 u128 u129 u130 u131 u132 u133 u134 u135 u136 u137 u138 u139 u140 u141 u142 u143 u144 u145 u146 u147 u148 u149 u150 u151 u152 u153 u154 u155 u156 u157 u158 u159 u160 u161 u162 u163 u164 u165 u166 u167 u168 u169 u170 u171 u172 u173 u174 u175 u176 u177 u178 u179 u180 u181 u182 u183 u184 u185 u186 u188 u189 u190 u191 u192 u193 u194 u195 u196 u197 u198 u199 u200 u201 u202 u203 u204 u205 u206 u207 u208 u209 u210 u211 u212 u213 u214 u215 u216 u217 u218 u219 u220 u221 u222 u223 u224 u225 u226 u227 u228 u229 u230 u231 u232 u233 u234 u235 u236 u237 u238 u239 u240 u241 u242 u243 u244 u245 u246 u247 u248 u249 u250 u251 u252 u253 u254 u255 u256 u257 u258 u259 u260 u261 u262 u263 u264 u265 u266 u267 u268 kq x187_120 HA HJ120 HO_3 HO_4 BK718 BK726 BK733 HB
  cases kq with
  | zero => exact absurd HA.out (by simp [laws_FnProofs.j3])
  | succ kj120 =>
   have H := HA.out
   clear HA
   simp only [laws_FnProofs.j3] at H
   have HC123 := jA H
   clear H
   go_upto_if 187 with (fail)
   go_cut [] (fun wc => ∃ (kq : Nat), Aside0 (laws_FnProofs.j6 kq t694 t695 t700 t701 t702 = some r) ∧ Aside0 (kq ≤ kj120) ∧ Aside0 (Kd.R (Kd.int .i64) 2 wc w.heap.size (fun k_ => some k_ ≠ ((.slice Ao18 t695.length co18) : Value).ownBlock) (.slice Ao17 t694.length co17) t694) ∧ Aside0 (Kd.R (Kd.int .i64) 2 wc w.heap.size (fun k_ => some k_ ≠ ((.slice Ao17 t694.length co17) : Value).ownBlock) (.slice Ao18 t695.length co18) t695) ∧ Aside0 (wc.heap[gb718]? = some (.cells #[.bool t711, .bool t712, .bool t713, .bool t714, .bool t715, .int .i64 t716] 23 (0, 0))) ∧ Aside0 (wc.heap[gb726]? = some (.cells #[.bool t719, .bool t720, .bool t721, .bool t722, .bool t723, .int .i64 t724] 23 (0, 0))) ∧ Aside0 (wc.heap[gb733]? = some (.cells #[.bool t727, .bool t728, .bool t729, .bool t730, .bool t731, .int .i64 t732] 23 (0, 0))) ∧ Aside0 (Below w.heap.size w wc))
   case first =>
    have H := HC123.out
    clear HC123
    by_cases c124 : x187_120 = true
    ·subst c124
     rw [if_pos rfl] at H
     replace H := jC.mp H
     obtain ⟨⟨t749, t750, t751⟩, A1250, H⟩ := H
     try dsimp only at H
     have A125 := jA A1250
     clear A1250
     replace H := jC.mp H
     obtain ⟨⟨t753, t754, t755⟩, A1260, H⟩ := H
     try dsimp only at H
     have A126 := jA A1260
     clear A1260
     by_cases c127 : 0 ≤ t753
     ·rw [if_pos c127] at H
      have c127b0 : decide (0 ≤ t753) = true := jI c127
      clear c127
      (first | rw [c127b0] | (simp only [i64_w, i32_w]; rw [c127b0]) | skip)
      by_cases c128 : t753 < (t694.length : Int)
      ·rw [if_pos c128] at H
       have c128b0 : decide (t753 < (t694.length : Int)) = true := jI c128
       clear c128
       replace H := jC.mp H
       obtain ⟨⟨t757, t758, t759, t760, t761, t762, t763⟩, A1290, H⟩ := H
       try dsimp only at H
       have A129 := jA A1290
       clear A1290
       replace H := jC.mp H
       obtain ⟨⟨t765, t768⟩, A1300, H⟩ := H
       try dsimp only at H
       have A130 := jA A1300
       clear A1300
       have HC131 := jA H
       clear H
       go_upto_region 31 with (first | ((with_reducible refine jG (f := 28) rfl ?_); refine zL (some 191) Try.func28 #[.slice A0 l0.length c0, .int .u64 2501] ?_; (with_reducible refine (laws_roll.calls kj120 _ _ l0 2501 t749 t750 t751 w _ ?side1 ?side2 ?side3 A125.out).mono ?_); (case side1 => exact zr15 HB GE718 GE726 GE733); (case side2 => exact HR0.out); (case side3 => exact HC0.out); rintro e w132 ⟨g752, rfl, hi, hb, hb2⟩; refine ⟨_, rfl, ?_⟩; replace HO_3 := jA (jP (zo HO_3) hb2); replace HO_4 := jA (jP (zo HO_4) hb2); replace HB := jA (hb); have HI752 := jA (hi); have NB752_718 := jA (IsS76.ne_blk hi (jU (g := gb718) (o := .cells #[.bool t711, .bool t712, .bool t713, .bool t714, .bool t715, .int .i64 t716] 23 (0, 0)) (zk BK718) hb2) (by decide)); have NB718_752 := jA (Ne.symm (IsS76.ne_blk hi (jU (g := gb718) (o := .cells #[.bool t711, .bool t712, .bool t713, .bool t714, .bool t715, .int .i64 t716] 23 (0, 0)) (zk BK718) hb2) (by decide))); replace BK718 := zB BK718 hb2; have NB752_726 := jA (IsS76.ne_blk hi (jU (g := gb726) (o := .cells #[.bool t719, .bool t720, .bool t721, .bool t722, .bool t723, .int .i64 t724] 23 (0, 0)) (zk BK726) hb2) (by decide)); have NB726_752 := jA (Ne.symm (IsS76.ne_blk hi (jU (g := gb726) (o := .cells #[.bool t719, .bool t720, .bool t721, .bool t722, .bool t723, .int .i64 t724] 23 (0, 0)) (zk BK726) hb2) (by decide))); replace BK726 := zB BK726 hb2; have NB752_733 := jA (IsS76.ne_blk hi (jU (g := gb733) (o := .cells #[.bool t727, .bool t728, .bool t729, .bool t730, .bool t731, .int .i64 t732] 23 (0, 0)) (zk BK733) hb2) (by decide)); have NB733_752 := jA (Ne.symm (IsS76.ne_blk hi (jU (g := gb733) (o := .cells #[.bool t727, .bool t728, .bool t729, .bool t730, .bool t731, .int .i64 t732] 23 (0, 0)) (zk BK733) hb2) (by decide))); replace BK733 := zB BK733 hb2; (try clear hb); (try clear hb2); (try clear hk); (try clear hi)) | ((with_reducible refine jG (f := 29) rfl ?_); refine zL (some 194) Try.func29 #[.pointer (some ⟨g752, 0, none⟩), .int .i64 (t694.length : Int)] ?_; (with_reducible refine (laws_dice_below.calls g752 t749 t750 t751 (t694.length : Int) t753 t754 t755 w _ ?side1 ?side2 A126.out).mono ?_); (case side1 => exact zr11 HI752 NB752_718 NB752_726 NB752_733); (case side2 => exact zr12 HB HI752 GE718 GE726 GE733); rintro e w133 ⟨rfl, hi, hb, hk⟩; refine ⟨_, rfl, ?_⟩; replace HO_3 := jA (Kd.R_mono (Kd.R_keep (IsS76.apart (show IsS76 w _ g752 t749 t750 t751 from zr11 HI752 NB752_718 NB752_726 NB752_733) (zo HO_3) (by decide)) hk (fun _ h => h.2)) (fun _ h => h.1)); replace HO_4 := jA (Kd.R_mono (Kd.R_keep (IsS76.apart (show IsS76 w _ g752 t749 t750 t751 from zr11 HI752 NB752_718 NB752_726 NB752_733) (zo HO_4) (by decide)) hk (fun _ h => h.2)) (fun _ h => h.1)); replace BK718 := zK hk BK718 NB718_752; replace BK726 := zK hk BK726 NB726_752; replace BK733 := zK hk BK733 NB733_752; replace HB := jA (hb); replace HI752 := jA (hi); (try clear hb); (try clear hb2); (try clear hk); (try clear hi); have p756 : 0 ≤ (t753 : Int) := jB za; have q756 : t753 < (t694.length : Int) := jB za; obtain ⟨ad756, e756, hx756_0⟩ := jR (jO HO_3.out).2.2 t753 p756 q756; cases e756; replace p756 := eq_true p756; replace q756 := eq_true q756) | ((with_reducible refine jG (f := 14) rfl ?_); refine zL (some 197) Try.func14 #[.int .i64 (rd t694 t753)] ?_; (with_reducible refine (impl_ControllerWith.calls (rd t694 t753) t757 t758 t759 t760 t761 t762 t763 _ A129.out).mono ?_); rintro e w134 ⟨rfl, hb⟩; refine ⟨_, rfl, ?_⟩; replace HO_3 := jA (jP (zo HO_3) hb); replace HO_4 := jA (jP (zo HO_4) hb); replace BK718 := zB BK718 hb; replace BK726 := zB BK726 hb; replace BK733 := zB BK733 hb; replace HB := jA (jY (zr12 HB HI752 GE718 GE726 GE733) hb); replace HI752 := jA (IsS76.below (zr11 HI752 NB752_718 NB752_726 NB752_733) hb); clear hb) | ((with_reducible refine jJ (N := 29) rfl ?_); (try (refine gate_guard (by rfl) ?_; dsimp only)); refine zE 29 #[.bool false, .bool false, .bool false, .bool false, .bool false, .int .i64 0] 23 ?_; intro gb764 hg w135 hbox hb; replace HO_3 := jA (jP (zo HO_3) hb); replace HO_4 := jA (jP (zo HO_4) hb); have BK764 := jA (hbox); have GW764 := jA ((by rw [hg]; exact (jT (zr12 HB HI752 GE718 GE726 GE733)) : w.heap.size ≤ gb764)); replace HB := jA (jY (zr12 HB HI752 GE718 GE726 GE733) hb); have GE764 := GW764; have NB718_764 := zn hg BK718; replace BK718 := zB BK718 hb; have NB764_718 := jA NB718_764.out.symm; have NB726_764 := zn hg BK726; replace BK726 := zB BK726 hb; have NB764_726 := jA NB726_764.out.symm; have NB733_764 := zn hg BK733; replace BK733 := zB BK733 hb; have NB764_733 := jA NB733_764.out.symm; have NB752_764 := jA ((by rw [hg]; exact Nat.ne_of_lt (IsS76.lt (show IsS76 w _ g752 t749 t754 t755 from zr11 HI752 NB752_718 NB752_726 NB752_733)) : g752 ≠ gb764)); have NB764_752 := jA ((by rw [hg]; exact Nat.ne_of_gt (IsS76.lt (show IsS76 w _ g752 t749 t754 t755 from zr11 HI752 NB752_718 NB752_726 NB752_733)) : gb764 ≠ g752)); replace HI752 := jA (IsS76.below (zr11 HI752 NB752_718 NB752_726 NB752_733) hb); clear hb hbox hg; have hnb136 := NB764_718.out; have hnc136 := NB718_764.out; have hnb137 := NB764_726.out; have hnc137 := NB726_764.out; have hnb138 := NB764_733.out; have hnc138 := NB733_764.out; have hnb139 := NB764_752.out; have hnc139 := NB752_764.out; have hcz140 := zc6 BK764) | ((with_reducible refine jG (f := 30) rfl ?_); refine zL (some 203) Try.func30 #[.agg #[.bool t757, .bool t758, .bool t759, .bool t760, .bool t761, .int .i64 t762], .slice Ao18 t695.length co18] ?_; (with_reducible refine (impl_ReachedFrom.calls kj120 t757 t758 t759 t760 t761 t762 _ _ t695 t765 t768 _ ?side1 ?side2 A130.out).mono ?_); (case side1 => refine (jO (e := 2) (base := w.heap.size) (ok := fun k_ => some k_ ≠ (.slice (some ad756) t694.length co17 : Value).ownBlock) (n := t695.length) (c := co18) ?_).2.2; exact (zU HO_4 BK764)); (case side2 => exact (jO HO_4.out).2.1); rintro e w141 ⟨v766, rfl, ho0, hb⟩; refine ⟨_, rfl, ?_⟩; have HO767 := jA (jX (Kd.R_new' (Kd.R_new' ho0 (Kd.R_lt (zU HO_3 BK764))) (Kd.R_lt (zU HO_4 BK764))) (jT (zr13 HB HI752 GE718 GE726 GE733 GE764))); replace HO_3 := jA (Kd.R_elder' (zU HO_3 BK764) (Kd.R_base ho0) hb); replace HO_4 := jA (Kd.R_elder' (zU HO_4 BK764) (Kd.R_base ho0) hb); replace BK718 := jA (jU (g := gb718) (o := .cells #[.bool t711, .bool t712, .bool t713, .bool t714, .bool t715, .int .i64 t716] 23 (0, 0)) (zQ1 BK718 NB718_764) hb); replace BK726 := jA (jU (g := gb726) (o := .cells #[.bool t719, .bool t720, .bool t721, .bool t722, .bool t723, .int .i64 t724] 23 (0, 0)) (zQ1 BK726 NB726_764) hb); replace BK733 := jA (jU (g := gb733) (o := .cells #[.bool t727, .bool t728, .bool t729, .bool t730, .bool t731, .int .i64 t732] 23 (0, 0)) (zQ1 BK733 NB733_764) hb); replace BK764 := jA (jU (g := gb764) (o := .cells #[.bool t757, .bool t758, .bool t759, .bool t760, .bool t761, .int .i64 t762] 23 (0, 0)) (zP0 BK764) hb); replace HB := jA (jY (zr13 HB HI752 GE718 GE726 GE733 GE764) hb); replace HI752 := jA (IsS76.below (show IsS76 w ((((((w135.setCell ⟨gb764, 0, none⟩ (.bool t757)).setCell ⟨gb764, 1, none⟩ (.bool t758)).setCell ⟨gb764, 2, none⟩ (.bool t759)).setCell ⟨gb764, 3, none⟩ (.bool t760)).setCell ⟨gb764, 4, none⟩ (.bool t761)).setCell ⟨gb764, 5, none⟩ (.int .i64 t762)) g752 t749 t754 t755 from zr14 HI752 NB752_718 NB752_726 NB752_733 NB752_764) hb); (try clear hb); (try clear hb2); (try clear hk); (try clear hi); (try clear ho0)))
       (try simp only [Act.put, jD, jE, jF])
       go_cut [211] (fun v211 wc => ∃ (kq : Nat) (x211_130 : Bool), v211 = .bool x211_130 ∧ Aside0 (laws_FnProofs.j4 kq t694 t695 t700 t701 t702 t765 x211_130 = some r) ∧ Aside0 (kq ≤ kj120) ∧ Aside0 (Kd.R (Kd.int .i64) 2 wc w.heap.size (fun k_ => some k_ ≠ ((.slice Ao18 t695.length co18) : Value).ownBlock ∧ some k_ ≠ (v766 : Value).ownBlock) (.slice (some ad756) t694.length co17) t694) ∧ Aside0 (Kd.R (Kd.int .i64) 2 wc w.heap.size (fun k_ => some k_ ≠ ((.slice (some ad756) t694.length co17) : Value).ownBlock ∧ some k_ ≠ (v766 : Value).ownBlock) (.slice Ao18 t695.length co18) t695) ∧ Aside0 (Kd.R (Kd.int .i64) 2 wc w.heap.size (fun k_ => some k_ ≠ ((.slice (some ad756) t694.length co17) : Value).ownBlock ∧ some k_ ≠ ((.slice Ao18 t695.length co18) : Value).ownBlock) v766 t765) ∧ Aside0 (wc.heap[gb718]? = some (.cells #[.bool t711, .bool t712, .bool t713, .bool t714, .bool t715, .int .i64 t716] 23 (0, 0))) ∧ Aside0 (wc.heap[gb726]? = some (.cells #[.bool t719, .bool t720, .bool t721, .bool t722, .bool t723, .int .i64 t724] 23 (0, 0))) ∧ Aside0 (wc.heap[gb733]? = some (.cells #[.bool t727, .bool t728, .bool t729, .bool t730, .bool t731, .int .i64 t732] 23 (0, 0))) ∧ Aside0 (wc.heap[gb764]? = some (.cells #[.bool t757, .bool t758, .bool t759, .bool t760, .bool t761, .int .i64 t762] 23 (0, 0))) ∧ Aside0 (Below w.heap.size w wc))
       case first =>
        have H := HC131.out
        clear HC131
        by_cases c142 : t763 = 0
        ·rw [if_pos c142] at H
         have c142b0 : (t763 == 0) = true := beq_iff_eq.mpr c142
         have c142b1 : (t763 != 0) = false := bne_eq_false_iff_eq.mpr c142
         clear c142
         (first | rw [c142b0] | (simp only [i64_w, i32_w]; rw [c142b0]) | skip)
         have H' := jA H
         clear H
         go_wp2
         go_meet
         case rel => exact ⟨_, ((t768 != 0)), zz, H', ⟨by have := HJ14.out; have := HJ62.out; have := HJ89.out; have := HJ120.out; first | omega | exact Nat.le_refl _⟩, ⟨zo HO_3⟩, ⟨zo HO_4⟩, ⟨by (with_reducible repeat (first | apply ja | apply jZ | apply Kd.R_drew)); exact Kd.R_mono HO767.out (fun _ hk => ⟨hk.1.2, hk.2⟩)⟩, ⟨zk BK718⟩, ⟨zk BK726⟩, ⟨zk BK733⟩, ⟨zk BK764⟩, ⟨zr13 HB HI752 GE718 GE726 GE733 GE764⟩⟩
        ·rw [if_neg c142] at H
         exact absurd H (by simp)
       case rest =>
        clear HC131
        try clear c1
        try clear c2
        try clear p2
        try clear c3
        try clear c4
        try clear c5
        try clear c6
        try clear c7
        try clear p7
        try clear q7
        try clear hx7
        try clear c8
        try clear c9
        try clear c10
        try clear c11
        try clear c12
        try clear c13
        try clear c14
        try clear c16
        try clear c18
        try clear c19
        try clear c20
        try clear c21
        try clear c22
        try clear c23
        try clear c24
        try clear c25
        try clear c26
        try clear c28
        try clear c29
        try clear c30
        try clear c33
        try clear c34
        try clear c39
        try clear c39b0
        try clear c39b1
        try clear c40
        try clear c40b0
        try clear c40b1
        try clear c41
        try clear c41b0
        try clear c41b1
        try clear c42
        try clear c42b0
        try clear c42b1
        try clear c43
        try clear c43b0
        try clear c43b1
        try clear c43b2
        try clear c44
        try clear c44b0
        try clear c44b1
        try clear c45
        try clear c45b0
        try clear c46
        try clear c47
        try clear c49
        try clear c51
        try clear c51b0
        try clear c51b1
        try clear c52
        try clear c53
        try clear c55
        try clear c57
        try clear c58
        try clear c60
        try clear c62
        try clear c64
        try clear c64b0
        try clear c64b1
        try clear c66
        try clear c66b0
        try clear c66b1
        try clear c67
        try clear c67b0
        try clear c67b1
        try clear c69
        try clear c70
        try clear c71
        try clear p75
        try clear q75
        try clear hx75
        try clear c76
        try clear c77
        try clear c82
        try clear c83
        try clear c86
        try clear c87
        try clear c91
        try clear c91b0
        try clear c91b1
        try clear c93
        try clear c93b0
        try clear c93b1
        try clear c94
        try clear c94b0
        try clear c97
        try clear c98
        try clear c99
        try clear c101
        try clear c102
        try clear c106
        try clear c107
        try clear c108
        try clear c110
        try clear c111
        try clear c115
        try clear c116
        try clear c117
        try clear c119
        try clear c119b0
        try clear c119b1
        try clear c120
        try clear c120b0
        try clear c120b1
        try clear c120b2
        try clear c122
        try clear c124
        try clear c127
        try clear c127b0
        try clear c128
        try clear c128b0
        try clear c136
        try clear c137
        try clear c138
        try clear c139
        try clear c142
        try clear c142b0
        try clear c142b1
        try clear hcz100_0
        try clear hcz100_1
        try clear hcz100_2
        try clear hcz100_3
        try clear hcz100_4
        try clear hcz100_5
        try clear hcz103_0
        try clear hcz103_1
        try clear hcz103_2
        try clear hcz103_3
        try clear hcz103_4
        try clear hcz103_5
        try clear hcz109
        try clear hcz112
        try clear hcz118_0
        try clear hcz118_1
        try clear hcz118_2
        try clear hcz118_3
        try clear hcz118_4
        try clear hcz118_5
        try clear hcz140
        try clear hcz26
        try clear hcz30
        try clear hcz35
        try clear hcz37
        try clear hcz48_0
        try clear hcz48_1
        try clear hcz48_2
        try clear hcz48_3
        try clear hcz48_4
        try clear hcz48_5
        try clear hcz50_0
        try clear hcz50_1
        try clear hcz50_2
        try clear hcz50_3
        try clear hcz50_4
        try clear hcz50_5
        try clear hcz54
        try clear hcz56
        try clear hcz59_0
        try clear hcz59_1
        try clear hcz59_2
        try clear hcz59_3
        try clear hcz59_4
        try clear hcz59_5
        try clear hcz61_0
        try clear hcz61_1
        try clear hcz61_2
        try clear hcz61_3
        try clear hcz61_4
        try clear hcz61_5
        try clear hcz72
        try clear hcz74
        try clear hcz78_0
        try clear hcz78_1
        try clear hcz78_2
        try clear hcz78_3
        try clear hcz78_4
        try clear hcz78_5
        try clear hcz80_0
        try clear hcz80_1
        try clear hcz80_2
        try clear hcz80_3
        try clear hcz80_4
        try clear hcz80_5
        try clear hcz84_0
        try clear hcz84_1
        try clear hcz84_2
        try clear hcz84_3
        try clear hcz84_4
        try clear hcz84_5
        try clear hcz88_0
        try clear hcz88_1
        try clear hcz88_2
        try clear hcz88_3
        try clear hcz88_4
        try clear hcz88_5
        try clear hfz100_0
        try clear hfz100_1
        try clear hfz100_2
        try clear hfz100_3
        try clear hfz100_4
        try clear hfz100_5
        try clear hfz103_0
        try clear hfz103_1
        try clear hfz103_2
        try clear hfz103_3
        try clear hfz103_4
        try clear hfz103_5
        try clear hfz118_0
        try clear hfz118_1
        try clear hfz118_2
        try clear hfz118_3
        try clear hfz118_4
        try clear hfz118_5
        try clear hfz48_0
        try clear hfz48_1
        try clear hfz48_2
        try clear hfz48_3
        try clear hfz48_4
        try clear hfz48_5
        try clear hfz50_0
        try clear hfz50_1
        try clear hfz50_2
        try clear hfz50_3
        try clear hfz50_4
        try clear hfz50_5
        try clear hfz59_0
        try clear hfz59_1
        try clear hfz59_2
        try clear hfz59_3
        try clear hfz59_4
        try clear hfz59_5
        try clear hfz61_0
        try clear hfz61_1
        try clear hfz61_2
        try clear hfz61_3
        try clear hfz61_4
        try clear hfz61_5
        try clear hfz78_0
        try clear hfz78_1
        try clear hfz78_2
        try clear hfz78_3
        try clear hfz78_4
        try clear hfz78_5
        try clear hfz80_0
        try clear hfz80_1
        try clear hfz80_2
        try clear hfz80_3
        try clear hfz80_4
        try clear hfz80_5
        try clear hfz84_0
        try clear hfz84_1
        try clear hfz84_2
        try clear hfz84_3
        try clear hfz84_4
        try clear hfz84_5
        try clear hfz88_0
        try clear hfz88_1
        try clear hfz88_2
        try clear hfz88_3
        try clear hfz88_4
        try clear hfz88_5
        try clear hx756_0
        try clear p2
        try clear p756
        try clear q756
        obtain ⟨kq, x211_130, rfl, HA, HJ130, HO_3, HO_4, HO_31, BK718, BK726, BK733, BK764, HB⟩ := hcut
        cases kq with
        | zero => exact absurd HA.out (by simp [laws_FnProofs.j4])
        | succ kj130 =>
         have H := HA.out
         clear HA
         simp only [laws_FnProofs.j4] at H
         by_cases c143 : x211_130 = true
         ·subst c143
          have H1 : (none) = some r := by rw [if_pos rfl] at H; exact H
          exact absurd H1 (by simp)
         ·replace c143 := Bool.eq_false_iff.mpr c143
          subst c143
          rw [if_neg zfalse] at H
          have H' := jA H
          clear H
          go_wp2
          go_loopg [33] kj130 (fun kq v33 w' => ∃ (x33_6 : Int), v33 = .int .i64 x33_6 ∧ Aside0 (laws_FnProofs.l0 kq t694 t695 t700 t701 t702 t765 x33_6 = some r) ∧ Aside0 (kq ≤ kj130) ∧ Aside0 (Kd.R (Kd.int .i64) 2 w' w.heap.size (fun k_ => some k_ ≠ ((.slice Ao18 t695.length co18) : Value).ownBlock ∧ some k_ ≠ (v766 : Value).ownBlock) (.slice (some ad756) t694.length co17) t694) ∧ Aside0 (Kd.R (Kd.int .i64) 2 w' w.heap.size (fun k_ => some k_ ≠ ((.slice (some ad756) t694.length co17) : Value).ownBlock ∧ some k_ ≠ (v766 : Value).ownBlock) (.slice Ao18 t695.length co18) t695) ∧ Aside0 (Kd.R (Kd.int .i64) 2 w' w.heap.size (fun k_ => some k_ ≠ ((.slice (some ad756) t694.length co17) : Value).ownBlock ∧ some k_ ≠ ((.slice Ao18 t695.length co18) : Value).ownBlock) v766 t765) ∧ Aside0 (w'.heap[gb718]? = some (.cells #[.bool t711, .bool t712, .bool t713, .bool t714, .bool t715, .int .i64 t716] 23 (0, 0))) ∧ Aside0 (w'.heap[gb726]? = some (.cells #[.bool t719, .bool t720, .bool t721, .bool t722, .bool t723, .int .i64 t724] 23 (0, 0))) ∧ Aside0 (w'.heap[gb733]? = some (.cells #[.bool t727, .bool t728, .bool t729, .bool t730, .bool t731, .int .i64 t732] 23 (0, 0))) ∧ Aside0 (w'.heap[gb764]? = some (.cells #[.bool t757, .bool t758, .bool t759, .bool t760, .bool t761, .int .i64 t762] 23 (0, 0))) ∧ Aside0 (Below w.heap.size w w'))
          case atStart => exact ⟨(0), zz, H', ⟨Nat.le_refl _⟩, ⟨zo HO_3⟩, ⟨zo HO_4⟩, ⟨zo HO_31⟩, ⟨zk BK718⟩, ⟨zk BK726⟩, ⟨zk BK733⟩, ⟨zk BK764⟩, ⟨zb4 HB GE718 GE726 GE733 GE764⟩⟩
          case round =>
           clear H'
           try clear c1
           try clear c2
           try clear p2
           try clear c3
           try clear c4
           try clear c5
           try clear c6
           try clear c7
           try clear p7
           try clear q7
           try clear hx7
           try clear c8
           try clear c9
           try clear c10
           try clear c11
           try clear c12
           try clear c13
           try clear c14
           try clear c16
           try clear c18
           try clear c19
           try clear c20
           try clear c21
           try clear c22
           try clear c23
           try clear c24
           try clear c25
           try clear c26
           try clear c28
           try clear c29
           try clear c30
           try clear c33
           try clear c34
           try clear c39
           try clear c39b0
           try clear c39b1
           try clear c40
           try clear c40b0
           try clear c40b1
           try clear c41
           try clear c41b0
           try clear c41b1
           try clear c42
           try clear c42b0
           try clear c42b1
           try clear c43
           try clear c43b0
           try clear c43b1
           try clear c43b2
           try clear c44
           try clear c44b0
           try clear c44b1
           try clear c45
           try clear c45b0
           try clear c46
           try clear c47
           try clear c49
           try clear c51
           try clear c51b0
           try clear c51b1
           try clear c52
           try clear c53
           try clear c55
           try clear c57
           try clear c58
           try clear c60
           try clear c62
           try clear c64
           try clear c64b0
           try clear c64b1
           try clear c66
           try clear c66b0
           try clear c66b1
           try clear c67
           try clear c67b0
           try clear c67b1
           try clear c69
           try clear c70
           try clear c71
           try clear p75
           try clear q75
           try clear hx75
           try clear c76
           try clear c77
           try clear c82
           try clear c83
           try clear c86
           try clear c87
           try clear c91
           try clear c91b0
           try clear c91b1
           try clear c93
           try clear c93b0
           try clear c93b1
           try clear c94
           try clear c94b0
           try clear c97
           try clear c98
           try clear c99
           try clear c101
           try clear c102
           try clear c106
           try clear c107
           try clear c108
           try clear c110
           try clear c111
           try clear c115
           try clear c116
           try clear c117
           try clear c119
           try clear c119b0
           try clear c119b1
           try clear c120
           try clear c120b0
           try clear c120b1
           try clear c120b2
           try clear c122
           try clear c124
           try clear c127
           try clear c127b0
           try clear c128
           try clear c128b0
           try clear c136
           try clear c137
           try clear c138
           try clear c139
           try clear c142
           try clear c142b0
           try clear c142b1
           try clear c143
           try clear hcz100_0
           try clear hcz100_1
           try clear hcz100_2
           try clear hcz100_3
           try clear hcz100_4
           try clear hcz100_5
           try clear hcz103_0
           try clear hcz103_1
           try clear hcz103_2
           try clear hcz103_3
           try clear hcz103_4
           try clear hcz103_5
           try clear hcz109
           try clear hcz112
           try clear hcz118_0
           try clear hcz118_1
           try clear hcz118_2
           try clear hcz118_3
           try clear hcz118_4
           try clear hcz118_5
           try clear hcz140
           try clear hcz26
           try clear hcz30
           try clear hcz35
           try clear hcz37
           try clear hcz48_0
           try clear hcz48_1
           try clear hcz48_2
           try clear hcz48_3
           try clear hcz48_4
           try clear hcz48_5
           try clear hcz50_0
           try clear hcz50_1
           try clear hcz50_2
           try clear hcz50_3
           try clear hcz50_4
           try clear hcz50_5
           try clear hcz54
           try clear hcz56
           try clear hcz59_0
           try clear hcz59_1
           try clear hcz59_2
           try clear hcz59_3
           try clear hcz59_4
           try clear hcz59_5
           try clear hcz61_0
           try clear hcz61_1
           try clear hcz61_2
           try clear hcz61_3
           try clear hcz61_4
           try clear hcz61_5
           try clear hcz72
           try clear hcz74
           try clear hcz78_0
           try clear hcz78_1
           try clear hcz78_2
           try clear hcz78_3
           try clear hcz78_4
           try clear hcz78_5
           try clear hcz80_0
           try clear hcz80_1
           try clear hcz80_2
           try clear hcz80_3
           try clear hcz80_4
           try clear hcz80_5
           try clear hcz84_0
           try clear hcz84_1
           try clear hcz84_2
           try clear hcz84_3
           try clear hcz84_4
           try clear hcz84_5
           try clear hcz88_0
           try clear hcz88_1
           try clear hcz88_2
           try clear hcz88_3
           try clear hcz88_4
           try clear hcz88_5
           try clear hfz100_0
           try clear hfz100_1
           try clear hfz100_2
           try clear hfz100_3
           try clear hfz100_4
           try clear hfz100_5
           try clear hfz103_0
           try clear hfz103_1
           try clear hfz103_2
           try clear hfz103_3
           try clear hfz103_4
           try clear hfz103_5
           try clear hfz118_0
           try clear hfz118_1
           try clear hfz118_2
           try clear hfz118_3
           try clear hfz118_4
           try clear hfz118_5
           try clear hfz48_0
           try clear hfz48_1
           try clear hfz48_2
           try clear hfz48_3
           try clear hfz48_4
           try clear hfz48_5
           try clear hfz50_0
           try clear hfz50_1
           try clear hfz50_2
           try clear hfz50_3
           try clear hfz50_4
           try clear hfz50_5
           try clear hfz59_0
           try clear hfz59_1
           try clear hfz59_2
           try clear hfz59_3
           try clear hfz59_4
           try clear hfz59_5
           try clear hfz61_0
           try clear hfz61_1
           try clear hfz61_2
           try clear hfz61_3
           try clear hfz61_4
           try clear hfz61_5
           try clear hfz78_0
           try clear hfz78_1
           try clear hfz78_2
           try clear hfz78_3
           try clear hfz78_4
           try clear hfz78_5
           try clear hfz80_0
           try clear hfz80_1
           try clear hfz80_2
           try clear hfz80_3
           try clear hfz80_4
           try clear hfz80_5
           try clear hfz84_0
           try clear hfz84_1
           try clear hfz84_2
           try clear hfz84_3
           try clear hfz84_4
           try clear hfz84_5
           try clear hfz88_0
           try clear hfz88_1
           try clear hfz88_2
           try clear hfz88_3
           try clear hfz88_4
           try clear hfz88_5
           try clear hx756_0
           try clear p2
           try clear p7
           try clear p75
           try clear p756
           try clear q7
           try clear q75
           try clear q756
           obtain ⟨x33_6, rfl, HA, HK6, HO_3, HO_4, HO_31, BK718, BK726, BK733, BK764, HB⟩ := hrel
           cases gk with
           | zero => exact absurd HA.out (by simp [laws_FnProofs.l0])
           | succ k6 =>
            have H := HA.out
            clear HA
            simp only [laws_FnProofs.l0] at H
            by_cases c144 : x33_6 < (t765.length : Int)
            ·rw [if_pos c144] at H
             have c144b0 : decide (x33_6 < (t765.length : Int)) = true := jI c144
             clear c144
             by_cases c145 : 0 ≤ x33_6
             ·rw [if_pos c145] at H
              have c145b0 : decide (0 ≤ x33_6) = true := jI c145
              clear c145
              replace H := jC.mp H
              obtain ⟨t770, A1460, H⟩ := H
              replace H : (if t770 = true then (laws_FnProofs.l0 k6 t694 t695 t700 t701 t702 t765 (wrap64 (x33_6 + 1))) else (none)) = some r := H
              have A146 := jA A1460
              clear A1460
              by_cases c147 : t770 = true
              ·subst c147
               rw [if_pos rfl] at H
               have H' := jA H
               clear H
               obtain ⟨Ao148, co148, eo148⟩ := Kd.R_slice HO_31.out
               subst eo148
               have p769 : 0 ≤ (x33_6 : Int) := jB za
               have q769 : x33_6 < (t765.length : Int) := jB za
               obtain ⟨ad769, e769, hx769_0⟩ := jR (jO HO_31.out).2.2 x33_6 p769 q769
               cases e769
               replace p769 := eq_true p769
               replace q769 := eq_true q769
               go_wp2_with (first | ((with_reducible refine jG (f := 31) rfl ?_); refine zL (some 223) Try.func31 #[.slice (some ad756) t694.length co17, .int .i64 (rd t765 x33_6)] ?_; (with_reducible refine (laws_hasInt.calls k6 _ _ t694 (rd t765 x33_6) true _ ?side1 ?side2 A146.out).mono ?_); (case side1 => exact zv HO_3); (case side2 => exact (jO HO_3.out).2.1); rintro e w' ⟨rfl, ⟨nd, rfl⟩⟩; refine ⟨_, rfl, ?_⟩))
               go_roundg k6
               case measure => have := HJ14.out; have := HJ62.out; have := HJ89.out; have := HJ120.out; have := HJ130.out; have := HK6.out; omega
               case rel => exact ⟨(wrap64 (x33_6 + 1)), zz, H', ⟨by have := HJ14.out; have := HJ62.out; have := HJ89.out; have := HJ120.out; have := HJ130.out; have := HK6.out; omega⟩, ⟨zo HO_3⟩, ⟨zo HO_4⟩, ⟨zo HO_31⟩, ⟨zk BK718⟩, ⟨zk BK726⟩, ⟨zk BK733⟩, ⟨zk BK764⟩, ⟨zb4 HB GE718 GE726 GE733 GE764⟩⟩
              ·replace c147 := Bool.eq_false_iff.mpr c147
               subst c147
               have H1 : (none) = some r := by rw [if_neg (show ¬ (false = true) by decide)] at H; exact H
               exact absurd H1 (by simp)
             ·rw [if_neg c145] at H
              exact absurd H (by simp)
            ·rw [if_neg c144] at H
             have c144b0 : decide (x33_6 < (t765.length : Int)) = false := jS c144
             clear c144
             have H' := jA H
             clear H
             obtain ⟨Ao150, co150, eo150⟩ := Kd.R_slice HO_31.out
             subst eo150
             go_wp2
             go_meet
             case rel => exact ⟨_, H', ⟨by have := HJ14.out; have := HJ62.out; have := HJ89.out; have := HJ120.out; have := HJ130.out; have := HK6.out; first | omega | exact Nat.le_refl _⟩, ⟨by (with_reducible repeat (first | apply ja | apply jZ | apply Kd.R_drew)); exact Kd.R_mono HO_3.out (fun _ hk => hk.1)⟩, ⟨by (with_reducible repeat (first | apply ja | apply jZ | apply Kd.R_drew)); exact Kd.R_mono HO_4.out (fun _ hk => hk.1)⟩, ⟨zk BK718⟩, ⟨zk BK726⟩, ⟨zk BK733⟩, ⟨zb4 HB GE718 GE726 GE733 GE764⟩⟩
      ·rw [if_neg c128] at H
       exact absurd H (by simp)
     ·rw [if_neg c127] at H
      exact absurd H (by simp)
    ·replace c124 := Bool.eq_false_iff.mpr c124
     subst c124
     rw [if_neg zfalse] at H
     have H' := jA H
     clear H
     go_wp2
     go_meet
     case rel => exact ⟨_, H', ⟨by have := HJ14.out; have := HJ62.out; have := HJ89.out; have := HJ120.out; first | omega | exact Nat.le_refl _⟩, ⟨zo HO_3⟩, ⟨zo HO_4⟩, ⟨zk BK718⟩, ⟨zk BK726⟩, ⟨zk BK733⟩, ⟨zb3 HB GE718 GE726 GE733⟩⟩
   case rest =>
    clear HC123
    try clear c1
    try clear c2
    try clear p2
    try clear c3
    try clear c4
    try clear c5
    try clear c6
    try clear p6
    try clear c7
    try clear p7
    try clear q7
    try clear hx7
    try clear c8
    try clear c9
    try clear c10
    try clear c11
    try clear c12
    try clear c13
    try clear c14
    try clear c16
    try clear c18
    try clear c19
    try clear c20
    try clear c21
    try clear c22
    try clear c23
    try clear c24
    try clear c25
    try clear c26
    try clear c28
    try clear c29
    try clear c30
    try clear c31
    try clear c33
    try clear c34
    try clear c39
    try clear c39b0
    try clear c39b1
    try clear c40
    try clear c40b0
    try clear c40b1
    try clear c41
    try clear c41b0
    try clear c41b1
    try clear c42
    try clear c42b0
    try clear c42b1
    try clear c43
    try clear c43b0
    try clear c43b1
    try clear c43b2
    try clear c44
    try clear c44b0
    try clear c44b1
    try clear c45
    try clear c45b0
    try clear c46
    try clear c47
    try clear c49
    try clear c51
    try clear c51b0
    try clear c51b1
    try clear c52
    try clear c53
    try clear c55
    try clear c57
    try clear c58
    try clear c60
    try clear c62
    try clear c64
    try clear c64b0
    try clear c64b1
    try clear p64
    try clear c66
    try clear c66b0
    try clear c66b1
    try clear c67
    try clear c67b0
    try clear c67b1
    try clear c69
    try clear c70
    try clear c71
    try clear p75
    try clear q75
    try clear hx75
    try clear c76
    try clear p76
    try clear q76
    try clear hx76
    try clear c77
    try clear c82
    try clear c83
    try clear c86
    try clear c87
    try clear c91
    try clear c91b0
    try clear c91b1
    try clear c93
    try clear c93b0
    try clear c93b1
    try clear c94
    try clear c94b0
    try clear c97
    try clear c98
    try clear c99
    try clear c101
    try clear c102
    try clear c106
    try clear c107
    try clear c108
    try clear c110
    try clear c111
    try clear c115
    try clear c116
    try clear c117
    try clear c119
    try clear c119b0
    try clear c119b1
    try clear c120
    try clear c120b0
    try clear c120b1
    try clear c120b2
    try clear c122
    try clear c124
    try clear c127
    try clear c127b0
    try clear c128
    try clear c128b0
    try clear c136
    try clear c137
    try clear c138
    try clear c139
    try clear c142
    try clear c142b0
    try clear c142b1
    try clear c143
    try clear c144
    try clear c144b0
    try clear c145
    try clear c145b0
    try clear c147
    try clear hcz100_0
    try clear hcz100_1
    try clear hcz100_2
    try clear hcz100_3
    try clear hcz100_4
    try clear hcz100_5
    try clear hcz103_0
    try clear hcz103_1
    try clear hcz103_2
    try clear hcz103_3
    try clear hcz103_4
    try clear hcz103_5
    try clear hcz109
    try clear hcz112
    try clear hcz118_0
    try clear hcz118_1
    try clear hcz118_2
    try clear hcz118_3
    try clear hcz118_4
    try clear hcz118_5
    try clear hcz140
    try clear hcz26
    try clear hcz30
    try clear hcz35
    try clear hcz37
    try clear hcz48_0
    try clear hcz48_1
    try clear hcz48_2
    try clear hcz48_3
    try clear hcz48_4
    try clear hcz48_5
    try clear hcz50_0
    try clear hcz50_1
    try clear hcz50_2
    try clear hcz50_3
    try clear hcz50_4
    try clear hcz50_5
    try clear hcz54
    try clear hcz56
    try clear hcz59_0
    try clear hcz59_1
    try clear hcz59_2
    try clear hcz59_3
    try clear hcz59_4
    try clear hcz59_5
    try clear hcz61_0
    try clear hcz61_1
    try clear hcz61_2
    try clear hcz61_3
    try clear hcz61_4
    try clear hcz61_5
    try clear hcz72
    try clear hcz74
    try clear hcz78_0
    try clear hcz78_1
    try clear hcz78_2
    try clear hcz78_3
    try clear hcz78_4
    try clear hcz78_5
    try clear hcz80_0
    try clear hcz80_1
    try clear hcz80_2
    try clear hcz80_3
    try clear hcz80_4
    try clear hcz80_5
    try clear hcz84_0
    try clear hcz84_1
    try clear hcz84_2
    try clear hcz84_3
    try clear hcz84_4
    try clear hcz84_5
    try clear hcz88_0
    try clear hcz88_1
    try clear hcz88_2
    try clear hcz88_3
    try clear hcz88_4
    try clear hcz88_5
    try clear hfz100_0
    try clear hfz100_1
    try clear hfz100_2
    try clear hfz100_3
    try clear hfz100_4
    try clear hfz100_5
    try clear hfz103_0
    try clear hfz103_1
    try clear hfz103_2
    try clear hfz103_3
    try clear hfz103_4
    try clear hfz103_5
    try clear hfz118_0
    try clear hfz118_1
    try clear hfz118_2
    try clear hfz118_3
    try clear hfz118_4
    try clear hfz118_5
    try clear hfz48_0
    try clear hfz48_1
    try clear hfz48_2
    try clear hfz48_3
    try clear hfz48_4
    try clear hfz48_5
    try clear hfz50_0
    try clear hfz50_1
    try clear hfz50_2
    try clear hfz50_3
    try clear hfz50_4
    try clear hfz50_5
    try clear hfz59_0
    try clear hfz59_1
    try clear hfz59_2
    try clear hfz59_3
    try clear hfz59_4
    try clear hfz59_5
    try clear hfz61_0
    try clear hfz61_1
    try clear hfz61_2
    try clear hfz61_3
    try clear hfz61_4
    try clear hfz61_5
    try clear hfz78_0
    try clear hfz78_1
    try clear hfz78_2
    try clear hfz78_3
    try clear hfz78_4
    try clear hfz78_5
    try clear hfz80_0
    try clear hfz80_1
    try clear hfz80_2
    try clear hfz80_3
    try clear hfz80_4
    try clear hfz80_5
    try clear hfz84_0
    try clear hfz84_1
    try clear hfz84_2
    try clear hfz84_3
    try clear hfz84_4
    try clear hfz84_5
    try clear hfz88_0
    try clear hfz88_1
    try clear hfz88_2
    try clear hfz88_3
    try clear hfz88_4
    try clear hfz88_5
    try clear hx756_0
    try clear hx769_0
    try clear p2
    try clear p7
    try clear p75
    try clear p756
    try clear p769
    try clear q7
    try clear q75
    try clear q756
    try clear q769
    obtain ⟨kq, HA, HJ122, HO_3, HO_4, BK718, BK726, BK733, HB⟩ := hcut
    cases kq with
    | zero => exact absurd HA.out (by simp [laws_FnProofs.j6])
    | succ kj122 =>
     have H := HA.out
     clear HA
     simp only [laws_FnProofs.j6] at H
     by_cases c151 : t702 = 0
     ·rw [if_pos c151] at H
      have c151b0 : (t702 == 0) = true := beq_iff_eq.mpr c151
      have c151b1 : (t702 != 0) = false := bne_eq_false_iff_eq.mpr c151
      clear c151
      replace H := jC.mp H
      obtain ⟨⟨t771, t772, t773, t774, t775, t776, t777⟩, A1520, H⟩ := H
      try dsimp only at H
      have A152 := jA A1520
      clear A1520
      replace H := jC.mp H
      obtain ⟨⟨t779, t780, t781, t782, t783, t784, t785⟩, A1530, H⟩ := H
      try dsimp only at H
      have A153 := jA A1530
      clear A1530
      replace H := jC.mp H
      obtain ⟨⟨t787, t788⟩, A1540, H⟩ := H
      try dsimp only at H
      have A154 := jA A1540
      clear A1540
      by_cases c155 : t777 = 0
      ·rw [if_pos c155] at H
       have c155b0 : (t777 == 0) = true := beq_iff_eq.mpr c155
       have c155b1 : (t777 != 0) = false := bne_eq_false_iff_eq.mpr c155
       clear c155
       by_cases c156 : t785 = 0
       ·rw [if_pos c156] at H
        have c156b0 : (t785 == 0) = true := beq_iff_eq.mpr c156
        have c156b1 : (t785 != 0) = false := bne_eq_false_iff_eq.mpr c156
        clear c156
        by_cases c157 : t788 = 0
        ·rw [if_pos c157] at H
         have c157b0 : (t788 == 0) = true := beq_iff_eq.mpr c157
         have c157b1 : (t788 != 0) = false := bne_eq_false_iff_eq.mpr c157
         clear c157
         replace H := jC.mp H
         obtain ⟨t789, A1580, H⟩ := H
         try dsimp only at H
         have A158 := jA A1580
         clear A1580
         by_cases c159 : t789 = true
         ·subst c159
          rw [if_pos rfl] at H
          replace H := jC.mp H
          obtain ⟨t790, A1600, H⟩ := H
          try dsimp only at H
          have A160 := jA A1600
          clear A1600
          by_cases c161 : t790 = true
          ·subst c161
           have H1 : (none) = some r := by rw [if_pos rfl] at H; exact H
           exact absurd H1 (by simp)
          ·replace c161 := Bool.eq_false_iff.mpr c161
           subst c161
           rw [if_neg zfalse] at H
           replace H := jC.mp H
           obtain ⟨t791, A1760, H⟩ := H
           replace H : (some t791) = some r := H
           have A176 := jA A1760
           clear A1760
           obtain rfl := jN H
           go_wp2_with (first | ((with_reducible refine jG (f := 14) rfl ?_); refine zL (some 229) Try.func14 #[.int .i64 t700] ?_; (with_reducible refine (impl_ControllerWith.calls t700 t771 t772 t773 t774 t775 t776 t777 _ A152.out).mono ?_); rintro e w177 ⟨rfl, hb⟩; refine ⟨_, rfl, ?_⟩; replace HO_3 := jA (jP (zo HO_3) hb); replace HO_4 := jA (jP (zo HO_4) hb); replace BK718 := zB BK718 hb; replace BK726 := zB BK726 hb; replace BK733 := zB BK733 hb; replace HB := zS3 HB GE718 GE726 GE733 hb; clear hb) | ((with_reducible refine jJ (N := 34) rfl ?_); (try (refine gate_guard (by rfl) ?_; dsimp only)); refine zE 34 #[.bool false, .bool false, .bool false, .bool false, .bool false, .int .i64 0] 23 ?_; intro gb778 hg w178 hbox hb; replace HO_3 := jA (jP (zo HO_3) hb); replace HO_4 := jA (jP (zo HO_4) hb); have BK778 := jA (hbox); have GW778 := zg3 hg HB GE718 GE726 GE733; have GE778 := zg3 hg HB GE718 GE726 GE733; replace HB := zS3 HB GE718 GE726 GE733 hb; have NB718_778 := zn hg BK718; replace BK718 := zB BK718 hb; have NB778_718 := jA NB718_778.out.symm; have NB726_778 := zn hg BK726; replace BK726 := zB BK726 hb; have NB778_726 := jA NB726_778.out.symm; have NB733_778 := zn hg BK733; replace BK733 := zB BK733 hb; have NB778_733 := jA NB733_778.out.symm; clear hb hbox hg; have hnb179 := NB778_718.out; have hnc179 := NB718_778.out; have hnb180 := NB778_726.out; have hnc180 := NB726_778.out; have hnb181 := NB778_733.out; have hnc181 := NB733_778.out; have hcz182 := zc6 BK778) | ((with_reducible refine jG (f := 32) rfl ?_); refine zL (some 235) Try.func32 #[.agg #[.bool t771, .bool t772, .bool t773, .bool t774, .bool t775, .int .i64 t776], .int .i64 t701] ?_; (with_reducible refine (impl_GiveInput.calls t771 t772 t773 t774 t775 t776 t701 t779 t780 t781 t782 t783 t784 t785 _ A153.out).mono ?_); rintro e w183 ⟨rfl, hb⟩; refine ⟨_, rfl, ?_⟩; replace HO_3 := jA (jP (zU HO_3 BK778) hb); replace HO_4 := jA (jP (zU HO_4 BK778) hb); replace BK718 := jA (jU (g := gb718) (o := .cells #[.bool t711, .bool t712, .bool t713, .bool t714, .bool t715, .int .i64 t716] 23 (0, 0)) (zQ1 BK718 NB718_778) hb); replace BK726 := jA (jU (g := gb726) (o := .cells #[.bool t719, .bool t720, .bool t721, .bool t722, .bool t723, .int .i64 t724] 23 (0, 0)) (zQ1 BK726 NB726_778) hb); replace BK733 := jA (jU (g := gb733) (o := .cells #[.bool t727, .bool t728, .bool t729, .bool t730, .bool t731, .int .i64 t732] 23 (0, 0)) (zQ1 BK733 NB733_778) hb); replace BK778 := jA (jU (g := gb778) (o := .cells #[.bool t771, .bool t772, .bool t773, .bool t774, .bool t775, .int .i64 t776] 23 (0, 0)) (zP0 BK778) hb); replace HB := zS4 HB GE718 GE726 GE733 GE778 hb; clear hb) | ((with_reducible refine jJ (N := 36) rfl ?_); (try (refine gate_guard (by rfl) ?_; dsimp only)); refine zE 36 #[.bool false, .bool false, .bool false, .bool false, .bool false, .int .i64 0] 23 ?_; intro gb786 hg w184 hbox hb; replace HO_3 := jA (jP (zo HO_3) hb); replace HO_4 := jA (jP (zo HO_4) hb); have BK786 := jA (hbox); have GW786 := zg4 hg HB GE718 GE726 GE733 GE778; have GE786 := zg4 hg HB GE718 GE726 GE733 GE778; replace HB := zS4 HB GE718 GE726 GE733 GE778 hb; have NB718_786 := zn hg BK718; replace BK718 := zB BK718 hb; have NB786_718 := jA NB718_786.out.symm; have NB726_786 := zn hg BK726; replace BK726 := zB BK726 hb; have NB786_726 := jA NB726_786.out.symm; have NB733_786 := zn hg BK733; replace BK733 := zB BK733 hb; have NB786_733 := jA NB733_786.out.symm; have NB778_786 := zn hg BK778; replace BK778 := zB BK778 hb; have NB786_778 := jA NB778_786.out.symm; clear hb hbox hg; have hnb185 := NB786_718.out; have hnc185 := NB718_786.out; have hnb186 := NB786_726.out; have hnc186 := NB726_786.out; have hnb187 := NB786_733.out; have hnc187 := NB733_786.out; have hnb188 := NB786_778.out; have hnc188 := NB778_786.out; have hcz189 := zc6 BK786) | ((with_reducible refine jG (f := 18) rfl ?_); refine zL (some 240) Try.func18 #[.agg #[.bool t779, .bool t780, .bool t781, .bool t782, .bool t783, .int .i64 t784]] ?_; (with_reducible refine (impl_NumberOf.calls t779 t780 t781 t782 t783 t784 t787 t788 _ A154.out).mono ?_); rintro e w190 ⟨rfl, hb⟩; refine ⟨_, rfl, ?_⟩; replace HO_3 := jA (jP (zU HO_3 BK786) hb); replace HO_4 := jA (jP (zU HO_4 BK786) hb); replace BK718 := jA (jU (g := gb718) (o := .cells #[.bool t711, .bool t712, .bool t713, .bool t714, .bool t715, .int .i64 t716] 23 (0, 0)) (zQ1 BK718 NB718_786) hb); replace BK726 := jA (jU (g := gb726) (o := .cells #[.bool t719, .bool t720, .bool t721, .bool t722, .bool t723, .int .i64 t724] 23 (0, 0)) (zQ1 BK726 NB726_786) hb); replace BK733 := jA (jU (g := gb733) (o := .cells #[.bool t727, .bool t728, .bool t729, .bool t730, .bool t731, .int .i64 t732] 23 (0, 0)) (zQ1 BK733 NB733_786) hb); replace BK778 := jA (jU (g := gb778) (o := .cells #[.bool t771, .bool t772, .bool t773, .bool t774, .bool t775, .int .i64 t776] 23 (0, 0)) (zQ1 BK778 NB778_786) hb); replace BK786 := jA (jU (g := gb786) (o := .cells #[.bool t779, .bool t780, .bool t781, .bool t782, .bool t783, .int .i64 t784] 23 (0, 0)) (zP0 BK786) hb); replace HB := zS5 HB GE718 GE726 GE733 GE778 GE786 hb; clear hb) | (go_at_call 31; (with_reducible refine (laws_hasInt.calls kj122 _ _ t694 t700 true _ ?side1 ?side2 A158.out).mono ?_); (case side1 => exact zv HO_3); (case side2 => exact (jO HO_3.out).2.1); rintro e w' ⟨rfl, ⟨nd, rfl⟩⟩) | (go_at_call 31; (with_reducible refine (laws_hasInt.calls kj122 _ _ t694 t787 false _ ?side1 ?side2 A160.out).mono ?_); (case side1 => exact zv HO_3); (case side2 => exact (jO HO_3.out).2.1); rintro e w' ⟨rfl, ⟨nd, rfl⟩⟩) | (go_at_call 31; (with_reducible refine (laws_hasInt.calls kj122 _ _ t695 t701 t791 _ ?side1 ?side2 A176.out).mono ?_); (case side1 => exact zv HO_4); (case side2 => exact (jO HO_4.out).2.1); rintro e w' ⟨rfl, ⟨nd, rfl⟩⟩))
           go_ret
           exact ⟨ze, zb5 HB GE718 GE726 GE733 GE778 GE786⟩
         ·replace c159 := Bool.eq_false_iff.mpr c159
          subst c159
          have H1 : (none) = some r := by rw [if_neg (show ¬ (false = true) by decide)] at H; exact H
          exact absurd H1 (by simp)
        ·rw [if_neg c157] at H
         exact absurd H (by simp)
       ·rw [if_neg c156] at H
        exact absurd H (by simp)
      ·rw [if_neg c155] at H
       exact absurd H (by simp)
     ·rw [if_neg c151] at H
      have c151b0 : (t702 == 0) = false := beq_eq_false_iff_ne.mpr c151
      have c151b1 : (t702 != 0) = true := bne_iff_ne.mpr c151
      obtain rfl := jN H
      go_wp2
      go_ret
      exact ⟨ze, zb3 HB GE718 GE726 GE733⟩
theorem laws_FnProofs.calls (k : Nat) (A0 : Option Addr) (c0 : Nat) (l0 : List Int) (r : Bool) (w : World) (hr0 : Kd.C (Kd.int .u8) w A0 l0.length l0) (hc0 : l0.length ≤ c0) (h : laws_FnProofs.f k l0 = some r) :
  Calls Try.prog 5 #[.slice A0 l0.length c0] w fun e w' => e = .returned (.bool r) ∧ Below w.heap.size w w' :=
  (laws_FnProofs.cut1.2 (laws_FnProofs.cut2.2 laws_FnProofs.last)) k A0 c0 l0 r w hr0 hc0 h

/-- THE ONE PURE STATEMENT of laws_FnProofs: yours. -/
def laws_FnProofs.Pure : Prop := ∀ (l0 : List Int), l0.length ≤ maxLen → l0.length * 1 ≤ 140737488351232 → (∀ x ∈ l0, (Lit.int .u8 x).wf = true) → ∃ k, laws_FnProofs.f k l0 = some true
theorem laws_FnProofs.walk (P : laws_FnProofs.Pure) (a0 : Option Addr) (len0 cap0 : Nat) (z0 : List Int) (w : World) (w0 : (a0 = none ∧ len0 = 0 ∧ cap0 = 0 ∧ z0 = []) ∨ ∃ x, a0 = some x ∧ len0 ≤ cap0 ∧ cap0 ≤ maxLen ∧ z0.length = cap0 ∧ (∀ i, i < z0.length → w.cell? (x.add i) = some (.int .u8 (z0.getD i 0))) ∧ ∀ n ∈ z0, (Lit.int .u8 n).wf = true) (y0 : len0 * 1 ≤ 140737488351232) :
  Calls Try.prog 5 #[.slice a0 len0 cap0] w fun e w' => e = .returned (.bool true) ∧ Below w.heap.size w w' := by
 obtain ⟨l0, rfl, hr0, hm0, hw0, hc0⟩ := ReadsInt.ofRowC w0
 obtain ⟨k, h⟩ := P l0 hm0 y0 hw0
 refine (laws_FnProofs.calls k _ _ l0 true w (Kd.C_of_reads (d := (0 : Int)) (h1 := fun _ => rfl) hr0) hc0 h).mono ?_
 rintro e w' ⟨rfl, hd⟩
 exact ⟨rfl, hd⟩

end Go.Proofs.Ythieppjmjgijfaa.PFnProofs
