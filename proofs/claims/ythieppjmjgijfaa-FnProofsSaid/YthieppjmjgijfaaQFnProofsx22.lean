/- The contract of laws_FnProofs, part 2. -/
import Derived.Test.YthieppjmjgijfaaQFnProofsx21
namespace Go.Proofs.Ythieppjmjgijfaa.PFnProofs
open Go.RowKit Go.Proofs.YthieppjmjgijfaaW.PrintWords Go.Proofs.YthieppjmjgijfaaW.PrintLast Go.Proofs.YthieppjmjgijfaaW.PrintMore
attribute [local go_sem] max2_int min2_int max_two min_two max_three min_three max_four min_four   -- for this text's walks alone
attribute [local go_sem high] eqA23
set_option linter.unusedVariables false
set_option linter.unusedSimpArgs false
set_option maxHeartbeats 40000000 in
set_option maxRecDepth 100000 in
def laws_FnProofs.cut2 : {p : Prop // p → laws_FnProofs.cut1.1} := laws_FnProofs.cutOf (fun K_ => by
  intros k A0 c0 l0 r w hu23 HR0 HC0 A2 t694 t695 A4 t700 t701 t702 A5 t703 t704 t705 A6 t706 t707 A7 t708 t709 A8 t710 A9 t711 t712 t713 t714 t715 t716 t717 A10 t719 t720 t721 t722 t723 t724 t725 A11 t727 t728 t729 t730 t731 t732 A12 t734 t735 A13 t736 t737 A14 _ nd w16 Ao17 co17 Ao18 co18 w19 w20 w21 w22 w23 w24 gb718 w25 GW718 GE718 w27 gb726 w28 GW726 GE726 NB718_726 NB726_718 hnb29 hnc29 w31 gb733 w32 GW733 GE733 NB718_733 NB733_718 NB726_733 NB733_726 hnb33 hnc33 hnb34 hnc34 w36 w38 HO697 HO699 kj14 HJ14 _ _ wc u2 u25 u26 u40 u41 u42 u43 u44 u45 u46 u47 u48 u49 u50 u51 u52 u53 u54 u55 u56 u57 u58 u59 u60 u61 u62 u63 u64 u65 u66 u67 u68 u69 u70 u71 u72 u73 u74 u75 u76 u77 u78 u79 u80 u81 u82 u83 u84 u85 u86 u87 u88 u89 u90 u91 u92 u93 u94 u95 u96 u97 u98 u99 u100 u101 u102 u103 u104 u105 u106 u107 u108 u109 u110 u111 u112 u113 u114 u115 u116 u117 u118 u119 u120 u121 u122 u123 u124 u125 u126 u127 u128 u129 u130 u131 u132 u133 u134 u135 u136 u137 u138 u139 u140 u141 u142 u143 u144 u145 u146 u147 u148 u149 u150 u151 u152 u153 u154 u155 u156 u157 u158 u159 u160 u161 u162 u163 u164 u165 u166 u167 u168 u169 u170 u171 u172 u173 u174 u175 u176 u177 u178 u179 u180 u181 u182 u183 u184 u185 u186 u187 u188 u189 u190 u191 u192 u193 u194 u195 u196 u197 u198 u199 u200 u201 u202 u203 u204 u205 u206 u207 u208 u209 u210 u211 u212 u213 u214 u215 u216 u217 u218 u219 u220 u221 u222 u223 u224 u225 u226 u227 u228 u229 u230 u231 u232 u233 u234 u235 u236 u237 u238 u239 u240 u241 u242 u243 u244 u245 u246 u247 u248 u249 u250 u251 u252 u253 u254 u255 u256 u257 u258 u259 u260 u261 u262 u263 u264 u265 u266 u267 u268 kq HA HJ62 HO_3 HO_4 BK718 BK726 BK733 HB
  cases kq with
  | zero => exact absurd HA.out (by simp [laws_FnProofs.j1])
  | succ kj62 =>
   have H := HA.out
   clear HA
   simp only [laws_FnProofs.j1] at H
   have HC90 := jA H
   clear H
   go_upto_if 160 with (fail)
   go_cut [] (fun wc => ∃ (kq : Nat), Aside0 (laws_FnProofs.j2 kq l0 t694 t695 t700 t701 t702 t706 t707 = some r) ∧ Aside0 (kq ≤ kj62) ∧ Aside0 (Kd.R (Kd.int .i64) 2 wc w.heap.size (fun k_ => some k_ ≠ ((.slice Ao18 t695.length co18) : Value).ownBlock) (.slice Ao17 t694.length co17) t694) ∧ Aside0 (Kd.R (Kd.int .i64) 2 wc w.heap.size (fun k_ => some k_ ≠ ((.slice Ao17 t694.length co17) : Value).ownBlock) (.slice Ao18 t695.length co18) t695) ∧ Aside0 (wc.heap[gb718]? = some (.cells #[.bool t711, .bool t712, .bool t713, .bool t714, .bool t715, .int .i64 t716] 23 (0, 0))) ∧ Aside0 (wc.heap[gb726]? = some (.cells #[.bool t719, .bool t720, .bool t721, .bool t722, .bool t723, .int .i64 t724] 23 (0, 0))) ∧ Aside0 (wc.heap[gb733]? = some (.cells #[.bool t727, .bool t728, .bool t729, .bool t730, .bool t731, .int .i64 t732] 23 (0, 0))) ∧ Aside0 (Below w.heap.size w wc))
   case first =>
    clear K_
    have H := HC90.out
    clear HC90
    by_cases c91 : t735 = 0
    ·rw [if_pos c91] at H
     have c91b0 : (t735 == 0) = true := beq_iff_eq.mpr c91
     have c91b1 : (t735 != 0) = false := bne_eq_false_iff_eq.mpr c91
     clear c91
     (first | rw [c91b0] | (simp only [i64_w, i32_w]; rw [c91b0]) | skip)
     replace H := jC.mp H
     obtain ⟨⟨t741, t742, t743, t744, t745, t746, t747⟩, A920, H⟩ := H
     try dsimp only at H
     have A92 := jA A920
     clear A920
     by_cases c93 : t747 = 0
     ·rw [if_pos c93] at H
      have c93b0 : (t747 == 0) = true := beq_iff_eq.mpr c93
      have c93b1 : (t747 != 0) = false := bne_eq_false_iff_eq.mpr c93
      clear c93
      by_cases c94 : (!(t741 == t727) || (!(t742 == t728) || (!(t743 == t729) || (!(t744 == t730) || (!(t745 == t731) || (!(t746 == t732))))))) = true
      ·rw [if_pos c94] at H
       exact absurd H (by simp)
      ·rw [if_neg c94] at H
       have c94b0 : (!(t741 == t727) || (!(t742 == t728) || (!(t743 == t729) || (!(t744 == t730) || (!(t745 == t731) || (!(t746 == t732))))))) = false := by simpa using c94
       clear c94
       have H' := jA H
       clear H
       go_wp2_with (first | ((with_reducible refine jG (f := 14) rfl ?_); refine zL (some 163) Try.func14 #[.int .i64 t734] ?_; (with_reducible refine (impl_ControllerWith.calls t734 t741 t742 t743 t744 t745 t746 t747 _ A92.out).mono ?_); rintro e w104 ⟨rfl, hb⟩; refine ⟨_, rfl, ?_⟩; replace HO_3 := jA (jP (zo HO_3) hb); replace HO_4 := jA (jP (zo HO_4) hb); replace BK718 := zB BK718 hb; replace BK726 := zB BK726 hb; replace BK733 := zB BK733 hb; replace HB := zS3 HB GE718 GE726 GE733 hb; clear hb) | ((with_reducible refine jJ (N := 27) rfl ?_); (try (refine gate_guard (by rfl) ?_; dsimp only)); refine zE 27 #[.bool false, .bool false, .bool false, .bool false, .bool false, .int .i64 0] 23 ?_; intro gb748 hg w105 hbox hb; replace HO_3 := jA (jP (zo HO_3) hb); replace HO_4 := jA (jP (zo HO_4) hb); have BK748 := jA (hbox); have GW748 := zg3 hg HB GE718 GE726 GE733; have GE748 := zg3 hg HB GE718 GE726 GE733; replace HB := zS3 HB GE718 GE726 GE733 hb; have NB718_748 := zn hg BK718; replace BK718 := zB BK718 hb; have NB748_718 := jA NB718_748.out.symm; have NB726_748 := zn hg BK726; replace BK726 := zB BK726 hb; have NB748_726 := jA NB726_748.out.symm; have NB733_748 := zn hg BK733; replace BK733 := zB BK733 hb; have NB748_733 := jA NB733_748.out.symm; clear hb hbox hg; have hnb106 := NB748_718.out; have hnc106 := NB718_748.out; have hnb107 := NB748_726.out; have hnc107 := NB726_748.out; have hnb108 := NB748_733.out; have hnc108 := NB733_748.out; have hcz109 := zc6 BK748; have hnb110 := NB733_718.out; have hnc110 := NB718_733.out; have hnb111 := NB733_726.out; have hnc111 := NB726_733.out; have hcz112 := zc6 BK733))
       go_meet
       case rel => exact ⟨_, H', ⟨by have := HJ14.out; have := HJ62.out; first | omega | exact Nat.le_refl _⟩, ⟨by (with_reducible repeat (first | apply ja | apply jZ | apply Kd.R_drew)); exact Kd.R_mono (Kd.R_far (p := ⟨gb748, 5, none⟩) (Kd.R_far (p := ⟨gb748, 4, none⟩) (Kd.R_far (p := ⟨gb748, 3, none⟩) (Kd.R_far (p := ⟨gb748, 2, none⟩) (Kd.R_far (p := ⟨gb748, 1, none⟩) (Kd.R_far (p := ⟨gb748, 0, none⟩) (Kd.R_types HO_3.out BK748.out (by decide)) (fun _ hk => hk.2) (.bool t741)) (fun _ hk => hk.2) (.bool t742)) (fun _ hk => hk.2) (.bool t743)) (fun _ hk => hk.2) (.bool t744)) (fun _ hk => hk.2) (.bool t745)) (fun _ hk => hk.2) (.int .i64 t746)) (fun _ hk => hk.1)⟩, ⟨by (with_reducible repeat (first | apply ja | apply jZ | apply Kd.R_drew)); exact Kd.R_mono (Kd.R_far (p := ⟨gb748, 5, none⟩) (Kd.R_far (p := ⟨gb748, 4, none⟩) (Kd.R_far (p := ⟨gb748, 3, none⟩) (Kd.R_far (p := ⟨gb748, 2, none⟩) (Kd.R_far (p := ⟨gb748, 1, none⟩) (Kd.R_far (p := ⟨gb748, 0, none⟩) (Kd.R_types HO_4.out BK748.out (by decide)) (fun _ hk => hk.2) (.bool t741)) (fun _ hk => hk.2) (.bool t742)) (fun _ hk => hk.2) (.bool t743)) (fun _ hk => hk.2) (.bool t744)) (fun _ hk => hk.2) (.bool t745)) (fun _ hk => hk.2) (.int .i64 t746)) (fun _ hk => hk.1)⟩, ⟨zQ1 BK718 NB718_748⟩, ⟨zQ1 BK726 NB726_748⟩, ⟨zQ1 BK733 NB733_748⟩, ⟨zb4 HB GE718 GE726 GE733 GE748⟩⟩
     ·rw [if_neg c93] at H
      exact absurd H (by simp)
    ·rw [if_neg c91] at H
     have c91b0 : (t735 == 0) = false := beq_eq_false_iff_ne.mpr c91
     have c91b1 : (t735 != 0) = true := bne_iff_ne.mpr c91
     (first | rw [c91b0] | (simp only [i64_w, i32_w]; rw [c91b0]) | skip)
     have H' := jA H
     clear H
     go_wp2
     go_meet
     case rel => exact ⟨_, H', ⟨by have := HJ14.out; have := HJ62.out; first | omega | exact Nat.le_refl _⟩, ⟨zo HO_3⟩, ⟨zo HO_4⟩, ⟨zk BK718⟩, ⟨zk BK726⟩, ⟨zk BK733⟩, ⟨zb3 HB GE718 GE726 GE733⟩⟩
   case rest =>
    clear HC90
    try clear c1
    try clear c2
    try clear p2
    try clear c3
    try clear c4
    try clear c5
    try clear c6
    try clear c7
    try clear c8
    try clear c9
    try clear c10
    try clear c11
    try clear c13
    try clear c14
    try clear c16
    try clear c18
    try clear c19
    try clear c20
    try clear c21
    try clear c22
    try clear c23
    try clear c24
    try clear c25
    try clear c26
    try clear c29
    try clear c33
    try clear c34
    try clear c39
    try clear c39b0
    try clear c39b1
    try clear c40
    try clear c40b0
    try clear c40b1
    try clear c41
    try clear c41b0
    try clear c41b1
    try clear c42
    try clear c42b0
    try clear c42b1
    try clear c43
    try clear c43b0
    try clear c43b1
    try clear c43b2
    try clear c44
    try clear c44b0
    try clear c44b1
    try clear c45
    try clear c45b0
    try clear c46
    try clear c47
    try clear c49
    try clear c51
    try clear c51b0
    try clear c51b1
    try clear c52
    try clear c53
    try clear c55
    try clear c57
    try clear c58
    try clear c60
    try clear c62
    try clear c64
    try clear c64b0
    try clear c64b1
    try clear c66
    try clear c66b0
    try clear c66b1
    try clear c67
    try clear c67b0
    try clear c67b1
    try clear c69
    try clear c70
    try clear c71
    try clear c76
    try clear c77
    try clear c82
    try clear c83
    try clear c86
    try clear c87
    try clear c91
    try clear c91b0
    try clear c91b1
    try clear c93
    try clear c93b0
    try clear c93b1
    try clear c94
    try clear c94b0
    try clear c97
    try clear c98
    try clear c99
    try clear c101
    try clear c102
    try clear c106
    try clear c107
    try clear c108
    try clear c110
    try clear c111
    try clear c115
    try clear c116
    try clear c117
    try clear hcz100_0
    try clear hcz100_1
    try clear hcz100_2
    try clear hcz100_3
    try clear hcz100_4
    try clear hcz100_5
    try clear hcz103_0
    try clear hcz103_1
    try clear hcz103_2
    try clear hcz103_3
    try clear hcz103_4
    try clear hcz103_5
    try clear hcz109
    try clear hcz112
    try clear hcz118_0
    try clear hcz118_1
    try clear hcz118_2
    try clear hcz118_3
    try clear hcz118_4
    try clear hcz118_5
    try clear hcz26
    try clear hcz30
    try clear hcz35
    try clear hcz37
    try clear hcz48_0
    try clear hcz48_1
    try clear hcz48_2
    try clear hcz48_3
    try clear hcz48_4
    try clear hcz48_5
    try clear hcz50_0
    try clear hcz50_1
    try clear hcz50_2
    try clear hcz50_3
    try clear hcz50_4
    try clear hcz50_5
    try clear hcz54
    try clear hcz56
    try clear hcz59_0
    try clear hcz59_1
    try clear hcz59_2
    try clear hcz59_3
    try clear hcz59_4
    try clear hcz59_5
    try clear hcz61_0
    try clear hcz61_1
    try clear hcz61_2
    try clear hcz61_3
    try clear hcz61_4
    try clear hcz61_5
    try clear hcz72
    try clear hcz74
    try clear hcz78_0
    try clear hcz78_1
    try clear hcz78_2
    try clear hcz78_3
    try clear hcz78_4
    try clear hcz78_5
    try clear hcz80_0
    try clear hcz80_1
    try clear hcz80_2
    try clear hcz80_3
    try clear hcz80_4
    try clear hcz80_5
    try clear hcz84_0
    try clear hcz84_1
    try clear hcz84_2
    try clear hcz84_3
    try clear hcz84_4
    try clear hcz84_5
    try clear hcz88_0
    try clear hcz88_1
    try clear hcz88_2
    try clear hcz88_3
    try clear hcz88_4
    try clear hcz88_5
    try clear hfz100_0
    try clear hfz100_1
    try clear hfz100_2
    try clear hfz100_3
    try clear hfz100_4
    try clear hfz100_5
    try clear hfz103_0
    try clear hfz103_1
    try clear hfz103_2
    try clear hfz103_3
    try clear hfz103_4
    try clear hfz103_5
    try clear hfz118_0
    try clear hfz118_1
    try clear hfz118_2
    try clear hfz118_3
    try clear hfz118_4
    try clear hfz118_5
    try clear hfz48_0
    try clear hfz48_1
    try clear hfz48_2
    try clear hfz48_3
    try clear hfz48_4
    try clear hfz48_5
    try clear hfz50_0
    try clear hfz50_1
    try clear hfz50_2
    try clear hfz50_3
    try clear hfz50_4
    try clear hfz50_5
    try clear hfz59_0
    try clear hfz59_1
    try clear hfz59_2
    try clear hfz59_3
    try clear hfz59_4
    try clear hfz59_5
    try clear hfz61_0
    try clear hfz61_1
    try clear hfz61_2
    try clear hfz61_3
    try clear hfz61_4
    try clear hfz61_5
    try clear hfz78_0
    try clear hfz78_1
    try clear hfz78_2
    try clear hfz78_3
    try clear hfz78_4
    try clear hfz78_5
    try clear hfz80_0
    try clear hfz80_1
    try clear hfz80_2
    try clear hfz80_3
    try clear hfz80_4
    try clear hfz80_5
    try clear hfz84_0
    try clear hfz84_1
    try clear hfz84_2
    try clear hfz84_3
    try clear hfz84_4
    try clear hfz84_5
    try clear hfz88_0
    try clear hfz88_1
    try clear hfz88_2
    try clear hfz88_3
    try clear hfz88_4
    try clear hfz88_5
    try clear p2
    obtain ⟨kq, HA, HJ89, HO_3, HO_4, BK718, BK726, BK733, HB⟩ := hcut
    cases kq with
    | zero => exact absurd HA.out (by simp [laws_FnProofs.j2])
    | succ kj89 =>
     have H := HA.out
     clear HA
     simp only [laws_FnProofs.j2] at H
     by_cases c119 : t707 = 0
     ·rw [if_pos c119] at H
      have c119b0 : (t707 == 0) = true := beq_iff_eq.mpr c119
      have c119b1 : (t707 != 0) = false := bne_eq_false_iff_eq.mpr c119
      clear c119
      by_cases c120 : (t706 != (t702 == 4)) = true
      ·rw [if_pos c120] at H
       exact absurd H (by simp)
      ·rw [if_neg c120] at H
       have c120b0 : (t706 != (t702 == 4)) = false := by simpa using c120
       (try (have c120b1 : decide (t706 = (t702 == 4)) = true := by simpa using c120))
       (try (have c120b2 : (t706 == (t702 == 4)) = true := by simpa using c120))
       clear c120
       have HC121 := jA H
       clear H
       go_upto_region 28 with (fail)
       go_cut [187] (fun v187 wc => ∃ (kq : Nat) (x187_120 : Bool), v187 = .bool x187_120 ∧ Aside0 (laws_FnProofs.j3 kq l0 t694 t695 t700 t701 t702 x187_120 = some r) ∧ Aside0 (kq ≤ kj89) ∧ Aside0 (Kd.R (Kd.int .i64) 2 wc w.heap.size (fun k_ => some k_ ≠ ((.slice Ao18 t695.length co18) : Value).ownBlock) (.slice Ao17 t694.length co17) t694) ∧ Aside0 (Kd.R (Kd.int .i64) 2 wc w.heap.size (fun k_ => some k_ ≠ ((.slice Ao17 t694.length co17) : Value).ownBlock) (.slice Ao18 t695.length co18) t695) ∧ Aside0 (wc.heap[gb718]? = some (.cells #[.bool t711, .bool t712, .bool t713, .bool t714, .bool t715, .int .i64 t716] 23 (0, 0))) ∧ Aside0 (wc.heap[gb726]? = some (.cells #[.bool t719, .bool t720, .bool t721, .bool t722, .bool t723, .int .i64 t724] 23 (0, 0))) ∧ Aside0 (wc.heap[gb733]? = some (.cells #[.bool t727, .bool t728, .bool t729, .bool t730, .bool t731, .int .i64 t732] 23 (0, 0))) ∧ Aside0 (Below w.heap.size w wc))
       case first =>
        clear K_
        have H := HC121.out
        clear HC121
        by_cases c122 : t706 = true
        ·subst c122
         rw [if_pos rfl] at H
         have H' := jA H
         clear H
         go_wp2
         go_meet
         case rel => exact ⟨_, (decide ((t694.length : Int) > 0)), zz, H', ⟨by have := HJ14.out; have := HJ62.out; have := HJ89.out; first | omega | exact Nat.le_refl _⟩, ⟨zo HO_3⟩, ⟨zo HO_4⟩, ⟨zk BK718⟩, ⟨zk BK726⟩, ⟨zk BK733⟩, ⟨zb3 HB GE718 GE726 GE733⟩⟩
        ·replace c122 := Bool.eq_false_iff.mpr c122
         subst c122
         rw [if_neg zfalse] at H
         have H' := jA H
         clear H
         go_wp2
         go_meet
         case rel => exact ⟨_, (false), zz, H', ⟨by have := HJ14.out; have := HJ62.out; have := HJ89.out; first | omega | exact Nat.le_refl _⟩, ⟨zo HO_3⟩, ⟨zo HO_4⟩, ⟨zk BK718⟩, ⟨zk BK726⟩, ⟨zk BK733⟩, ⟨zb3 HB GE718 GE726 GE733⟩⟩
       case rest =>
        clear HC121
        try clear c1
        try clear c2
        try clear p2
        try clear c3
        try clear c4
        try clear c5
        try clear c6
        try clear c7
        try clear c8
        try clear c9
        try clear c10
        try clear c11
        try clear c12
        try clear c13
        try clear c14
        try clear c16
        try clear c18
        try clear c19
        try clear c20
        try clear c21
        try clear c22
        try clear c23
        try clear c24
        try clear c25
        try clear c26
        try clear c29
        try clear c33
        try clear c34
        try clear c39
        try clear c39b0
        try clear c39b1
        try clear c40
        try clear c40b0
        try clear c40b1
        try clear c41
        try clear c41b0
        try clear c41b1
        try clear c42
        try clear c42b0
        try clear c42b1
        try clear c43
        try clear c43b0
        try clear c43b1
        try clear c43b2
        try clear c44
        try clear c44b0
        try clear c44b1
        try clear c45
        try clear c45b0
        try clear c46
        try clear c47
        try clear c49
        try clear c51
        try clear c51b0
        try clear c51b1
        try clear c52
        try clear c53
        try clear c55
        try clear c57
        try clear c58
        try clear c60
        try clear c62
        try clear c64
        try clear c64b0
        try clear c64b1
        try clear c66
        try clear c66b0
        try clear c66b1
        try clear c67
        try clear c67b0
        try clear c67b1
        try clear c69
        try clear c70
        try clear c71
        try clear c76
        try clear c77
        try clear c82
        try clear c83
        try clear c86
        try clear c87
        try clear c91
        try clear c91b0
        try clear c91b1
        try clear c93
        try clear c93b0
        try clear c93b1
        try clear c94
        try clear c94b0
        try clear c97
        try clear c98
        try clear c99
        try clear c101
        try clear c102
        try clear c106
        try clear c107
        try clear c108
        try clear c110
        try clear c111
        try clear c115
        try clear c116
        try clear c117
        try clear c119
        try clear c119b0
        try clear c119b1
        try clear c120
        try clear c120b0
        try clear c120b1
        try clear c120b2
        try clear c122
        try clear hcz100_0
        try clear hcz100_1
        try clear hcz100_2
        try clear hcz100_3
        try clear hcz100_4
        try clear hcz100_5
        try clear hcz103_0
        try clear hcz103_1
        try clear hcz103_2
        try clear hcz103_3
        try clear hcz103_4
        try clear hcz103_5
        try clear hcz109
        try clear hcz112
        try clear hcz118_0
        try clear hcz118_1
        try clear hcz118_2
        try clear hcz118_3
        try clear hcz118_4
        try clear hcz118_5
        try clear hcz26
        try clear hcz30
        try clear hcz35
        try clear hcz37
        try clear hcz48_0
        try clear hcz48_1
        try clear hcz48_2
        try clear hcz48_3
        try clear hcz48_4
        try clear hcz48_5
        try clear hcz50_0
        try clear hcz50_1
        try clear hcz50_2
        try clear hcz50_3
        try clear hcz50_4
        try clear hcz50_5
        try clear hcz54
        try clear hcz56
        try clear hcz59_0
        try clear hcz59_1
        try clear hcz59_2
        try clear hcz59_3
        try clear hcz59_4
        try clear hcz59_5
        try clear hcz61_0
        try clear hcz61_1
        try clear hcz61_2
        try clear hcz61_3
        try clear hcz61_4
        try clear hcz61_5
        try clear hcz72
        try clear hcz74
        try clear hcz78_0
        try clear hcz78_1
        try clear hcz78_2
        try clear hcz78_3
        try clear hcz78_4
        try clear hcz78_5
        try clear hcz80_0
        try clear hcz80_1
        try clear hcz80_2
        try clear hcz80_3
        try clear hcz80_4
        try clear hcz80_5
        try clear hcz84_0
        try clear hcz84_1
        try clear hcz84_2
        try clear hcz84_3
        try clear hcz84_4
        try clear hcz84_5
        try clear hcz88_0
        try clear hcz88_1
        try clear hcz88_2
        try clear hcz88_3
        try clear hcz88_4
        try clear hcz88_5
        try clear hfz100_0
        try clear hfz100_1
        try clear hfz100_2
        try clear hfz100_3
        try clear hfz100_4
        try clear hfz100_5
        try clear hfz103_0
        try clear hfz103_1
        try clear hfz103_2
        try clear hfz103_3
        try clear hfz103_4
        try clear hfz103_5
        try clear hfz118_0
        try clear hfz118_1
        try clear hfz118_2
        try clear hfz118_3
        try clear hfz118_4
        try clear hfz118_5
        try clear hfz48_0
        try clear hfz48_1
        try clear hfz48_2
        try clear hfz48_3
        try clear hfz48_4
        try clear hfz48_5
        try clear hfz50_0
        try clear hfz50_1
        try clear hfz50_2
        try clear hfz50_3
        try clear hfz50_4
        try clear hfz50_5
        try clear hfz59_0
        try clear hfz59_1
        try clear hfz59_2
        try clear hfz59_3
        try clear hfz59_4
        try clear hfz59_5
        try clear hfz61_0
        try clear hfz61_1
        try clear hfz61_2
        try clear hfz61_3
        try clear hfz61_4
        try clear hfz61_5
        try clear hfz78_0
        try clear hfz78_1
        try clear hfz78_2
        try clear hfz78_3
        try clear hfz78_4
        try clear hfz78_5
        try clear hfz80_0
        try clear hfz80_1
        try clear hfz80_2
        try clear hfz80_3
        try clear hfz80_4
        try clear hfz80_5
        try clear hfz84_0
        try clear hfz84_1
        try clear hfz84_2
        try clear hfz84_3
        try clear hfz84_4
        try clear hfz84_5
        try clear hfz88_0
        try clear hfz88_1
        try clear hfz88_2
        try clear hfz88_3
        try clear hfz88_4
        try clear hfz88_5
        try clear p2
        obtain ⟨kq, x187_120, rfl, HA, HJ120, HO_3, HO_4, BK718, BK726, BK733, HB⟩ := hcut
        rename_i ia0 ia1 ia2 ia3 ia4 ia5 ia6 ia7 ia8 ia9 ia10 ia11 ia12 ia13 ia14 ia15 ia16 ia17 ia18 ia19 ia20 ia21 ia22 ia23 ia24 ia25 ia26 ia27 ia28 ia29 ia30 ia31 ia32 ia33 ia34 ia35 ia36 ia37 ia38 ia39 ia40 ia41 ia42 ia43 ia44 ia45 ia46 ia47 ia48 ia49 ia50 ia51 ia52 ia53 ia54 ia55 ia56 ia57 ia58 ia59 ia60 ia61 ia62 ia63 ia64 ia65 ia66 ia67 ia68 ia69 ia70 ia71 ia72 ia73 ia74 ia75 ia76 ia77 ia78 ia79 ia80 ia81 ia82 ia83 ia84 ia85 ia86 ia87 ia88 ia89 ia90 ia91 ia92 ia93 ia94 ia95 ia96 ia97 ia98 ia99 ia100 ia101 ia102 ia103 ia104 ia105 ia106 ia107 ia108 ia109 ia110 ia111 ia112 ia113 ia114 ia115 ia116 ia117 ia118 ia119 ia120 ia121 ia122 ia123 ia124 ia125 ia126 ia127 ia128 ia129 ia130 ia131 ia132 ia133 ia134 ia135 ia136 ia137 ia138 ia139 ia140 ia141 ia142 ia143 ia144 ia145 ia146 ia147 ia148 ia149 ia150 ia151 ia152 ia153 ia154 ia155 ia156 ia157 ia158 ia159 ia160 ia161 ia162 ia163 ia164 ia165 ia166 ia167 ia168 ia169 ia170 ia171 ia172 ia173 ia174 ia175 ia176 ia177 ia178 ia179 ia180 ia181 ia182 ia183 ia184 ia185 ia186 ia187 ia188 ia189 ia190 ia191 ia192 ia193 ia194 ia195 ia196 ia197 ia198 ia199 ia200 ia201 ia202 ia203 ia204 ia205 ia206 ia207 ia208 ia209 ia210 ia211 ia212 ia213 ia214 ia215 ia216 ia217 ia218 ia219 ia220 ia221 ia222 ia223 ia224 ia225 ia226 ia227 ia228 ia229 ia230 ia231 ia232 ia233 ia234 ia235 ia236 ia237 ia238 ia239 ia240 ia241 ia242 ia243 ia244 ia245 ia246 ia247 ia248 ia249 ia250 ia251 ia252 ia253 ia254 ia255 ia256 ia257 ia258 ia259 ia260 ia261 ia262 ia263 ia264 ia265 ia266 ia267 ia268 ia269 ia270 ia271 ia272 ia273 ia274 ia275 ia276 ia277 ia278 ia279 ia280 ia281 ia282 ia283 ia284 ia285 ia286 ia287 ia288 ia289 ia290 ia291 ia292 ia293 ia294 ia295 ia296 ia297 ia298 ia299 ia300 ia301 ia302 ia303 ia304 ia305 ia306 ia307 ia308 ia309 ia310 ia311 ia312 ia313 ia314 ia315 ia316 ia317 ia318 ia319 ia320 ia321 ia322 ia323 ia324 ia325 ia326 ia327 ia328 ia329 ia330 ia331 ia332 ia333 ia334 ia335 ia336 ia337 ia338 ia339 ia340 ia341 ia342 ia343 ia344 ia345 ia346 ia347 ia348 ia349 ia350 ia351 ia352 ia353 ia354 ia355 ia356 ia357 ia358 ia359 ia360 ia361 ia362 ia363 ia364 ia365 ia366 ia367 ia368 ia369 ia370 ia371 ia372 ia373 ia374 ia375 ia376 ia377 ia378 ia379 ia380 ia381 ia382 ia383 ia384 ia385 ia386 ia387 ia388 ia389 ia390 ia391 ia392 ia393 ia394 ia395 ia396 ia397 ia398 ia399 ia400 ia401 ia402 ia403 ia404 ia405 ia406 ia407 ia408 ia409 ia410 ia411 ia412 ia413 ia414 ia415 ia416 ia417 ia418 ia419 ia420 ia421 ia422 ia423 ia424 ia425 ia426 ia427 ia428 ia429 ia430 ia431 ia432 ia433 ia434 ia435 ia436 ia437 ia438 ia439 ia440 ia441 ia442 ia443 ia444 ia445 ia446 ia447 ia448 ia449 ia450 ia451 ia452 ia453 ia454 ia455 ia456 ia457 ia458 ia459 ia460 ia461 ia462 ia463 ia464 ia465 ia466 ia467 ia468 ia469 ia470 ia471 ia472 ia473 ia474 ia475 ia476
        clear ia1 ia2 ia3 ia4 ia5 ia6 ia7 ia8 ia9 ia10 ia11 ia12 ia13 ia14 ia15 ia16 ia17 ia18 ia19 ia20 ia21 ia22 ia23 ia24 ia25 ia26 ia27 ia28 ia29 ia30 ia31 ia32 ia33 ia34 ia35 ia36 ia37 ia38 ia39 ia40 ia41 ia42 ia43 ia44 ia45 ia46 ia47 ia48 ia49 ia50 ia51 ia52 ia53 ia54 ia55 ia56 ia57 ia58 ia59 ia60 ia61 ia62 ia63 ia64 ia65 ia66 ia67 ia68 ia69 ia70 ia71 ia72 ia73 ia74 ia75 ia76 ia77 ia78 ia79 ia80 ia81 ia82 ia83 ia84 ia85 ia86 ia87 ia88 ia89 ia90 ia91 ia92 ia93 ia94 ia95 ia96 ia97 ia98 ia99 ia100 ia101 ia102 ia103 ia104 ia105 ia106 ia107 ia108 ia109 ia110 ia111 ia112 ia113 ia114 ia115 ia116 ia117 ia118 ia119 ia120 ia121 ia122 ia123 ia124 ia125 ia126 ia127 ia128 ia129 ia130 ia131 ia132 ia133 ia134 ia135 ia136 ia137 ia138 ia139 ia140 ia141 ia142 ia143 ia144 ia145 ia146 ia147 ia148 ia149 ia150 ia151 ia152 ia153 ia154 ia155 ia156 ia157 ia158 ia159 ia160 ia161 ia162 ia163 ia164 ia165 ia166 ia167 ia168 ia169 ia170 ia171 ia172 ia173 ia174 ia175 ia176 ia177 ia178 ia179 ia180 ia181 ia182 ia183 ia184 ia185 ia186 ia187 ia188 ia189 ia190 ia191 ia192 ia193 ia194 ia195 ia196 ia197 ia198 ia199 ia200 ia201 ia202 ia203 ia204 ia205 ia206 ia207 ia208 ia209 ia210 ia211 ia212 ia213 ia214 ia215 ia216 ia217 ia218 ia219 ia220 ia221 ia222 ia223 ia224 ia225 ia226 ia227 ia228 ia229 ia230 ia231 ia232 ia233 ia234 ia235 ia236 ia237 ia238 ia239 ia240 ia241 ia242 ia243 ia244 ia245 ia246 ia247 ia248 ia249 ia250 ia251 ia252 ia253 ia254 ia255 ia256 ia257 ia258 ia259 ia260 ia261 ia262 ia263 ia264 ia265 ia266 ia267 ia268 ia269 ia270 ia271 ia272 ia273 ia274 ia275 ia276 ia277 ia278 ia279 ia280 ia281 ia282 ia283 ia284 ia285 ia286 ia287 ia288 ia289 ia290 ia291 ia292 ia293 ia294 ia295 ia296 ia297 ia298 ia299 ia300 ia301 ia302 ia303 ia304 ia305 ia306 ia307 ia308 ia309 ia310 ia311 ia312 ia313 ia314 ia315 ia316 ia317 ia318 ia319 ia320 ia321 ia322 ia323 ia324 ia325 ia326 ia327 ia328 ia329 ia330 ia331 ia332 ia333 ia334 ia335 ia336 ia337 ia338 ia339 ia340 ia341 ia342 ia343 ia344 ia345 ia346 ia347 ia348 ia349 ia350 ia351 ia352 ia353 ia354 ia355 ia356 ia357 ia358 ia359 ia360 ia361 ia362 ia363 ia364 ia365 ia366 ia367 ia368 ia369 ia370 ia371 ia372 ia373 ia374 ia375 ia376 ia377 ia378 ia379 ia380 ia381 ia382 ia383 ia384 ia385 ia386 ia387 ia388 ia389 ia390 ia391 ia392 ia393 ia394 ia395 ia396 ia397 ia398 ia399 ia400 ia401 ia402 ia403 ia404 ia405 ia406 ia407 ia408 ia409 ia410 ia411 ia412 ia413 ia414 ia415 ia416 ia417 ia418 ia419 ia420 ia421 ia422 ia423 ia424 ia425 ia426 ia427 ia428 ia429 ia430 ia431 ia432 ia433 ia434 ia435 ia436 ia437 ia438 ia439 ia440 ia441 ia442 ia443 ia444 ia445 ia446 ia447 ia448 ia449 ia450 ia451 ia452 ia453 ia454 ia455 ia456 ia457 ia458 ia459 ia460 ia461 ia462 ia463 ia464 ia465 ia466 ia467 ia468 ia469 ia470 ia471 ia472
        revert k A0 c0 l0 r w hu23 HR0 HC0 A2 t694 t695 A4 t700 t701 t702 A5 t703 t704 t705 A6 t706 t707 A7 t708 t709 A8 t710 A9 t711 t712 t713 t714 t715 t716 t717 A10 t719 t720 t721 t722 t723 t724 t725 A11 t727 t728 t729 t730 t731 t732 A12 t734 t735 A13 t736 t737 A14 ia0 nd w16 Ao17 co17 Ao18 co18 w19 w20 w21 w22 w23 w24 gb718 w25 GW718 GE718 w27 gb726 w28 GW726 GE726 NB718_726 NB726_718 hnb29 hnc29 w31 gb733 w32 GW733 GE733 NB718_733 NB733_718 NB726_733 NB733_726 hnb33 hnc33 hnb34 hnc34 w36 w38 HO697 HO699 kj14 HJ14 u25 u26 kj62 HJ62 u2 u27 u28 u187 kj89 HJ89 ia473 ia474 ia475 ia476 wc u40 u41 u42 u43 u44 u45 u46 u47 u48 u49 u50 u51 u52 u53 u54 u55 u56 u57 u58 u59 u60 u61 u62 u63 u64 u65 u66 u67 u68 u69 u70 u71 u72 u73 u74 u75 u76 u77 u78 u79 u80 u81 u82 u83 u84 u85 u86 u87 u88 u89 u90 u91 u92 u93 u94 u95 u96 u97 u98 u99 u100 u101 u102 u103 u104 u105 u106 u107 u108 u109 u110 u111 u112 u113 u114 u115 u116 u117 u118 u119 u120 u121 u122 u123 u124 u125 u126 u127 u128 u129 u130 u131 u132 u133 u134 u135 u136 u137 u138 u139 u140 u141 u142 u143 u144 u145 u146 u147 u148 u149 u150 u151 u152 u153 u154 u155 u156 u157 u158 u159 u160 u161 u162 u163 u164 u165 u166 u167 u168 u169 u170 u171 u172 u173 u174 u175 u176 u177 u178 u179 u180 u181 u182 u183 u184 u185 u186 u188 u189 u190 u191 u192 u193 u194 u195 u196 u197 u198 u199 u200 u201 u202 u203 u204 u205 u206 u207 u208 u209 u210 u211 u212 u213 u214 u215 u216 u217 u218 u219 u220 u221 u222 u223 u224 u225 u226 u227 u228 u229 u230 u231 u232 u233 u234 u235 u236 u237 u238 u239 u240 u241 u242 u243 u244 u245 u246 u247 u248 u249 u250 u251 u252 u253 u254 u255 u256 u257 u258 u259 u260 u261 u262 u263 u264 u265 u266 u267 u268 kq x187_120 HA HJ120 HO_3 HO_4 BK718 BK726 BK733 HB
        exact K_.out
     ·rw [if_neg c119] at H
      have c119b0 : (t707 == 0) = false := beq_eq_false_iff_ne.mpr c119
      have c119b1 : (t707 != 0) = true := bne_iff_ne.mpr c119
      obtain rfl := jN H
      go_wp2
      go_ret
      exact ⟨ze, zb3 HB GE718 GE726 GE733⟩)
end Go.Proofs.Ythieppjmjgijfaa.PFnProofs
