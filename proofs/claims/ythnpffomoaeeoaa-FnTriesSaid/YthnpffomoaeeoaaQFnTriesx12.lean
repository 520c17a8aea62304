/- Functions and contracts that FnTries reaches (13 of 13). -/
import Derived.Test.YthnpffomoaeeoaaQFnTriesx11
namespace Go.Proofs.Ythnpffomoaeeoaa.PFnTries
open Go.RowKit Go.Proofs.YthnpffomoaeeoaaW.PrintWords Go.Proofs.YthnpffomoaeeoaaW.PrintLast Go.Proofs.YthnpffomoaeeoaaW.PrintMore
attribute [local go_sem] max2_int min2_int max_two min_two max_three min_three max_four min_four   -- for this text's walks alone
set_option linter.unusedVariables false
set_option linter.unusedSimpArgs false

/-! ### laws_FnTries: function 11 -/
mutual
def laws_FnTries.j0 : Nat → List (S36) → Int → Int → Int → List (S36) → List (S36) → Int → List Int → Int → Bool → Int → Int → Bool → Option (Bool)
 | 0, _, _, _, _, _, _, _, _, _, _, _, _, _ => none
 | k + 1, x3, x4, x5, x6, x9, x11, x12, x15, x16, x112, x399000, x399001, x399002 => if x112 = true then (some false) else (if x12 = 0 then ((impl_CueState.f k x9 x399000).bind fun bt418 => (if bt418.2 = 0 then (if bt418.1 ≥ 2 then (some false) else ((impl_AreTries.f k x11).bind fun t420 => (if t420 = true then (laws_FnTries.j1 k x3 x4 x5 x6 x15 x16) else (some false)))) else (some false))) else (laws_FnTries.j1 k x3 x4 x5 x6 x15 x16))
def laws_FnTries.j1 : Nat → List (S36) → Int → Int → Int → List Int → Int → Option (Bool)
 | 0, _, _, _, _, _, _ => none
 | k + 1, x3, x4, x5, x6, x15, x16 => laws_FnTries.l0 k x3 x4 x5 x6 x15 x16 1
def laws_FnTries.l0 : Nat → List (S36) → Int → Int → Int → List Int → Int → Int → Option (Bool)
 | 0, _, _, _, _, _, _, _ => none
 | k + 1, x3, x4, x5, x6, x15, x16, x21 => if x16 = 0 then (laws_FnTries.j3 k x3 x4 x5 x6 x15 x16 x21 (decide (x21 < (x15.length : Int)))) else (laws_FnTries.j3 k x3 x4 x5 x6 x15 x16 x21 false)
def laws_FnTries.j3 : Nat → List (S36) → Int → Int → Int → List Int → Int → Int → Bool → Option (Bool)
 | 0, _, _, _, _, _, _, _, _ => none
 | k + 1, x3, x4, x5, x6, x15, x16, x21, x140 => if x140 = true then (if 0 ≤ x21 then (if x21 < (x15.length : Int) then (if 0 ≤ (wrap64 (x21 - 1)) then (if (wrap64 (x21 - 1)) < (x15.length : Int) then (if (rd x15 x21) < (wrap64 ((rd x15 (wrap64 (x21 - 1))) + 50)) then (some false) else (laws_FnTries.l0 k x3 x4 x5 x6 x15 x16 (wrap64 (x21 + 1)))) else (none)) else (none)) else (none)) else (none)) else (if x6 = 0 then (laws_FnTries.j4 k x3 x4 x5 ((x3.length : Int) == 40)) else (laws_FnTries.j4 k x3 x4 x5 true))
def laws_FnTries.j4 : Nat → List (S36) → Int → Int → Bool → Option (Bool)
 | 0, _, _, _, _ => none
 | k + 1, x3, x4, x5, x160 => if x160 = true then (some true) else ((impl_AddTry.f k x3 x4 x5 true).bind fun bt423 => ((impl_CueState.f k bt423.1 x4).bind fun bt427 => (if bt423.2 = 0 then (if bt427.2 = 0 then (laws_FnTries.j5 k x3 x4 x5 (bt427.1 != 2)) else (laws_FnTries.j5 k x3 x4 x5 true)) else (laws_FnTries.j5 k x3 x4 x5 true))))
def laws_FnTries.j5 : Nat → List (S36) → Int → Int → Bool → Option (Bool)
 | 0, _, _, _, _ => none
 | k + 1, x3, x4, x5, x184 => if x184 = true then (some false) else (if x5 = 0 then (some true) else ((impl_AddTry.f k x3 x4 (wrap64 (x5 - 1)) false).bind fun bt429 => (if (bt429.1.length : Int) = 0 then (some (bt429.2 == 5)) else (some false))))
end
def laws_FnTries.f (k : Nat) (l0 : List Int) : Option (Bool) := (laws_big.f l0).bind fun t383 => (if t383 = true then (some true) else ((spec_DrawNextTry.f k l0).bind fun bt384 => ((impl_NextTry.f k bt384.1 bt384.2).bind fun bt388 => ((spec_NextTry.f k bt384.1 bt384.2).bind fun bt390 => ((spec_DrawAddTry.f k l0).bind fun bt392 => ((impl_AddTry.f k bt392.1 bt392.2.1 bt392.2.2.1 bt392.2.2.2).bind fun bt399 => ((spec_AddTry.f k bt392.1 bt392.2.1 bt392.2.2.1 bt392.2.2.2).bind fun bt403 => ((impl_TriesOf.f k bt384.1 bt384.2).bind fun bt407 => ((spec_TriesOf.f k bt384.1 bt384.2).bind fun bt411 => (if bt388.2 = bt390.2 then (if bt388.1 = bt390.1 then (if bt399.2 = bt403.2 then ((laws_likeTries.f k bt399.1 bt403.1).bind fun t415 => (if t415 = true then (if bt407.2 = bt411.2 then ((laws_likeInts.f k bt407.1 bt411.1).bind fun t416 => (if t416 = true then ((impl_AreTries.f k bt384.1).bind fun t417 => (laws_FnTries.j0 k bt384.1 bt384.2 bt388.1 bt388.2 bt392.1 bt399.1 bt399.2 bt407.1 bt407.2 (t417 != (bt390.2 != 1)) bt392.2.1 bt392.2.2.1 bt392.2.2.2)) else (laws_FnTries.j0 k bt384.1 bt384.2 bt388.1 bt388.2 bt392.1 bt399.1 bt399.2 bt407.1 bt407.2 true bt392.2.1 bt392.2.2.1 bt392.2.2.2))) else (laws_FnTries.j0 k bt384.1 bt384.2 bt388.1 bt388.2 bt392.1 bt399.1 bt399.2 bt407.1 bt407.2 true bt392.2.1 bt392.2.2.1 bt392.2.2.2)) else (laws_FnTries.j0 k bt384.1 bt384.2 bt388.1 bt388.2 bt392.1 bt399.1 bt399.2 bt407.1 bt407.2 true bt392.2.1 bt392.2.2.1 bt392.2.2.2))) else (laws_FnTries.j0 k bt384.1 bt384.2 bt388.1 bt388.2 bt392.1 bt399.1 bt399.2 bt407.1 bt407.2 true bt392.2.1 bt392.2.2.1 bt392.2.2.2)) else (laws_FnTries.j0 k bt384.1 bt384.2 bt388.1 bt388.2 bt392.1 bt399.1 bt399.2 bt407.1 bt407.2 true bt392.2.1 bt392.2.2.1 bt392.2.2.2)) else (laws_FnTries.j0 k bt384.1 bt384.2 bt388.1 bt388.2 bt392.1 bt399.1 bt399.2 bt407.1 bt407.2 true bt392.2.1 bt392.2.2.1 bt392.2.2.2)))))))))))
theorem laws_FnTries.mono_l : ∀ k, (∀ y0 y1 y2 y3 y4 y5 y6 y7 y8 y9 y10 y11 y12, LeO (laws_FnTries.j0 k y0 y1 y2 y3 y4 y5 y6 y7 y8 y9 y10 y11 y12) (laws_FnTries.j0 (k + 1) y0 y1 y2 y3 y4 y5 y6 y7 y8 y9 y10 y11 y12)) ∧ (∀ y0 y1 y2 y3 y4 y5, LeO (laws_FnTries.j1 k y0 y1 y2 y3 y4 y5) (laws_FnTries.j1 (k + 1) y0 y1 y2 y3 y4 y5)) ∧ (∀ y0 y1 y2 y3 y4 y5 y6, LeO (laws_FnTries.l0 k y0 y1 y2 y3 y4 y5 y6) (laws_FnTries.l0 (k + 1) y0 y1 y2 y3 y4 y5 y6)) ∧ (∀ y0 y1 y2 y3 y4 y5 y6 y7, LeO (laws_FnTries.j3 k y0 y1 y2 y3 y4 y5 y6 y7) (laws_FnTries.j3 (k + 1) y0 y1 y2 y3 y4 y5 y6 y7)) ∧ (∀ y0 y1 y2 y3, LeO (laws_FnTries.j4 k y0 y1 y2 y3) (laws_FnTries.j4 (k + 1) y0 y1 y2 y3)) ∧ (∀ y0 y1 y2 y3, LeO (laws_FnTries.j5 k y0 y1 y2 y3) (laws_FnTries.j5 (k + 1) y0 y1 y2 y3))
 | 0 => ⟨fun _ _ _ _ _ _ _ _ _ _ _ _ _ r h => by simp [laws_FnTries.j0] at h, fun _ _ _ _ _ _ r h => by simp [laws_FnTries.j1] at h, fun _ _ _ _ _ _ _ r h => by simp [laws_FnTries.l0] at h, fun _ _ _ _ _ _ _ _ r h => by simp [laws_FnTries.j3] at h, fun _ _ _ _ r h => by simp [laws_FnTries.j4] at h, fun _ _ _ _ r h => by simp [laws_FnTries.j5] at h⟩
 | k + 1 => by
  obtain ⟨ih0, ih1, ih2, ih3, ih4, ih5⟩ := laws_FnTries.mono_l k
  refine ⟨?_, ?_, ?_, ?_, ?_, ?_⟩
  ·as_aux_lemma =>
   intro y0 y1 y2 y3 y4 y5 y6 y7 y8 y9 y10 y11 y12
   unfold laws_FnTries.j0
   repeat' first
   | (with_reducible exact ih0 _ _ _ _ _ _ _ _ _ _ _ _ _)
   | (with_reducible exact ih1 _ _ _ _ _ _)
   | (with_reducible exact ih2 _ _ _ _ _ _ _)
   | (with_reducible exact ih3 _ _ _ _ _ _ _ _)
   | (with_reducible exact ih4 _ _ _ _)
   | (with_reducible exact ih5 _ _ _ _)
   | (with_reducible exact impl_AddTry.mono _ _ _ _ _)
   | (with_reducible exact impl_AreTries.mono _ _)
   | (with_reducible exact impl_CueState.mono _ _ _)
   | (with_reducible exact impl_NextTry.mono _ _ _)
   | (with_reducible exact impl_TriesOf.mono _ _ _)
   | (with_reducible exact laws_likeInts.mono _ _ _)
   | (with_reducible exact laws_likeTries.mono _ _ _)
   | (with_reducible exact spec_AddTry.mono _ _ _ _ _)
   | (with_reducible exact spec_DrawAddTry.mono _ _)
   | (with_reducible exact spec_DrawNextTry.mono _ _)
   | (with_reducible exact spec_NextTry.mono _ _ _)
   | (with_reducible exact spec_TriesOf.mono _ _ _)
   | (with_reducible exact LeO.refl _)
   | (with_reducible exact LeO.none _)
   | (with_reducible refine LeO.ite ?_ ?_)
   | (with_reducible refine LeO.bind ?_ (fun _ => ?_))
   | exact ih0 _ _ _ _ _ _ _ _ _ _ _ _ _
   | exact ih1 _ _ _ _ _ _
   | exact ih2 _ _ _ _ _ _ _
   | exact ih3 _ _ _ _ _ _ _ _
   | exact ih4 _ _ _ _
   | exact ih5 _ _ _ _
   | exact impl_AddTry.mono _ _ _ _ _
   | exact impl_AreTries.mono _ _
   | exact impl_CueState.mono _ _ _
   | exact impl_NextTry.mono _ _ _
   | exact impl_TriesOf.mono _ _ _
   | exact laws_likeInts.mono _ _ _
   | exact laws_likeTries.mono _ _ _
   | exact spec_AddTry.mono _ _ _ _ _
   | exact spec_DrawAddTry.mono _ _
   | exact spec_DrawNextTry.mono _ _
   | exact spec_NextTry.mono _ _ _
   | exact spec_TriesOf.mono _ _ _
   | exact LeO.none _
   | refine LeO.ite ?_ ?_
   | refine LeO.bind ?_ (fun _ => ?_)
  ·as_aux_lemma =>
   intro y0 y1 y2 y3 y4 y5
   unfold laws_FnTries.j1
   repeat' first
   | (with_reducible exact ih0 _ _ _ _ _ _ _ _ _ _ _ _ _)
   | (with_reducible exact ih1 _ _ _ _ _ _)
   | (with_reducible exact ih2 _ _ _ _ _ _ _)
   | (with_reducible exact ih3 _ _ _ _ _ _ _ _)
   | (with_reducible exact ih4 _ _ _ _)
   | (with_reducible exact ih5 _ _ _ _)
   | (with_reducible exact impl_AddTry.mono _ _ _ _ _)
   | (with_reducible exact impl_AreTries.mono _ _)
   | (with_reducible exact impl_CueState.mono _ _ _)
   | (with_reducible exact impl_NextTry.mono _ _ _)
   | (with_reducible exact impl_TriesOf.mono _ _ _)
   | (with_reducible exact laws_likeInts.mono _ _ _)
   | (with_reducible exact laws_likeTries.mono _ _ _)
   | (with_reducible exact spec_AddTry.mono _ _ _ _ _)
   | (with_reducible exact spec_DrawAddTry.mono _ _)
   | (with_reducible exact spec_DrawNextTry.mono _ _)
   | (with_reducible exact spec_NextTry.mono _ _ _)
   | (with_reducible exact spec_TriesOf.mono _ _ _)
   | (with_reducible exact LeO.refl _)
   | (with_reducible exact LeO.none _)
   | (with_reducible refine LeO.ite ?_ ?_)
   | (with_reducible refine LeO.bind ?_ (fun _ => ?_))
   | exact ih0 _ _ _ _ _ _ _ _ _ _ _ _ _
   | exact ih1 _ _ _ _ _ _
   | exact ih2 _ _ _ _ _ _ _
   | exact ih3 _ _ _ _ _ _ _ _
   | exact ih4 _ _ _ _
   | exact ih5 _ _ _ _
   | exact impl_AddTry.mono _ _ _ _ _
   | exact impl_AreTries.mono _ _
   | exact impl_CueState.mono _ _ _
   | exact impl_NextTry.mono _ _ _
   | exact impl_TriesOf.mono _ _ _
   | exact laws_likeInts.mono _ _ _
   | exact laws_likeTries.mono _ _ _
   | exact spec_AddTry.mono _ _ _ _ _
   | exact spec_DrawAddTry.mono _ _
   | exact spec_DrawNextTry.mono _ _
   | exact spec_NextTry.mono _ _ _
   | exact spec_TriesOf.mono _ _ _
   | exact LeO.none _
   | refine LeO.ite ?_ ?_
   | refine LeO.bind ?_ (fun _ => ?_)
  ·as_aux_lemma =>
   intro y0 y1 y2 y3 y4 y5 y6
   unfold laws_FnTries.l0
   repeat' first
   | (with_reducible exact ih0 _ _ _ _ _ _ _ _ _ _ _ _ _)
   | (with_reducible exact ih1 _ _ _ _ _ _)
   | (with_reducible exact ih2 _ _ _ _ _ _ _)
   | (with_reducible exact ih3 _ _ _ _ _ _ _ _)
   | (with_reducible exact ih4 _ _ _ _)
   | (with_reducible exact ih5 _ _ _ _)
   | (with_reducible exact impl_AddTry.mono _ _ _ _ _)
   | (with_reducible exact impl_AreTries.mono _ _)
   | (with_reducible exact impl_CueState.mono _ _ _)
   | (with_reducible exact impl_NextTry.mono _ _ _)
   | (with_reducible exact impl_TriesOf.mono _ _ _)
   | (with_reducible exact laws_likeInts.mono _ _ _)
   | (with_reducible exact laws_likeTries.mono _ _ _)
   | (with_reducible exact spec_AddTry.mono _ _ _ _ _)
   | (with_reducible exact spec_DrawAddTry.mono _ _)
   | (with_reducible exact spec_DrawNextTry.mono _ _)
   | (with_reducible exact spec_NextTry.mono _ _ _)
   | (with_reducible exact spec_TriesOf.mono _ _ _)
   | (with_reducible exact LeO.refl _)
   | (with_reducible exact LeO.none _)
   | (with_reducible refine LeO.ite ?_ ?_)
   | (with_reducible refine LeO.bind ?_ (fun _ => ?_))
   | exact ih0 _ _ _ _ _ _ _ _ _ _ _ _ _
   | exact ih1 _ _ _ _ _ _
   | exact ih2 _ _ _ _ _ _ _
   | exact ih3 _ _ _ _ _ _ _ _
   | exact ih4 _ _ _ _
   | exact ih5 _ _ _ _
   | exact impl_AddTry.mono _ _ _ _ _
   | exact impl_AreTries.mono _ _
   | exact impl_CueState.mono _ _ _
   | exact impl_NextTry.mono _ _ _
   | exact impl_TriesOf.mono _ _ _
   | exact laws_likeInts.mono _ _ _
   | exact laws_likeTries.mono _ _ _
   | exact spec_AddTry.mono _ _ _ _ _
   | exact spec_DrawAddTry.mono _ _
   | exact spec_DrawNextTry.mono _ _
   | exact spec_NextTry.mono _ _ _
   | exact spec_TriesOf.mono _ _ _
   | exact LeO.none _
   | refine LeO.ite ?_ ?_
   | refine LeO.bind ?_ (fun _ => ?_)
  ·as_aux_lemma =>
   intro y0 y1 y2 y3 y4 y5 y6 y7
   unfold laws_FnTries.j3
   repeat' first
   | (with_reducible exact ih0 _ _ _ _ _ _ _ _ _ _ _ _ _)
   | (with_reducible exact ih1 _ _ _ _ _ _)
   | (with_reducible exact ih2 _ _ _ _ _ _ _)
   | (with_reducible exact ih3 _ _ _ _ _ _ _ _)
   | (with_reducible exact ih4 _ _ _ _)
   | (with_reducible exact ih5 _ _ _ _)
   | (with_reducible exact impl_AddTry.mono _ _ _ _ _)
   | (with_reducible exact impl_AreTries.mono _ _)
   | (with_reducible exact impl_CueState.mono _ _ _)
   | (with_reducible exact impl_NextTry.mono _ _ _)
   | (with_reducible exact impl_TriesOf.mono _ _ _)
   | (with_reducible exact laws_likeInts.mono _ _ _)
   | (with_reducible exact laws_likeTries.mono _ _ _)
   | (with_reducible exact spec_AddTry.mono _ _ _ _ _)
   | (with_reducible exact spec_DrawAddTry.mono _ _)
   | (with_reducible exact spec_DrawNextTry.mono _ _)
   | (with_reducible exact spec_NextTry.mono _ _ _)
   | (with_reducible exact spec_TriesOf.mono _ _ _)
   | (with_reducible exact LeO.refl _)
   | (with_reducible exact LeO.none _)
   | (with_reducible refine LeO.ite ?_ ?_)
   | (with_reducible refine LeO.bind ?_ (fun _ => ?_))
   | exact ih0 _ _ _ _ _ _ _ _ _ _ _ _ _
   | exact ih1 _ _ _ _ _ _
   | exact ih2 _ _ _ _ _ _ _
   | exact ih3 _ _ _ _ _ _ _ _
   | exact ih4 _ _ _ _
   | exact ih5 _ _ _ _
   | exact impl_AddTry.mono _ _ _ _ _
   | exact impl_AreTries.mono _ _
   | exact impl_CueState.mono _ _ _
   | exact impl_NextTry.mono _ _ _
   | exact impl_TriesOf.mono _ _ _
   | exact laws_likeInts.mono _ _ _
   | exact laws_likeTries.mono _ _ _
   | exact spec_AddTry.mono _ _ _ _ _
   | exact spec_DrawAddTry.mono _ _
   | exact spec_DrawNextTry.mono _ _
   | exact spec_NextTry.mono _ _ _
   | exact spec_TriesOf.mono _ _ _
   | exact LeO.none _
   | refine LeO.ite ?_ ?_
   | refine LeO.bind ?_ (fun _ => ?_)
  ·as_aux_lemma =>
   intro y0 y1 y2 y3
   unfold laws_FnTries.j4
   repeat' first
   | (with_reducible exact ih0 _ _ _ _ _ _ _ _ _ _ _ _ _)
   | (with_reducible exact ih1 _ _ _ _ _ _)
   | (with_reducible exact ih2 _ _ _ _ _ _ _)
   | (with_reducible exact ih3 _ _ _ _ _ _ _ _)
   | (with_reducible exact ih4 _ _ _ _)
   | (with_reducible exact ih5 _ _ _ _)
   | (with_reducible exact impl_AddTry.mono _ _ _ _ _)
   | (with_reducible exact impl_AreTries.mono _ _)
   | (with_reducible exact impl_CueState.mono _ _ _)
   | (with_reducible exact impl_NextTry.mono _ _ _)
   | (with_reducible exact impl_TriesOf.mono _ _ _)
   | (with_reducible exact laws_likeInts.mono _ _ _)
   | (with_reducible exact laws_likeTries.mono _ _ _)
   | (with_reducible exact spec_AddTry.mono _ _ _ _ _)
   | (with_reducible exact spec_DrawAddTry.mono _ _)
   | (with_reducible exact spec_DrawNextTry.mono _ _)
   | (with_reducible exact spec_NextTry.mono _ _ _)
   | (with_reducible exact spec_TriesOf.mono _ _ _)
   | (with_reducible exact LeO.refl _)
   | (with_reducible exact LeO.none _)
   | (with_reducible refine LeO.ite ?_ ?_)
   | (with_reducible refine LeO.bind ?_ (fun _ => ?_))
   | exact ih0 _ _ _ _ _ _ _ _ _ _ _ _ _
   | exact ih1 _ _ _ _ _ _
   | exact ih2 _ _ _ _ _ _ _
   | exact ih3 _ _ _ _ _ _ _ _
   | exact ih4 _ _ _ _
   | exact ih5 _ _ _ _
   | exact impl_AddTry.mono _ _ _ _ _
   | exact impl_AreTries.mono _ _
   | exact impl_CueState.mono _ _ _
   | exact impl_NextTry.mono _ _ _
   | exact impl_TriesOf.mono _ _ _
   | exact laws_likeInts.mono _ _ _
   | exact laws_likeTries.mono _ _ _
   | exact spec_AddTry.mono _ _ _ _ _
   | exact spec_DrawAddTry.mono _ _
   | exact spec_DrawNextTry.mono _ _
   | exact spec_NextTry.mono _ _ _
   | exact spec_TriesOf.mono _ _ _
   | exact LeO.none _
   | refine LeO.ite ?_ ?_
   | refine LeO.bind ?_ (fun _ => ?_)
  ·as_aux_lemma =>
   intro y0 y1 y2 y3
   unfold laws_FnTries.j5
   repeat' first
   | (with_reducible exact ih0 _ _ _ _ _ _ _ _ _ _ _ _ _)
   | (with_reducible exact ih1 _ _ _ _ _ _)
   | (with_reducible exact ih2 _ _ _ _ _ _ _)
   | (with_reducible exact ih3 _ _ _ _ _ _ _ _)
   | (with_reducible exact ih4 _ _ _ _)
   | (with_reducible exact ih5 _ _ _ _)
   | (with_reducible exact impl_AddTry.mono _ _ _ _ _)
   | (with_reducible exact impl_AreTries.mono _ _)
   | (with_reducible exact impl_CueState.mono _ _ _)
   | (with_reducible exact impl_NextTry.mono _ _ _)
   | (with_reducible exact impl_TriesOf.mono _ _ _)
   | (with_reducible exact laws_likeInts.mono _ _ _)
   | (with_reducible exact laws_likeTries.mono _ _ _)
   | (with_reducible exact spec_AddTry.mono _ _ _ _ _)
   | (with_reducible exact spec_DrawAddTry.mono _ _)
   | (with_reducible exact spec_DrawNextTry.mono _ _)
   | (with_reducible exact spec_NextTry.mono _ _ _)
   | (with_reducible exact spec_TriesOf.mono _ _ _)
   | (with_reducible exact LeO.refl _)
   | (with_reducible exact LeO.none _)
   | (with_reducible refine LeO.ite ?_ ?_)
   | (with_reducible refine LeO.bind ?_ (fun _ => ?_))
   | exact ih0 _ _ _ _ _ _ _ _ _ _ _ _ _
   | exact ih1 _ _ _ _ _ _
   | exact ih2 _ _ _ _ _ _ _
   | exact ih3 _ _ _ _ _ _ _ _
   | exact ih4 _ _ _ _
   | exact ih5 _ _ _ _
   | exact impl_AddTry.mono _ _ _ _ _
   | exact impl_AreTries.mono _ _
   | exact impl_CueState.mono _ _ _
   | exact impl_NextTry.mono _ _ _
   | exact impl_TriesOf.mono _ _ _
   | exact laws_likeInts.mono _ _ _
   | exact laws_likeTries.mono _ _ _
   | exact spec_AddTry.mono _ _ _ _ _
   | exact spec_DrawAddTry.mono _ _
   | exact spec_DrawNextTry.mono _ _
   | exact spec_NextTry.mono _ _ _
   | exact spec_TriesOf.mono _ _ _
   | exact LeO.none _
   | refine LeO.ite ?_ ?_
   | refine LeO.bind ?_ (fun _ => ?_)
theorem laws_FnTries.mono : ∀ a0 k, LeO (laws_FnTries.f k a0) (laws_FnTries.f (k + 1) a0) := by
 intro a0 k
 obtain ⟨ih0, ih1, ih2, ih3, ih4, ih5⟩ := laws_FnTries.mono_l k
 unfold laws_FnTries.f
 repeat' first
   | (with_reducible exact ih0 _ _ _ _ _ _ _ _ _ _ _ _ _)
   | (with_reducible exact ih1 _ _ _ _ _ _)
   | (with_reducible exact ih2 _ _ _ _ _ _ _)
   | (with_reducible exact ih3 _ _ _ _ _ _ _ _)
   | (with_reducible exact ih4 _ _ _ _)
   | (with_reducible exact ih5 _ _ _ _)
   | (with_reducible exact impl_AddTry.mono _ _ _ _ _)
   | (with_reducible exact impl_AreTries.mono _ _)
   | (with_reducible exact impl_CueState.mono _ _ _)
   | (with_reducible exact impl_NextTry.mono _ _ _)
   | (with_reducible exact impl_TriesOf.mono _ _ _)
   | (with_reducible exact laws_likeInts.mono _ _ _)
   | (with_reducible exact laws_likeTries.mono _ _ _)
   | (with_reducible exact spec_AddTry.mono _ _ _ _ _)
   | (with_reducible exact spec_DrawAddTry.mono _ _)
   | (with_reducible exact spec_DrawNextTry.mono _ _)
   | (with_reducible exact spec_NextTry.mono _ _ _)
   | (with_reducible exact spec_TriesOf.mono _ _ _)
   | (with_reducible exact LeO.refl _)
   | (with_reducible exact LeO.none _)
   | (with_reducible refine LeO.ite ?_ ?_)
   | (with_reducible refine LeO.bind ?_ (fun _ => ?_))
   | exact ih0 _ _ _ _ _ _ _ _ _ _ _ _ _
   | exact ih1 _ _ _ _ _ _
   | exact ih2 _ _ _ _ _ _ _
   | exact ih3 _ _ _ _ _ _ _ _
   | exact ih4 _ _ _ _
   | exact ih5 _ _ _ _
   | exact impl_AddTry.mono _ _ _ _ _
   | exact impl_AreTries.mono _ _
   | exact impl_CueState.mono _ _ _
   | exact impl_NextTry.mono _ _ _
   | exact impl_TriesOf.mono _ _ _
   | exact laws_likeInts.mono _ _ _
   | exact laws_likeTries.mono _ _ _
   | exact spec_AddTry.mono _ _ _ _ _
   | exact spec_DrawAddTry.mono _ _
   | exact spec_DrawNextTry.mono _ _
   | exact spec_NextTry.mono _ _ _
   | exact spec_TriesOf.mono _ _ _
   | exact LeO.none _
   | refine LeO.ite ?_ ?_
   | refine LeO.bind ?_ (fun _ => ?_)
set_option maxHeartbeats 8000000 in
set_option maxRecDepth 100000 in
theorem laws_FnTries.calls (k : Nat) (A0 : Option Addr) (c0 : Nat) (l0 : List Int) (r : Bool) (w : World) (hr0 : Kd.C (Kd.int .u8) w A0 l0.length l0) (hc0 : l0.length ≤ c0) (h : laws_FnTries.f k l0 = some r) :
  Calls Try.prog 11 #[.slice A0 l0.length c0] w fun e w' => e = .returned (.bool r) ∧ Below w.heap.size w w' := by
 have hu36 := Try.underlying36
 have HR0 := jA hr0
 have HC0 := jA hc0
 clear hr0 hc0
 have HB := jA (Below.refl w.heap.size w)
 have H : ((laws_big.f l0).bind fun t383 => (if t383 = true then (some true) else ((spec_DrawNextTry.f k l0).bind fun bt384 => ((impl_NextTry.f k bt384.1 bt384.2).bind fun bt388 => ((spec_NextTry.f k bt384.1 bt384.2).bind fun bt390 => ((spec_DrawAddTry.f k l0).bind fun bt392 => ((impl_AddTry.f k bt392.1 bt392.2.1 bt392.2.2.1 bt392.2.2.2).bind fun bt399 => ((spec_AddTry.f k bt392.1 bt392.2.1 bt392.2.2.1 bt392.2.2.2).bind fun bt403 => ((impl_TriesOf.f k bt384.1 bt384.2).bind fun bt407 => ((spec_TriesOf.f k bt384.1 bt384.2).bind fun bt411 => (if bt388.2 = bt390.2 then (if bt388.1 = bt390.1 then (if bt399.2 = bt403.2 then ((laws_likeTries.f k bt399.1 bt403.1).bind fun t415 => (if t415 = true then (if bt407.2 = bt411.2 then ((laws_likeInts.f k bt407.1 bt411.1).bind fun t416 => (if t416 = true then ((impl_AreTries.f k bt384.1).bind fun t417 => (laws_FnTries.j0 k bt384.1 bt384.2 bt388.1 bt388.2 bt392.1 bt399.1 bt399.2 bt407.1 bt407.2 (t417 != (bt390.2 != 1)) bt392.2.1 bt392.2.2.1 bt392.2.2.2)) else (laws_FnTries.j0 k bt384.1 bt384.2 bt388.1 bt388.2 bt392.1 bt399.1 bt399.2 bt407.1 bt407.2 true bt392.2.1 bt392.2.2.1 bt392.2.2.2))) else (laws_FnTries.j0 k bt384.1 bt384.2 bt388.1 bt388.2 bt392.1 bt399.1 bt399.2 bt407.1 bt407.2 true bt392.2.1 bt392.2.2.1 bt392.2.2.2)) else (laws_FnTries.j0 k bt384.1 bt384.2 bt388.1 bt388.2 bt392.1 bt399.1 bt399.2 bt407.1 bt407.2 true bt392.2.1 bt392.2.2.1 bt392.2.2.2))) else (laws_FnTries.j0 k bt384.1 bt384.2 bt388.1 bt388.2 bt392.1 bt399.1 bt399.2 bt407.1 bt407.2 true bt392.2.1 bt392.2.2.1 bt392.2.2.2)) else (laws_FnTries.j0 k bt384.1 bt384.2 bt388.1 bt388.2 bt392.1 bt399.1 bt399.2 bt407.1 bt407.2 true bt392.2.1 bt392.2.2.1 bt392.2.2.2)) else (laws_FnTries.j0 k bt384.1 bt384.2 bt388.1 bt388.2 bt392.1 bt399.1 bt399.2 bt407.1 bt407.2 true bt392.2.1 bt392.2.2.1 bt392.2.2.2)))))))))))) = some r := h
 clear h
 replace H := jG.mp H
 obtain ⟨t383, A20, H⟩ := H
 replace H : (if t383 = true then (some true) else ((spec_DrawNextTry.f k l0).bind fun bt384 => ((impl_NextTry.f k bt384.1 bt384.2).bind fun bt388 => ((spec_NextTry.f k bt384.1 bt384.2).bind fun bt390 => ((spec_DrawAddTry.f k l0).bind fun bt392 => ((impl_AddTry.f k bt392.1 bt392.2.1 bt392.2.2.1 bt392.2.2.2).bind fun bt399 => ((spec_AddTry.f k bt392.1 bt392.2.1 bt392.2.2.1 bt392.2.2.2).bind fun bt403 => ((impl_TriesOf.f k bt384.1 bt384.2).bind fun bt407 => ((spec_TriesOf.f k bt384.1 bt384.2).bind fun bt411 => (if bt388.2 = bt390.2 then (if bt388.1 = bt390.1 then (if bt399.2 = bt403.2 then ((laws_likeTries.f k bt399.1 bt403.1).bind fun t415 => (if t415 = true then (if bt407.2 = bt411.2 then ((laws_likeInts.f k bt407.1 bt411.1).bind fun t416 => (if t416 = true then ((impl_AreTries.f k bt384.1).bind fun t417 => (laws_FnTries.j0 k bt384.1 bt384.2 bt388.1 bt388.2 bt392.1 bt399.1 bt399.2 bt407.1 bt407.2 (t417 != (bt390.2 != 1)) bt392.2.1 bt392.2.2.1 bt392.2.2.2)) else (laws_FnTries.j0 k bt384.1 bt384.2 bt388.1 bt388.2 bt392.1 bt399.1 bt399.2 bt407.1 bt407.2 true bt392.2.1 bt392.2.2.1 bt392.2.2.2))) else (laws_FnTries.j0 k bt384.1 bt384.2 bt388.1 bt388.2 bt392.1 bt399.1 bt399.2 bt407.1 bt407.2 true bt392.2.1 bt392.2.2.1 bt392.2.2.2)) else (laws_FnTries.j0 k bt384.1 bt384.2 bt388.1 bt388.2 bt392.1 bt399.1 bt399.2 bt407.1 bt407.2 true bt392.2.1 bt392.2.2.1 bt392.2.2.2))) else (laws_FnTries.j0 k bt384.1 bt384.2 bt388.1 bt388.2 bt392.1 bt399.1 bt399.2 bt407.1 bt407.2 true bt392.2.1 bt392.2.2.1 bt392.2.2.2)) else (laws_FnTries.j0 k bt384.1 bt384.2 bt388.1 bt388.2 bt392.1 bt399.1 bt399.2 bt407.1 bt407.2 true bt392.2.1 bt392.2.2.1 bt392.2.2.2)) else (laws_FnTries.j0 k bt384.1 bt384.2 bt388.1 bt388.2 bt392.1 bt399.1 bt399.2 bt407.1 bt407.2 true bt392.2.1 bt392.2.2.1 bt392.2.2.2))))))))))) = some r := H
 have A2 := jA A20
 clear A20
 by_cases c3 : t383 = true
 ·subst c3
  have H1 : (some true) = some r := by rw [if_pos rfl] at H; exact H
  clear H
  have H := H1
  clear H1
  obtain rfl := je H
  go_enter Try.func11, Try.ntmps11
  go_wp2_with (first | (go_at_call 39; (with_reducible refine (laws_big.calls _ _ l0 true _ ?side1 ?side2 A2.out).mono ?_); (case side1 => repeat (first | exact HR0.out | (with_reducible refine jN ?_ _) | (with_reducible refine jM ?_ _) | (with_reducible refine jT ?_))); (case side2 => exact HC0.out); rintro e w' ⟨rfl, ⟨nd, rfl⟩⟩; (try first | exact ⟨rfl, _, World.drewN_drewN _ _ _⟩ | exact ⟨rfl, _, Eq.trans (World.drewN_drewN _ _ _) (congrArg (World.drewN _) (Nat.add_assoc _ _ _))⟩)))
  repeat (go_quiet (first | (go_at_call 39; (with_reducible refine (laws_big.calls _ _ l0 true _ ?side1 ?side2 A2.out).mono ?_); (case side1 => repeat (first | exact HR0.out | (with_reducible refine jN ?_ _) | (with_reducible refine jM ?_ _) | (with_reducible refine jT ?_))); (case side2 => exact HC0.out); rintro e w' ⟨rfl, ⟨nd, rfl⟩⟩; (try first | exact ⟨rfl, _, World.drewN_drewN _ _ _⟩ | exact ⟨rfl, _, Eq.trans (World.drewN_drewN _ _ _) (congrArg (World.drewN _) (Nat.add_assoc _ _ _))⟩))); try go_wp2_with (first | (go_at_call 39; (with_reducible refine (laws_big.calls _ _ l0 true _ ?side1 ?side2 A2.out).mono ?_); (case side1 => repeat (first | exact HR0.out | (with_reducible refine jN ?_ _) | (with_reducible refine jM ?_ _) | (with_reducible refine jT ?_))); (case side2 => exact HC0.out); rintro e w' ⟨rfl, ⟨nd, rfl⟩⟩; (try first | exact ⟨rfl, _, World.drewN_drewN _ _ _⟩ | exact ⟨rfl, _, Eq.trans (World.drewN_drewN _ _ _) (congrArg (World.drewN _) (Nat.add_assoc _ _ _))⟩))))
  go_ret
  exact ⟨by first | rfl | (simp [errW_none, errW_some] <;> rfl) | (simp [*, errW_none, errW_some] <;> rfl), zb0 HB⟩
 ·as_aux_lemma =>
  replace c3 := Bool.eq_false_iff.mpr c3
  subst c3
  have H1 : ((spec_DrawNextTry.f k l0).bind fun bt384 => ((impl_NextTry.f k bt384.1 bt384.2).bind fun bt388 => ((spec_NextTry.f k bt384.1 bt384.2).bind fun bt390 => ((spec_DrawAddTry.f k l0).bind fun bt392 => ((impl_AddTry.f k bt392.1 bt392.2.1 bt392.2.2.1 bt392.2.2.2).bind fun bt399 => ((spec_AddTry.f k bt392.1 bt392.2.1 bt392.2.2.1 bt392.2.2.2).bind fun bt403 => ((impl_TriesOf.f k bt384.1 bt384.2).bind fun bt407 => ((spec_TriesOf.f k bt384.1 bt384.2).bind fun bt411 => (if bt388.2 = bt390.2 then (if bt388.1 = bt390.1 then (if bt399.2 = bt403.2 then ((laws_likeTries.f k bt399.1 bt403.1).bind fun t415 => (if t415 = true then (if bt407.2 = bt411.2 then ((laws_likeInts.f k bt407.1 bt411.1).bind fun t416 => (if t416 = true then ((impl_AreTries.f k bt384.1).bind fun t417 => (laws_FnTries.j0 k bt384.1 bt384.2 bt388.1 bt388.2 bt392.1 bt399.1 bt399.2 bt407.1 bt407.2 (t417 != (bt390.2 != 1)) bt392.2.1 bt392.2.2.1 bt392.2.2.2)) else (laws_FnTries.j0 k bt384.1 bt384.2 bt388.1 bt388.2 bt392.1 bt399.1 bt399.2 bt407.1 bt407.2 true bt392.2.1 bt392.2.2.1 bt392.2.2.2))) else (laws_FnTries.j0 k bt384.1 bt384.2 bt388.1 bt388.2 bt392.1 bt399.1 bt399.2 bt407.1 bt407.2 true bt392.2.1 bt392.2.2.1 bt392.2.2.2)) else (laws_FnTries.j0 k bt384.1 bt384.2 bt388.1 bt388.2 bt392.1 bt399.1 bt399.2 bt407.1 bt407.2 true bt392.2.1 bt392.2.2.1 bt392.2.2.2))) else (laws_FnTries.j0 k bt384.1 bt384.2 bt388.1 bt388.2 bt392.1 bt399.1 bt399.2 bt407.1 bt407.2 true bt392.2.1 bt392.2.2.1 bt392.2.2.2)) else (laws_FnTries.j0 k bt384.1 bt384.2 bt388.1 bt388.2 bt392.1 bt399.1 bt399.2 bt407.1 bt407.2 true bt392.2.1 bt392.2.2.1 bt392.2.2.2)) else (laws_FnTries.j0 k bt384.1 bt384.2 bt388.1 bt388.2 bt392.1 bt399.1 bt399.2 bt407.1 bt407.2 true bt392.2.1 bt392.2.2.1 bt392.2.2.2)))))))))) = some r := by rw [if_neg (show ¬ (false = true) by decide)] at H; exact H
  clear H
  have H := H1
  clear H1
  replace H := jG.mp H
  obtain ⟨⟨t384, t385⟩, A40, H⟩ := H
  replace H : ((impl_NextTry.f k t384 t385).bind fun bt388 => ((spec_NextTry.f k t384 t385).bind fun bt390 => ((spec_DrawAddTry.f k l0).bind fun bt392 => ((impl_AddTry.f k bt392.1 bt392.2.1 bt392.2.2.1 bt392.2.2.2).bind fun bt399 => ((spec_AddTry.f k bt392.1 bt392.2.1 bt392.2.2.1 bt392.2.2.2).bind fun bt403 => ((impl_TriesOf.f k t384 t385).bind fun bt407 => ((spec_TriesOf.f k t384 t385).bind fun bt411 => (if bt388.2 = bt390.2 then (if bt388.1 = bt390.1 then (if bt399.2 = bt403.2 then ((laws_likeTries.f k bt399.1 bt403.1).bind fun t415 => (if t415 = true then (if bt407.2 = bt411.2 then ((laws_likeInts.f k bt407.1 bt411.1).bind fun t416 => (if t416 = true then ((impl_AreTries.f k t384).bind fun t417 => (laws_FnTries.j0 k t384 t385 bt388.1 bt388.2 bt392.1 bt399.1 bt399.2 bt407.1 bt407.2 (t417 != (bt390.2 != 1)) bt392.2.1 bt392.2.2.1 bt392.2.2.2)) else (laws_FnTries.j0 k t384 t385 bt388.1 bt388.2 bt392.1 bt399.1 bt399.2 bt407.1 bt407.2 true bt392.2.1 bt392.2.2.1 bt392.2.2.2))) else (laws_FnTries.j0 k t384 t385 bt388.1 bt388.2 bt392.1 bt399.1 bt399.2 bt407.1 bt407.2 true bt392.2.1 bt392.2.2.1 bt392.2.2.2)) else (laws_FnTries.j0 k t384 t385 bt388.1 bt388.2 bt392.1 bt399.1 bt399.2 bt407.1 bt407.2 true bt392.2.1 bt392.2.2.1 bt392.2.2.2))) else (laws_FnTries.j0 k t384 t385 bt388.1 bt388.2 bt392.1 bt399.1 bt399.2 bt407.1 bt407.2 true bt392.2.1 bt392.2.2.1 bt392.2.2.2)) else (laws_FnTries.j0 k t384 t385 bt388.1 bt388.2 bt392.1 bt399.1 bt399.2 bt407.1 bt407.2 true bt392.2.1 bt392.2.2.1 bt392.2.2.2)) else (laws_FnTries.j0 k t384 t385 bt388.1 bt388.2 bt392.1 bt399.1 bt399.2 bt407.1 bt407.2 true bt392.2.1 bt392.2.2.1 bt392.2.2.2))))))))) = some r := H
  have A4 := jA A40
  clear A40
  replace H := jG.mp H
  obtain ⟨⟨t388, t389⟩, A50, H⟩ := H
  replace H : ((spec_NextTry.f k t384 t385).bind fun bt390 => ((spec_DrawAddTry.f k l0).bind fun bt392 => ((impl_AddTry.f k bt392.1 bt392.2.1 bt392.2.2.1 bt392.2.2.2).bind fun bt399 => ((spec_AddTry.f k bt392.1 bt392.2.1 bt392.2.2.1 bt392.2.2.2).bind fun bt403 => ((impl_TriesOf.f k t384 t385).bind fun bt407 => ((spec_TriesOf.f k t384 t385).bind fun bt411 => (if t389 = bt390.2 then (if t388 = bt390.1 then (if bt399.2 = bt403.2 then ((laws_likeTries.f k bt399.1 bt403.1).bind fun t415 => (if t415 = true then (if bt407.2 = bt411.2 then ((laws_likeInts.f k bt407.1 bt411.1).bind fun t416 => (if t416 = true then ((impl_AreTries.f k t384).bind fun t417 => (laws_FnTries.j0 k t384 t385 t388 t389 bt392.1 bt399.1 bt399.2 bt407.1 bt407.2 (t417 != (bt390.2 != 1)) bt392.2.1 bt392.2.2.1 bt392.2.2.2)) else (laws_FnTries.j0 k t384 t385 t388 t389 bt392.1 bt399.1 bt399.2 bt407.1 bt407.2 true bt392.2.1 bt392.2.2.1 bt392.2.2.2))) else (laws_FnTries.j0 k t384 t385 t388 t389 bt392.1 bt399.1 bt399.2 bt407.1 bt407.2 true bt392.2.1 bt392.2.2.1 bt392.2.2.2)) else (laws_FnTries.j0 k t384 t385 t388 t389 bt392.1 bt399.1 bt399.2 bt407.1 bt407.2 true bt392.2.1 bt392.2.2.1 bt392.2.2.2))) else (laws_FnTries.j0 k t384 t385 t388 t389 bt392.1 bt399.1 bt399.2 bt407.1 bt407.2 true bt392.2.1 bt392.2.2.1 bt392.2.2.2)) else (laws_FnTries.j0 k t384 t385 t388 t389 bt392.1 bt399.1 bt399.2 bt407.1 bt407.2 true bt392.2.1 bt392.2.2.1 bt392.2.2.2)) else (laws_FnTries.j0 k t384 t385 t388 t389 bt392.1 bt399.1 bt399.2 bt407.1 bt407.2 true bt392.2.1 bt392.2.2.1 bt392.2.2.2)))))))) = some r := H
  have A5 := jA A50
  clear A50
  replace H := jG.mp H
  obtain ⟨⟨t390, t391⟩, A60, H⟩ := H
  replace H : ((spec_DrawAddTry.f k l0).bind fun bt392 => ((impl_AddTry.f k bt392.1 bt392.2.1 bt392.2.2.1 bt392.2.2.2).bind fun bt399 => ((spec_AddTry.f k bt392.1 bt392.2.1 bt392.2.2.1 bt392.2.2.2).bind fun bt403 => ((impl_TriesOf.f k t384 t385).bind fun bt407 => ((spec_TriesOf.f k t384 t385).bind fun bt411 => (if t389 = t391 then (if t388 = t390 then (if bt399.2 = bt403.2 then ((laws_likeTries.f k bt399.1 bt403.1).bind fun t415 => (if t415 = true then (if bt407.2 = bt411.2 then ((laws_likeInts.f k bt407.1 bt411.1).bind fun t416 => (if t416 = true then ((impl_AreTries.f k t384).bind fun t417 => (laws_FnTries.j0 k t384 t385 t388 t389 bt392.1 bt399.1 bt399.2 bt407.1 bt407.2 (t417 != (t391 != 1)) bt392.2.1 bt392.2.2.1 bt392.2.2.2)) else (laws_FnTries.j0 k t384 t385 t388 t389 bt392.1 bt399.1 bt399.2 bt407.1 bt407.2 true bt392.2.1 bt392.2.2.1 bt392.2.2.2))) else (laws_FnTries.j0 k t384 t385 t388 t389 bt392.1 bt399.1 bt399.2 bt407.1 bt407.2 true bt392.2.1 bt392.2.2.1 bt392.2.2.2)) else (laws_FnTries.j0 k t384 t385 t388 t389 bt392.1 bt399.1 bt399.2 bt407.1 bt407.2 true bt392.2.1 bt392.2.2.1 bt392.2.2.2))) else (laws_FnTries.j0 k t384 t385 t388 t389 bt392.1 bt399.1 bt399.2 bt407.1 bt407.2 true bt392.2.1 bt392.2.2.1 bt392.2.2.2)) else (laws_FnTries.j0 k t384 t385 t388 t389 bt392.1 bt399.1 bt399.2 bt407.1 bt407.2 true bt392.2.1 bt392.2.2.1 bt392.2.2.2)) else (laws_FnTries.j0 k t384 t385 t388 t389 bt392.1 bt399.1 bt399.2 bt407.1 bt407.2 true bt392.2.1 bt392.2.2.1 bt392.2.2.2))))))) = some r := H
  have A6 := jA A60
  clear A60
  replace H := jG.mp H
  obtain ⟨⟨t392, t395, t396, t397⟩, A70, H⟩ := H
  replace H : ((impl_AddTry.f k t392 t395 t396 t397).bind fun bt399 => ((spec_AddTry.f k t392 t395 t396 t397).bind fun bt403 => ((impl_TriesOf.f k t384 t385).bind fun bt407 => ((spec_TriesOf.f k t384 t385).bind fun bt411 => (if t389 = t391 then (if t388 = t390 then (if bt399.2 = bt403.2 then ((laws_likeTries.f k bt399.1 bt403.1).bind fun t415 => (if t415 = true then (if bt407.2 = bt411.2 then ((laws_likeInts.f k bt407.1 bt411.1).bind fun t416 => (if t416 = true then ((impl_AreTries.f k t384).bind fun t417 => (laws_FnTries.j0 k t384 t385 t388 t389 t392 bt399.1 bt399.2 bt407.1 bt407.2 (t417 != (t391 != 1)) t395 t396 t397)) else (laws_FnTries.j0 k t384 t385 t388 t389 t392 bt399.1 bt399.2 bt407.1 bt407.2 true t395 t396 t397))) else (laws_FnTries.j0 k t384 t385 t388 t389 t392 bt399.1 bt399.2 bt407.1 bt407.2 true t395 t396 t397)) else (laws_FnTries.j0 k t384 t385 t388 t389 t392 bt399.1 bt399.2 bt407.1 bt407.2 true t395 t396 t397))) else (laws_FnTries.j0 k t384 t385 t388 t389 t392 bt399.1 bt399.2 bt407.1 bt407.2 true t395 t396 t397)) else (laws_FnTries.j0 k t384 t385 t388 t389 t392 bt399.1 bt399.2 bt407.1 bt407.2 true t395 t396 t397)) else (laws_FnTries.j0 k t384 t385 t388 t389 t392 bt399.1 bt399.2 bt407.1 bt407.2 true t395 t396 t397)))))) = some r := H
  have A7 := jA A70
  clear A70
  replace H := jG.mp H
  obtain ⟨⟨t399, t402⟩, A80, H⟩ := H
  replace H : ((spec_AddTry.f k t392 t395 t396 t397).bind fun bt403 => ((impl_TriesOf.f k t384 t385).bind fun bt407 => ((spec_TriesOf.f k t384 t385).bind fun bt411 => (if t389 = t391 then (if t388 = t390 then (if t402 = bt403.2 then ((laws_likeTries.f k t399 bt403.1).bind fun t415 => (if t415 = true then (if bt407.2 = bt411.2 then ((laws_likeInts.f k bt407.1 bt411.1).bind fun t416 => (if t416 = true then ((impl_AreTries.f k t384).bind fun t417 => (laws_FnTries.j0 k t384 t385 t388 t389 t392 t399 t402 bt407.1 bt407.2 (t417 != (t391 != 1)) t395 t396 t397)) else (laws_FnTries.j0 k t384 t385 t388 t389 t392 t399 t402 bt407.1 bt407.2 true t395 t396 t397))) else (laws_FnTries.j0 k t384 t385 t388 t389 t392 t399 t402 bt407.1 bt407.2 true t395 t396 t397)) else (laws_FnTries.j0 k t384 t385 t388 t389 t392 t399 t402 bt407.1 bt407.2 true t395 t396 t397))) else (laws_FnTries.j0 k t384 t385 t388 t389 t392 t399 t402 bt407.1 bt407.2 true t395 t396 t397)) else (laws_FnTries.j0 k t384 t385 t388 t389 t392 t399 t402 bt407.1 bt407.2 true t395 t396 t397)) else (laws_FnTries.j0 k t384 t385 t388 t389 t392 t399 t402 bt407.1 bt407.2 true t395 t396 t397))))) = some r := H
  have A8 := jA A80
  clear A80
  replace H := jG.mp H
  obtain ⟨⟨t403, t406⟩, A90, H⟩ := H
  replace H : ((impl_TriesOf.f k t384 t385).bind fun bt407 => ((spec_TriesOf.f k t384 t385).bind fun bt411 => (if t389 = t391 then (if t388 = t390 then (if t402 = t406 then ((laws_likeTries.f k t399 t403).bind fun t415 => (if t415 = true then (if bt407.2 = bt411.2 then ((laws_likeInts.f k bt407.1 bt411.1).bind fun t416 => (if t416 = true then ((impl_AreTries.f k t384).bind fun t417 => (laws_FnTries.j0 k t384 t385 t388 t389 t392 t399 t402 bt407.1 bt407.2 (t417 != (t391 != 1)) t395 t396 t397)) else (laws_FnTries.j0 k t384 t385 t388 t389 t392 t399 t402 bt407.1 bt407.2 true t395 t396 t397))) else (laws_FnTries.j0 k t384 t385 t388 t389 t392 t399 t402 bt407.1 bt407.2 true t395 t396 t397)) else (laws_FnTries.j0 k t384 t385 t388 t389 t392 t399 t402 bt407.1 bt407.2 true t395 t396 t397))) else (laws_FnTries.j0 k t384 t385 t388 t389 t392 t399 t402 bt407.1 bt407.2 true t395 t396 t397)) else (laws_FnTries.j0 k t384 t385 t388 t389 t392 t399 t402 bt407.1 bt407.2 true t395 t396 t397)) else (laws_FnTries.j0 k t384 t385 t388 t389 t392 t399 t402 bt407.1 bt407.2 true t395 t396 t397)))) = some r := H
  have A9 := jA A90
  clear A90
  replace H := jG.mp H
  obtain ⟨⟨t407, t408⟩, A100, H⟩ := H
  replace H : ((spec_TriesOf.f k t384 t385).bind fun bt411 => (if t389 = t391 then (if t388 = t390 then (if t402 = t406 then ((laws_likeTries.f k t399 t403).bind fun t415 => (if t415 = true then (if t408 = bt411.2 then ((laws_likeInts.f k t407 bt411.1).bind fun t416 => (if t416 = true then ((impl_AreTries.f k t384).bind fun t417 => (laws_FnTries.j0 k t384 t385 t388 t389 t392 t399 t402 t407 t408 (t417 != (t391 != 1)) t395 t396 t397)) else (laws_FnTries.j0 k t384 t385 t388 t389 t392 t399 t402 t407 t408 true t395 t396 t397))) else (laws_FnTries.j0 k t384 t385 t388 t389 t392 t399 t402 t407 t408 true t395 t396 t397)) else (laws_FnTries.j0 k t384 t385 t388 t389 t392 t399 t402 t407 t408 true t395 t396 t397))) else (laws_FnTries.j0 k t384 t385 t388 t389 t392 t399 t402 t407 t408 true t395 t396 t397)) else (laws_FnTries.j0 k t384 t385 t388 t389 t392 t399 t402 t407 t408 true t395 t396 t397)) else (laws_FnTries.j0 k t384 t385 t388 t389 t392 t399 t402 t407 t408 true t395 t396 t397))) = some r := H
  have A10 := jA A100
  clear A100
  replace H := jG.mp H
  obtain ⟨⟨t411, t412⟩, A110, H⟩ := H
  replace H : (if t389 = t391 then (if t388 = t390 then (if t402 = t406 then ((laws_likeTries.f k t399 t403).bind fun t415 => (if t415 = true then (if t408 = t412 then ((laws_likeInts.f k t407 t411).bind fun t416 => (if t416 = true then ((impl_AreTries.f k t384).bind fun t417 => (laws_FnTries.j0 k t384 t385 t388 t389 t392 t399 t402 t407 t408 (t417 != (t391 != 1)) t395 t396 t397)) else (laws_FnTries.j0 k t384 t385 t388 t389 t392 t399 t402 t407 t408 true t395 t396 t397))) else (laws_FnTries.j0 k t384 t385 t388 t389 t392 t399 t402 t407 t408 true t395 t396 t397)) else (laws_FnTries.j0 k t384 t385 t388 t389 t392 t399 t402 t407 t408 true t395 t396 t397))) else (laws_FnTries.j0 k t384 t385 t388 t389 t392 t399 t402 t407 t408 true t395 t396 t397)) else (laws_FnTries.j0 k t384 t385 t388 t389 t392 t399 t402 t407 t408 true t395 t396 t397)) else (laws_FnTries.j0 k t384 t385 t388 t389 t392 t399 t402 t407 t408 true t395 t396 t397)) = some r := H
  have A11 := jA A110
  clear A110
  have HC12 := jA H
  clear H
  go_enter Try.func11, Try.ntmps11
  go_upto_region 11 with (first | (go_at_call 39; (with_reducible refine (laws_big.calls _ _ l0 false _ ?side1 ?side2 A2.out).mono ?_); (case side1 => repeat (first | exact HR0.out | (with_reducible refine jN ?_ _) | (with_reducible refine jM ?_ _) | (with_reducible refine jT ?_))); (case side2 => exact HC0.out); rintro e w' ⟨rfl, ⟨nd, rfl⟩⟩; (try first | exact ⟨rfl, _, World.drewN_drewN _ _ _⟩ | exact ⟨rfl, _, Eq.trans (World.drewN_drewN _ _ _) (congrArg (World.drewN _) (Nat.add_assoc _ _ _))⟩)) | (go_at_call 40; (with_reducible refine (spec_DrawNextTry.calls k _ _ l0 t384 t385 _ ?side1 ?side2 A4.out).mono ?_); (case side1 => repeat (first | exact HR0.out | (with_reducible refine jN ?_ _) | (with_reducible refine jM ?_ _) | (with_reducible refine jT ?_))); (case side2 => exact HC0.out); rintro e w13 ⟨v386, rfl, ho0, hb⟩; have n0_ := jA (jc ho0 (jP (zb0 HB))); have n1_ := jA (jH (zb0 HB) hb); clear HB; have HO387 := n0_; have HB := n1_; clear n0_ n1_; (try clear hb); (try clear hb2); (try clear hk); (try clear hi); (try clear ho0); obtain ⟨Ao14, co14, eo14⟩ := Kd.R_slice HO387.out; subst eo14) | (go_at_call 29; (with_reducible refine (impl_NextTry.calls k _ _ t384 t385 t388 t389 _ ?side1 ?side2 A5.out).mono ?_); (case side1 => repeat (first | exact (jD HO387.out).2.2 | (with_reducible refine jN ?_ _) | (with_reducible refine jM ?_ _) | (with_reducible refine jT ?_))); (case side2 => exact (jD HO387.out).2.1); rintro e w15 ⟨rfl, hb⟩; have n0_ := jA (jK (zo HO387) hb); have n1_ := jA (jH (zb0 HB) hb); clear HO387; clear HB; have HO387 := n0_; have HB := n1_; clear n0_ n1_; (try clear hb); (try clear hb2); (try clear hk); (try clear hi)) | (go_at_call 28; (with_reducible refine (spec_NextTry.calls k _ _ t384 t385 t390 t391 _ ?side1 ?side2 A6.out).mono ?_); (case side1 => repeat (first | exact (jD HO387.out).2.2 | (with_reducible refine jN ?_ _) | (with_reducible refine jM ?_ _) | (with_reducible refine jT ?_))); (case side2 => exact (jD HO387.out).2.1); rintro e w16 ⟨rfl, hb⟩; have n0_ := jA (jK (zo HO387) hb); have n1_ := jA (jH (zb0 HB) hb); clear HO387; clear HB; have HO387 := n0_; have HB := n1_; clear n0_ n1_; (try clear hb); (try clear hb2); (try clear hk); (try clear hi)) | (go_at_call 41; (with_reducible refine (spec_DrawAddTry.calls k _ _ l0 t392 t395 t396 t397 _ ?side1 ?side2 A7.out).mono ?_); (case side1 => exact zs HR0 HB); (case side2 => exact HC0.out); rintro e w17 ⟨v393, rfl, ho0, hb⟩; have n0_ := jA (Kd.R_elder' (zo HO387) (Kd.R_base ho0) hb); have n1_ := jA (jc (Kd.R_new' ho0 (Kd.R_lt (zo HO387))) (jP (zb0 HB))); have n2_ := jA (jH (zb0 HB) hb); clear HO387; clear HB; have HO387 := n0_; have HO394 := n1_; have HB := n2_; clear n0_ n1_ n2_; (try clear hb); (try clear hb2); (try clear hk); (try clear hi); (try clear ho0)) | ((with_reducible refine gate_dst (N := 10) rfl ?_); (try (refine gate_guard (by rfl) ?_; dsimp only)); refine box_event ?hg (N := 10) ?hd (cs := #[.int .i64 0, .int .i64 0, .bool false]) (t := 36) ?hr ?_; (case hd => rfl); (case hg => rfl); (case hr => first | (go_simp; done) | (go_simp; rfl)); intro gb398 hg w18 hbox hb; have n0_ := jA (jK (Kd.R_elderB (zo HO387) gb398 (Nat.le_of_eq hg.symm)) hb); have n1_ := jA (jK (Kd.R_elderB (zo HO394) gb398 (Nat.le_of_eq hg.symm)) hb); have n2_ := jA (jH (zb0 HB) hb); have n3_ := jA (hbox); have n4_ := jA ((by rw [hg]; exact (jP (zb0 HB)) : w.heap.size ≤ gb398)); have n5_ := jA ((by rw [hg]; exact (jP (zb0 HB)) : w.heap.size ≤ gb398)); clear HO387; clear HO394; clear HB; have HO387 := n0_; have HO394 := n1_; have HB := n2_; have BK398 := n3_; have GW398 := n4_; have GE398 := n5_; clear n0_ n1_ n2_ n3_ n4_ n5_; clear hb hbox hg; have hcz19_0 : w18.cell? ⟨gb398, 0, none⟩ = some (.int .i64 0) := (jC BK398.out 0).trans rfl; have hcz19_1 : w18.cell? ⟨gb398, 1, none⟩ = some (.int .i64 0) := (jC BK398.out 1).trans rfl; have hcz19_2 : w18.cell? ⟨gb398, 2, none⟩ = some (.bool false) := (jC BK398.out 2).trans rfl; have hfz19_0 := jd BK398.out 0; have hfz19_1 := jd BK398.out 1; have hfz19_2 := jd BK398.out 2; obtain ⟨Ao20, co20, eo20⟩ := Kd.R_slice HO394.out; subst eo20) | (go_at_call 24; (with_reducible refine (impl_AddTry.calls k _ _ t392 t395 t396 t397 t399 t402 _ ?side1 ?side2 A8.out).mono ?_); (case side1 => refine (jD (e := 36) (base := w.heap.size) (ok := fun k_ => ((True ∧ some k_ ≠ (.slice Ao14 t384.length co14 : Value).ownBlock) ∧ k_ ≠ gb398)) (n := t392.length) (c := co20) ?_).2.2; exact (by (with_reducible repeat (first | apply jR | apply jQ | apply jS)); exact (Kd.R_mono (Kd.R_far (p := ⟨gb398, 2, none⟩) (Kd.R_far (p := ⟨gb398, 1, none⟩) (Kd.R_far (p := ⟨gb398, 0, none⟩) (Kd.R_mono HO394.out (fun k_ hk => (⟨hk, hk.2⟩ : _ ∧ k_ ≠ gb398))) (fun _ hk => hk.2) (.int .i64 t395)) (fun _ hk => hk.2) (.int .i64 t396)) (fun _ hk => hk.2) (.bool t397)) (fun _ h_ => h_.1)))); (case side2 => exact (jD HO394.out).2.1); rintro e w21 ⟨v400, rfl, ho0, hb⟩; have n0_ := jA (Kd.R_elder' (by (with_reducible repeat (first | apply jR | apply jQ | apply jS)); exact (Kd.R_mono (Kd.R_far (p := ⟨gb398, 2, none⟩) (Kd.R_far (p := ⟨gb398, 1, none⟩) (Kd.R_far (p := ⟨gb398, 0, none⟩) (Kd.R_mono HO387.out (fun k_ hk => (⟨hk, hk.2⟩ : _ ∧ k_ ≠ gb398))) (fun _ hk => hk.2) (.int .i64 t395)) (fun _ hk => hk.2) (.int .i64 t396)) (fun _ hk => hk.2) (.bool t397)) (fun _ h_ => h_.1))) (Kd.R_base ho0) hb); have n1_ := jA (Kd.R_elder' (by (with_reducible repeat (first | apply jR | apply jQ | apply jS)); exact (Kd.R_mono (Kd.R_far (p := ⟨gb398, 2, none⟩) (Kd.R_far (p := ⟨gb398, 1, none⟩) (Kd.R_far (p := ⟨gb398, 0, none⟩) (Kd.R_mono HO394.out (fun k_ hk => (⟨hk, hk.2⟩ : _ ∧ k_ ≠ gb398))) (fun _ hk => hk.2) (.int .i64 t395)) (fun _ hk => hk.2) (.int .i64 t396)) (fun _ hk => hk.2) (.bool t397)) (fun _ h_ => h_.1))) (Kd.R_base ho0) hb); have n2_ := jA (jc (Kd.R_newB (Kd.R_new' (Kd.R_new' ho0 (Kd.R_lt (by (with_reducible repeat (first | apply jR | apply jQ | apply jS)); exact (Kd.R_mono (Kd.R_far (p := ⟨gb398, 2, none⟩) (Kd.R_far (p := ⟨gb398, 1, none⟩) (Kd.R_far (p := ⟨gb398, 0, none⟩) (Kd.R_mono HO387.out (fun k_ hk => (⟨hk, hk.2⟩ : _ ∧ k_ ≠ gb398))) (fun _ hk => hk.2) (.int .i64 t395)) (fun _ hk => hk.2) (.int .i64 t396)) (fun _ hk => hk.2) (.bool t397)) (fun _ h_ => h_.1))))) (Kd.R_lt (by (with_reducible repeat (first | apply jR | apply jQ | apply jS)); exact (Kd.R_mono (Kd.R_far (p := ⟨gb398, 2, none⟩) (Kd.R_far (p := ⟨gb398, 1, none⟩) (Kd.R_far (p := ⟨gb398, 0, none⟩) (Kd.R_mono HO394.out (fun k_ hk => (⟨hk, hk.2⟩ : _ ∧ k_ ≠ gb398))) (fun _ hk => hk.2) (.int .i64 t395)) (fun _ hk => hk.2) (.int .i64 t396)) (fun _ hk => hk.2) (.bool t397)) (fun _ h_ => h_.1))))) (g := gb398) (o := .cells #[.int .i64 t395, .int .i64 t396, .bool t397] 36 (0, 0)) (by (with_reducible repeat (first | refine jX ?_ _ | refine jW ?_ | refine jY ?_ _)); refine blk_put (cs := #[.int .i64 t395, .int .i64 t396, .bool false]) ?_ 2 _ rfl; (with_reducible repeat (first | refine jX ?_ _ | refine jW ?_ | refine jY ?_ _)); refine blk_put (cs := #[.int .i64 t395, .int .i64 0, .bool false]) ?_ 1 _ rfl; (with_reducible repeat (first | refine jX ?_ _ | refine jW ?_ | refine jY ?_ _)); refine blk_put (cs := #[.int .i64 0, .int .i64 0, .bool false]) ?_ 0 _ rfl; (with_reducible repeat (first | refine jX ?_ _ | refine jW ?_ | refine jY ?_ _)); exact BK398.out)) (jP (zb1 HB GE398))); have n3_ := jA (jb (g := gb398) (o := .cells #[.int .i64 t395, .int .i64 t396, .bool t397] 36 (0, 0)) (by (with_reducible repeat (first | refine jX ?_ _ | refine jW ?_ | refine jY ?_ _)); refine blk_put (cs := #[.int .i64 t395, .int .i64 t396, .bool false]) ?_ 2 _ rfl; (with_reducible repeat (first | refine jX ?_ _ | refine jW ?_ | refine jY ?_ _)); refine blk_put (cs := #[.int .i64 t395, .int .i64 0, .bool false]) ?_ 1 _ rfl; (with_reducible repeat (first | refine jX ?_ _ | refine jW ?_ | refine jY ?_ _)); refine blk_put (cs := #[.int .i64 0, .int .i64 0, .bool false]) ?_ 0 _ rfl; (with_reducible repeat (first | refine jX ?_ _ | refine jW ?_ | refine jY ?_ _)); exact BK398.out) hb); have n4_ := jA (jH (zb1 HB GE398) hb); clear HO387; clear HO394; clear BK398; clear HB; have HO387 := n0_; have HO394 := n1_; have HO401 := n2_; have BK398 := n3_; have HB := n4_; clear n0_ n1_ n2_ n3_ n4_; (try clear hb); (try clear hb2); (try clear hk); (try clear hi); (try clear ho0); have hcz22_0 : w21.cell? ⟨gb398, 0, none⟩ = some (.int .i64 t395) := (jC BK398.out 0).trans rfl; have hcz22_1 : w21.cell? ⟨gb398, 1, none⟩ = some (.int .i64 t396) := (jC BK398.out 1).trans rfl; have hcz22_2 : w21.cell? ⟨gb398, 2, none⟩ = some (.bool t397) := (jC BK398.out 2).trans rfl; have hfz22_0 := jd BK398.out 0; have hfz22_1 := jd BK398.out 1; have hfz22_2 := jd BK398.out 2) | (go_at_call 22; (with_reducible refine (spec_AddTry.calls k _ _ t392 t395 t396 t397 t403 t406 _ ?side1 ?side2 A9.out).mono ?_); (case side1 => repeat (first | exact (jD HO394.out).2.2 | (with_reducible refine jN ?_ _) | (with_reducible refine jM ?_ _) | (with_reducible refine jT ?_))); (case side2 => exact (jD HO394.out).2.1); rintro e w23 ⟨v404, rfl, ho0, hb⟩; have n0_ := jA (Kd.R_elder' (zo HO387) (Kd.R_base ho0) hb); have n1_ := jA (Kd.R_elder' (zo HO394) (Kd.R_base ho0) hb); have n2_ := jA (Kd.R_elder' (zo HO401) (Kd.R_base ho0) hb); have n3_ := jA (jc (Kd.R_newB (Kd.R_new' (Kd.R_new' (Kd.R_new' ho0 (Kd.R_lt (zo HO387))) (Kd.R_lt (zo HO394))) (Kd.R_lt (zo HO401))) (g := gb398) (o := .cells #[.int .i64 t395, .int .i64 t396, .bool t397] 36 (0, 0)) (zk BK398)) (jP (zb1 HB GE398))); have n4_ := jA (jb (g := gb398) (o := .cells #[.int .i64 t395, .int .i64 t396, .bool t397] 36 (0, 0)) (zk BK398) hb); have n5_ := jA (jH (zb1 HB GE398) hb); clear HO387; clear HO394; clear HO401; clear BK398; clear HB; have HO387 := n0_; have HO394 := n1_; have HO401 := n2_; have HO405 := n3_; have BK398 := n4_; have HB := n5_; clear n0_ n1_ n2_ n3_ n4_ n5_; (try clear hb); (try clear hb2); (try clear hk); (try clear hi); (try clear ho0)) | (go_at_call 31; (with_reducible refine (impl_TriesOf.calls k _ _ t384 t385 t407 t408 _ ?side1 ?side2 A10.out).mono ?_); (case side1 => repeat (first | exact (jD HO387.out).2.2 | (with_reducible refine jN ?_ _) | (with_reducible refine jM ?_ _) | (with_reducible refine jT ?_))); (case side2 => exact (jD HO387.out).2.1); rintro e w24 ⟨v409, rfl, ho0, hb⟩; have n0_ := jA (jK (zo HO387) hb); have n1_ := jA (jK (zo HO394) hb); have n2_ := jA (jK (zo HO401) hb); have n3_ := jA (jK (zo HO405) hb); have n4_ := jA (jc ho0 (jP (zb1 HB GE398))); have n5_ := jA (jb (g := gb398) (o := .cells #[.int .i64 t395, .int .i64 t396, .bool t397] 36 (0, 0)) (zk BK398) hb); have n6_ := jA (jH (zb1 HB GE398) hb); clear HO387; clear HO394; clear HO401; clear HO405; clear BK398; clear HB; have HO387 := n0_; have HO394 := n1_; have HO401 := n2_; have HO405 := n3_; have HO410 := n4_; have BK398 := n5_; have HB := n6_; clear n0_ n1_ n2_ n3_ n4_ n5_ n6_; (try clear hb); (try clear hb2); (try clear hk); (try clear hi); (try clear ho0)) | (go_at_call 30; (with_reducible refine (spec_TriesOf.calls k _ _ t384 t385 t411 t412 _ ?side1 ?side2 A11.out).mono ?_); (case side1 => repeat (first | exact (jD HO387.out).2.2 | (with_reducible refine jN ?_ _) | (with_reducible refine jM ?_ _) | (with_reducible refine jT ?_))); (case side2 => exact (jD HO387.out).2.1); rintro e w25 ⟨v413, rfl, ho0, hb⟩; have n0_ := jA (jK (zo HO387) hb); have n1_ := jA (jK (zo HO394) hb); have n2_ := jA (jK (zo HO401) hb); have n3_ := jA (jK (zo HO405) hb); have n4_ := jA (Kd.R_elder' (zo HO410) (Kd.R_base ho0) hb); have n5_ := jA (jc (Kd.R_new' ho0 (Kd.R_lt (zo HO410))) (jP (zb1 HB GE398))); have n6_ := jA (jb (g := gb398) (o := .cells #[.int .i64 t395, .int .i64 t396, .bool t397] 36 (0, 0)) (zk BK398) hb); have n7_ := jA (jH (zb1 HB GE398) hb); clear HO387; clear HO394; clear HO401; clear HO405; clear HO410; clear BK398; clear HB; have HO387 := n0_; have HO394 := n1_; have HO401 := n2_; have HO405 := n3_; have HO410 := n4_; have HO414 := n5_; have BK398 := n6_; have HB := n7_; clear n0_ n1_ n2_ n3_ n4_ n5_ n6_ n7_; (try clear hb); (try clear hb2); (try clear hk); (try clear hi); (try clear ho0)))
  repeat (go_quiet (first | (go_at_call 39; (with_reducible refine (laws_big.calls _ _ l0 false _ ?side1 ?side2 A2.out).mono ?_); (case side1 => repeat (first | exact HR0.out | (with_reducible refine jN ?_ _) | (with_reducible refine jM ?_ _) | (with_reducible refine jT ?_))); (case side2 => exact HC0.out); rintro e w' ⟨rfl, ⟨nd, rfl⟩⟩; (try first | exact ⟨rfl, _, World.drewN_drewN _ _ _⟩ | exact ⟨rfl, _, Eq.trans (World.drewN_drewN _ _ _) (congrArg (World.drewN _) (Nat.add_assoc _ _ _))⟩)) | (go_at_call 40; (with_reducible refine (spec_DrawNextTry.calls k _ _ l0 t384 t385 _ ?side1 ?side2 A4.out).mono ?_); (case side1 => repeat (first | exact HR0.out | (with_reducible refine jN ?_ _) | (with_reducible refine jM ?_ _) | (with_reducible refine jT ?_))); (case side2 => exact HC0.out); rintro e w13 ⟨v386, rfl, ho0, hb⟩; have n0_ := jA (jc ho0 (jP (zb0 HB))); have n1_ := jA (jH (zb0 HB) hb); clear HB; have HO387 := n0_; have HB := n1_; clear n0_ n1_; (try clear hb); (try clear hb2); (try clear hk); (try clear hi); (try clear ho0); obtain ⟨Ao14, co14, eo14⟩ := Kd.R_slice HO387.out; subst eo14) | (go_at_call 29; (with_reducible refine (impl_NextTry.calls k _ _ t384 t385 t388 t389 _ ?side1 ?side2 A5.out).mono ?_); (case side1 => repeat (first | exact (jD HO387.out).2.2 | (with_reducible refine jN ?_ _) | (with_reducible refine jM ?_ _) | (with_reducible refine jT ?_))); (case side2 => exact (jD HO387.out).2.1); rintro e w15 ⟨rfl, hb⟩; have n0_ := jA (jK (zo HO387) hb); have n1_ := jA (jH (zb0 HB) hb); clear HO387; clear HB; have HO387 := n0_; have HB := n1_; clear n0_ n1_; (try clear hb); (try clear hb2); (try clear hk); (try clear hi)) | (go_at_call 28; (with_reducible refine (spec_NextTry.calls k _ _ t384 t385 t390 t391 _ ?side1 ?side2 A6.out).mono ?_); (case side1 => repeat (first | exact (jD HO387.out).2.2 | (with_reducible refine jN ?_ _) | (with_reducible refine jM ?_ _) | (with_reducible refine jT ?_))); (case side2 => exact (jD HO387.out).2.1); rintro e w16 ⟨rfl, hb⟩; have n0_ := jA (jK (zo HO387) hb); have n1_ := jA (jH (zb0 HB) hb); clear HO387; clear HB; have HO387 := n0_; have HB := n1_; clear n0_ n1_; (try clear hb); (try clear hb2); (try clear hk); (try clear hi)) | (go_at_call 41; (with_reducible refine (spec_DrawAddTry.calls k _ _ l0 t392 t395 t396 t397 _ ?side1 ?side2 A7.out).mono ?_); (case side1 => exact zs HR0 HB); (case side2 => exact HC0.out); rintro e w17 ⟨v393, rfl, ho0, hb⟩; have n0_ := jA (Kd.R_elder' (zo HO387) (Kd.R_base ho0) hb); have n1_ := jA (jc (Kd.R_new' ho0 (Kd.R_lt (zo HO387))) (jP (zb0 HB))); have n2_ := jA (jH (zb0 HB) hb); clear HO387; clear HB; have HO387 := n0_; have HO394 := n1_; have HB := n2_; clear n0_ n1_ n2_; (try clear hb); (try clear hb2); (try clear hk); (try clear hi); (try clear ho0)) | ((with_reducible refine gate_dst (N := 10) rfl ?_); (try (refine gate_guard (by rfl) ?_; dsimp only)); refine box_event ?hg (N := 10) ?hd (cs := #[.int .i64 0, .int .i64 0, .bool false]) (t := 36) ?hr ?_; (case hd => rfl); (case hg => rfl); (case hr => first | (go_simp; done) | (go_simp; rfl)); intro gb398 hg w18 hbox hb; have n0_ := jA (jK (Kd.R_elderB (zo HO387) gb398 (Nat.le_of_eq hg.symm)) hb); have n1_ := jA (jK (Kd.R_elderB (zo HO394) gb398 (Nat.le_of_eq hg.symm)) hb); have n2_ := jA (jH (zb0 HB) hb); have n3_ := jA (hbox); have n4_ := jA ((by rw [hg]; exact (jP (zb0 HB)) : w.heap.size ≤ gb398)); have n5_ := jA ((by rw [hg]; exact (jP (zb0 HB)) : w.heap.size ≤ gb398)); clear HO387; clear HO394; clear HB; have HO387 := n0_; have HO394 := n1_; have HB := n2_; have BK398 := n3_; have GW398 := n4_; have GE398 := n5_; clear n0_ n1_ n2_ n3_ n4_ n5_; clear hb hbox hg; have hcz19_0 : w18.cell? ⟨gb398, 0, none⟩ = some (.int .i64 0) := (jC BK398.out 0).trans rfl; have hcz19_1 : w18.cell? ⟨gb398, 1, none⟩ = some (.int .i64 0) := (jC BK398.out 1).trans rfl; have hcz19_2 : w18.cell? ⟨gb398, 2, none⟩ = some (.bool false) := (jC BK398.out 2).trans rfl; have hfz19_0 := jd BK398.out 0; have hfz19_1 := jd BK398.out 1; have hfz19_2 := jd BK398.out 2; obtain ⟨Ao20, co20, eo20⟩ := Kd.R_slice HO394.out; subst eo20) | (go_at_call 24; (with_reducible refine (impl_AddTry.calls k _ _ t392 t395 t396 t397 t399 t402 _ ?side1 ?side2 A8.out).mono ?_); (case side1 => refine (jD (e := 36) (base := w.heap.size) (ok := fun k_ => ((True ∧ some k_ ≠ (.slice Ao14 t384.length co14 : Value).ownBlock) ∧ k_ ≠ gb398)) (n := t392.length) (c := co20) ?_).2.2; exact (by (with_reducible repeat (first | apply jR | apply jQ | apply jS)); exact (Kd.R_mono (Kd.R_far (p := ⟨gb398, 2, none⟩) (Kd.R_far (p := ⟨gb398, 1, none⟩) (Kd.R_far (p := ⟨gb398, 0, none⟩) (Kd.R_mono HO394.out (fun k_ hk => (⟨hk, hk.2⟩ : _ ∧ k_ ≠ gb398))) (fun _ hk => hk.2) (.int .i64 t395)) (fun _ hk => hk.2) (.int .i64 t396)) (fun _ hk => hk.2) (.bool t397)) (fun _ h_ => h_.1)))); (case side2 => exact (jD HO394.out).2.1); rintro e w21 ⟨v400, rfl, ho0, hb⟩; have n0_ := jA (Kd.R_elder' (by (with_reducible repeat (first | apply jR | apply jQ | apply jS)); exact (Kd.R_mono (Kd.R_far (p := ⟨gb398, 2, none⟩) (Kd.R_far (p := ⟨gb398, 1, none⟩) (Kd.R_far (p := ⟨gb398, 0, none⟩) (Kd.R_mono HO387.out (fun k_ hk => (⟨hk, hk.2⟩ : _ ∧ k_ ≠ gb398))) (fun _ hk => hk.2) (.int .i64 t395)) (fun _ hk => hk.2) (.int .i64 t396)) (fun _ hk => hk.2) (.bool t397)) (fun _ h_ => h_.1))) (Kd.R_base ho0) hb); have n1_ := jA (Kd.R_elder' (by (with_reducible repeat (first | apply jR | apply jQ | apply jS)); exact (Kd.R_mono (Kd.R_far (p := ⟨gb398, 2, none⟩) (Kd.R_far (p := ⟨gb398, 1, none⟩) (Kd.R_far (p := ⟨gb398, 0, none⟩) (Kd.R_mono HO394.out (fun k_ hk => (⟨hk, hk.2⟩ : _ ∧ k_ ≠ gb398))) (fun _ hk => hk.2) (.int .i64 t395)) (fun _ hk => hk.2) (.int .i64 t396)) (fun _ hk => hk.2) (.bool t397)) (fun _ h_ => h_.1))) (Kd.R_base ho0) hb); have n2_ := jA (jc (Kd.R_newB (Kd.R_new' (Kd.R_new' ho0 (Kd.R_lt (by (with_reducible repeat (first | apply jR | apply jQ | apply jS)); exact (Kd.R_mono (Kd.R_far (p := ⟨gb398, 2, none⟩) (Kd.R_far (p := ⟨gb398, 1, none⟩) (Kd.R_far (p := ⟨gb398, 0, none⟩) (Kd.R_mono HO387.out (fun k_ hk => (⟨hk, hk.2⟩ : _ ∧ k_ ≠ gb398))) (fun _ hk => hk.2) (.int .i64 t395)) (fun _ hk => hk.2) (.int .i64 t396)) (fun _ hk => hk.2) (.bool t397)) (fun _ h_ => h_.1))))) (Kd.R_lt (by (with_reducible repeat (first | apply jR | apply jQ | apply jS)); exact (Kd.R_mono (Kd.R_far (p := ⟨gb398, 2, none⟩) (Kd.R_far (p := ⟨gb398, 1, none⟩) (Kd.R_far (p := ⟨gb398, 0, none⟩) (Kd.R_mono HO394.out (fun k_ hk => (⟨hk, hk.2⟩ : _ ∧ k_ ≠ gb398))) (fun _ hk => hk.2) (.int .i64 t395)) (fun _ hk => hk.2) (.int .i64 t396)) (fun _ hk => hk.2) (.bool t397)) (fun _ h_ => h_.1))))) (g := gb398) (o := .cells #[.int .i64 t395, .int .i64 t396, .bool t397] 36 (0, 0)) (by (with_reducible repeat (first | refine jX ?_ _ | refine jW ?_ | refine jY ?_ _)); refine blk_put (cs := #[.int .i64 t395, .int .i64 t396, .bool false]) ?_ 2 _ rfl; (with_reducible repeat (first | refine jX ?_ _ | refine jW ?_ | refine jY ?_ _)); refine blk_put (cs := #[.int .i64 t395, .int .i64 0, .bool false]) ?_ 1 _ rfl; (with_reducible repeat (first | refine jX ?_ _ | refine jW ?_ | refine jY ?_ _)); refine blk_put (cs := #[.int .i64 0, .int .i64 0, .bool false]) ?_ 0 _ rfl; (with_reducible repeat (first | refine jX ?_ _ | refine jW ?_ | refine jY ?_ _)); exact BK398.out)) (jP (zb1 HB GE398))); have n3_ := jA (jb (g := gb398) (o := .cells #[.int .i64 t395, .int .i64 t396, .bool t397] 36 (0, 0)) (by (with_reducible repeat (first | refine jX ?_ _ | refine jW ?_ | refine jY ?_ _)); refine blk_put (cs := #[.int .i64 t395, .int .i64 t396, .bool false]) ?_ 2 _ rfl; (with_reducible repeat (first | refine jX ?_ _ | refine jW ?_ | refine jY ?_ _)); refine blk_put (cs := #[.int .i64 t395, .int .i64 0, .bool false]) ?_ 1 _ rfl; (with_reducible repeat (first | refine jX ?_ _ | refine jW ?_ | refine jY ?_ _)); refine blk_put (cs := #[.int .i64 0, .int .i64 0, .bool false]) ?_ 0 _ rfl; (with_reducible repeat (first | refine jX ?_ _ | refine jW ?_ | refine jY ?_ _)); exact BK398.out) hb); have n4_ := jA (jH (zb1 HB GE398) hb); clear HO387; clear HO394; clear BK398; clear HB; have HO387 := n0_; have HO394 := n1_; have HO401 := n2_; have BK398 := n3_; have HB := n4_; clear n0_ n1_ n2_ n3_ n4_; (try clear hb); (try clear hb2); (try clear hk); (try clear hi); (try clear ho0); have hcz22_0 : w21.cell? ⟨gb398, 0, none⟩ = some (.int .i64 t395) := (jC BK398.out 0).trans rfl; have hcz22_1 : w21.cell? ⟨gb398, 1, none⟩ = some (.int .i64 t396) := (jC BK398.out 1).trans rfl; have hcz22_2 : w21.cell? ⟨gb398, 2, none⟩ = some (.bool t397) := (jC BK398.out 2).trans rfl; have hfz22_0 := jd BK398.out 0; have hfz22_1 := jd BK398.out 1; have hfz22_2 := jd BK398.out 2) | (go_at_call 22; (with_reducible refine (spec_AddTry.calls k _ _ t392 t395 t396 t397 t403 t406 _ ?side1 ?side2 A9.out).mono ?_); (case side1 => repeat (first | exact (jD HO394.out).2.2 | (with_reducible refine jN ?_ _) | (with_reducible refine jM ?_ _) | (with_reducible refine jT ?_))); (case side2 => exact (jD HO394.out).2.1); rintro e w23 ⟨v404, rfl, ho0, hb⟩; have n0_ := jA (Kd.R_elder' (zo HO387) (Kd.R_base ho0) hb); have n1_ := jA (Kd.R_elder' (zo HO394) (Kd.R_base ho0) hb); have n2_ := jA (Kd.R_elder' (zo HO401) (Kd.R_base ho0) hb); have n3_ := jA (jc (Kd.R_newB (Kd.R_new' (Kd.R_new' (Kd.R_new' ho0 (Kd.R_lt (zo HO387))) (Kd.R_lt (zo HO394))) (Kd.R_lt (zo HO401))) (g := gb398) (o := .cells #[.int .i64 t395, .int .i64 t396, .bool t397] 36 (0, 0)) (zk BK398)) (jP (zb1 HB GE398))); have n4_ := jA (jb (g := gb398) (o := .cells #[.int .i64 t395, .int .i64 t396, .bool t397] 36 (0, 0)) (zk BK398) hb); have n5_ := jA (jH (zb1 HB GE398) hb); clear HO387; clear HO394; clear HO401; clear BK398; clear HB; have HO387 := n0_; have HO394 := n1_; have HO401 := n2_; have HO405 := n3_; have BK398 := n4_; have HB := n5_; clear n0_ n1_ n2_ n3_ n4_ n5_; (try clear hb); (try clear hb2); (try clear hk); (try clear hi); (try clear ho0)) | (go_at_call 31; (with_reducible refine (impl_TriesOf.calls k _ _ t384 t385 t407 t408 _ ?side1 ?side2 A10.out).mono ?_); (case side1 => repeat (first | exact (jD HO387.out).2.2 | (with_reducible refine jN ?_ _) | (with_reducible refine jM ?_ _) | (with_reducible refine jT ?_))); (case side2 => exact (jD HO387.out).2.1); rintro e w24 ⟨v409, rfl, ho0, hb⟩; have n0_ := jA (jK (zo HO387) hb); have n1_ := jA (jK (zo HO394) hb); have n2_ := jA (jK (zo HO401) hb); have n3_ := jA (jK (zo HO405) hb); have n4_ := jA (jc ho0 (jP (zb1 HB GE398))); have n5_ := jA (jb (g := gb398) (o := .cells #[.int .i64 t395, .int .i64 t396, .bool t397] 36 (0, 0)) (zk BK398) hb); have n6_ := jA (jH (zb1 HB GE398) hb); clear HO387; clear HO394; clear HO401; clear HO405; clear BK398; clear HB; have HO387 := n0_; have HO394 := n1_; have HO401 := n2_; have HO405 := n3_; have HO410 := n4_; have BK398 := n5_; have HB := n6_; clear n0_ n1_ n2_ n3_ n4_ n5_ n6_; (try clear hb); (try clear hb2); (try clear hk); (try clear hi); (try clear ho0)) | (go_at_call 30; (with_reducible refine (spec_TriesOf.calls k _ _ t384 t385 t411 t412 _ ?side1 ?side2 A11.out).mono ?_); (case side1 => repeat (first | exact (jD HO387.out).2.2 | (with_reducible refine jN ?_ _) | (with_reducible refine jM ?_ _) | (with_reducible refine jT ?_))); (case side2 => exact (jD HO387.out).2.1); rintro e w25 ⟨v413, rfl, ho0, hb⟩; have n0_ := jA (jK (zo HO387) hb); have n1_ := jA (jK (zo HO394) hb); have n2_ := jA (jK (zo HO401) hb); have n3_ := jA (jK (zo HO405) hb); have n4_ := jA (Kd.R_elder' (zo HO410) (Kd.R_base ho0) hb); have n5_ := jA (jc (Kd.R_new' ho0 (Kd.R_lt (zo HO410))) (jP (zb1 HB GE398))); have n6_ := jA (jb (g := gb398) (o := .cells #[.int .i64 t395, .int .i64 t396, .bool t397] 36 (0, 0)) (zk BK398) hb); have n7_ := jA (jH (zb1 HB GE398) hb); clear HO387; clear HO394; clear HO401; clear HO405; clear HO410; clear BK398; clear HB; have HO387 := n0_; have HO394 := n1_; have HO401 := n2_; have HO405 := n3_; have HO410 := n4_; have HO414 := n5_; have BK398 := n6_; have HB := n7_; clear n0_ n1_ n2_ n3_ n4_ n5_ n6_ n7_; (try clear hb); (try clear hb2); (try clear hk); (try clear hi); (try clear ho0))); go_upto_region 11 with (first | (go_at_call 39; (with_reducible refine (laws_big.calls _ _ l0 false _ ?side1 ?side2 A2.out).mono ?_); (case side1 => repeat (first | exact HR0.out | (with_reducible refine jN ?_ _) | (with_reducible refine jM ?_ _) | (with_reducible refine jT ?_))); (case side2 => exact HC0.out); rintro e w' ⟨rfl, ⟨nd, rfl⟩⟩; (try first | exact ⟨rfl, _, World.drewN_drewN _ _ _⟩ | exact ⟨rfl, _, Eq.trans (World.drewN_drewN _ _ _) (congrArg (World.drewN _) (Nat.add_assoc _ _ _))⟩)) | (go_at_call 40; (with_reducible refine (spec_DrawNextTry.calls k _ _ l0 t384 t385 _ ?side1 ?side2 A4.out).mono ?_); (case side1 => repeat (first | exact HR0.out | (with_reducible refine jN ?_ _) | (with_reducible refine jM ?_ _) | (with_reducible refine jT ?_))); (case side2 => exact HC0.out); rintro e w13 ⟨v386, rfl, ho0, hb⟩; have n0_ := jA (jc ho0 (jP (zb0 HB))); have n1_ := jA (jH (zb0 HB) hb); clear HB; have HO387 := n0_; have HB := n1_; clear n0_ n1_; (try clear hb); (try clear hb2); (try clear hk); (try clear hi); (try clear ho0); obtain ⟨Ao14, co14, eo14⟩ := Kd.R_slice HO387.out; subst eo14) | (go_at_call 29; (with_reducible refine (impl_NextTry.calls k _ _ t384 t385 t388 t389 _ ?side1 ?side2 A5.out).mono ?_); (case side1 => repeat (first | exact (jD HO387.out).2.2 | (with_reducible refine jN ?_ _) | (with_reducible refine jM ?_ _) | (with_reducible refine jT ?_))); (case side2 => exact (jD HO387.out).2.1); rintro e w15 ⟨rfl, hb⟩; have n0_ := jA (jK (zo HO387) hb); have n1_ := jA (jH (zb0 HB) hb); clear HO387; clear HB; have HO387 := n0_; have HB := n1_; clear n0_ n1_; (try clear hb); (try clear hb2); (try clear hk); (try clear hi)) | (go_at_call 28; (with_reducible refine (spec_NextTry.calls k _ _ t384 t385 t390 t391 _ ?side1 ?side2 A6.out).mono ?_); (case side1 => repeat (first | exact (jD HO387.out).2.2 | (with_reducible refine jN ?_ _) | (with_reducible refine jM ?_ _) | (with_reducible refine jT ?_))); (case side2 => exact (jD HO387.out).2.1); rintro e w16 ⟨rfl, hb⟩; have n0_ := jA (jK (zo HO387) hb); have n1_ := jA (jH (zb0 HB) hb); clear HO387; clear HB; have HO387 := n0_; have HB := n1_; clear n0_ n1_; (try clear hb); (try clear hb2); (try clear hk); (try clear hi)) | (go_at_call 41; (with_reducible refine (spec_DrawAddTry.calls k _ _ l0 t392 t395 t396 t397 _ ?side1 ?side2 A7.out).mono ?_); (case side1 => exact zs HR0 HB); (case side2 => exact HC0.out); rintro e w17 ⟨v393, rfl, ho0, hb⟩; have n0_ := jA (Kd.R_elder' (zo HO387) (Kd.R_base ho0) hb); have n1_ := jA (jc (Kd.R_new' ho0 (Kd.R_lt (zo HO387))) (jP (zb0 HB))); have n2_ := jA (jH (zb0 HB) hb); clear HO387; clear HB; have HO387 := n0_; have HO394 := n1_; have HB := n2_; clear n0_ n1_ n2_; (try clear hb); (try clear hb2); (try clear hk); (try clear hi); (try clear ho0)) | ((with_reducible refine gate_dst (N := 10) rfl ?_); (try (refine gate_guard (by rfl) ?_; dsimp only)); refine box_event ?hg (N := 10) ?hd (cs := #[.int .i64 0, .int .i64 0, .bool false]) (t := 36) ?hr ?_; (case hd => rfl); (case hg => rfl); (case hr => first | (go_simp; done) | (go_simp; rfl)); intro gb398 hg w18 hbox hb; have n0_ := jA (jK (Kd.R_elderB (zo HO387) gb398 (Nat.le_of_eq hg.symm)) hb); have n1_ := jA (jK (Kd.R_elderB (zo HO394) gb398 (Nat.le_of_eq hg.symm)) hb); have n2_ := jA (jH (zb0 HB) hb); have n3_ := jA (hbox); have n4_ := jA ((by rw [hg]; exact (jP (zb0 HB)) : w.heap.size ≤ gb398)); have n5_ := jA ((by rw [hg]; exact (jP (zb0 HB)) : w.heap.size ≤ gb398)); clear HO387; clear HO394; clear HB; have HO387 := n0_; have HO394 := n1_; have HB := n2_; have BK398 := n3_; have GW398 := n4_; have GE398 := n5_; clear n0_ n1_ n2_ n3_ n4_ n5_; clear hb hbox hg; have hcz19_0 : w18.cell? ⟨gb398, 0, none⟩ = some (.int .i64 0) := (jC BK398.out 0).trans rfl; have hcz19_1 : w18.cell? ⟨gb398, 1, none⟩ = some (.int .i64 0) := (jC BK398.out 1).trans rfl; have hcz19_2 : w18.cell? ⟨gb398, 2, none⟩ = some (.bool false) := (jC BK398.out 2).trans rfl; have hfz19_0 := jd BK398.out 0; have hfz19_1 := jd BK398.out 1; have hfz19_2 := jd BK398.out 2; obtain ⟨Ao20, co20, eo20⟩ := Kd.R_slice HO394.out; subst eo20) | (go_at_call 24; (with_reducible refine (impl_AddTry.calls k _ _ t392 t395 t396 t397 t399 t402 _ ?side1 ?side2 A8.out).mono ?_); (case side1 => refine (jD (e := 36) (base := w.heap.size) (ok := fun k_ => ((True ∧ some k_ ≠ (.slice Ao14 t384.length co14 : Value).ownBlock) ∧ k_ ≠ gb398)) (n := t392.length) (c := co20) ?_).2.2; exact (by (with_reducible repeat (first | apply jR | apply jQ | apply jS)); exact (Kd.R_mono (Kd.R_far (p := ⟨gb398, 2, none⟩) (Kd.R_far (p := ⟨gb398, 1, none⟩) (Kd.R_far (p := ⟨gb398, 0, none⟩) (Kd.R_mono HO394.out (fun k_ hk => (⟨hk, hk.2⟩ : _ ∧ k_ ≠ gb398))) (fun _ hk => hk.2) (.int .i64 t395)) (fun _ hk => hk.2) (.int .i64 t396)) (fun _ hk => hk.2) (.bool t397)) (fun _ h_ => h_.1)))); (case side2 => exact (jD HO394.out).2.1); rintro e w21 ⟨v400, rfl, ho0, hb⟩; have n0_ := jA (Kd.R_elder' (by (with_reducible repeat (first | apply jR | apply jQ | apply jS)); exact (Kd.R_mono (Kd.R_far (p := ⟨gb398, 2, none⟩) (Kd.R_far (p := ⟨gb398, 1, none⟩) (Kd.R_far (p := ⟨gb398, 0, none⟩) (Kd.R_mono HO387.out (fun k_ hk => (⟨hk, hk.2⟩ : _ ∧ k_ ≠ gb398))) (fun _ hk => hk.2) (.int .i64 t395)) (fun _ hk => hk.2) (.int .i64 t396)) (fun _ hk => hk.2) (.bool t397)) (fun _ h_ => h_.1))) (Kd.R_base ho0) hb); have n1_ := jA (Kd.R_elder' (by (with_reducible repeat (first | apply jR | apply jQ | apply jS)); exact (Kd.R_mono (Kd.R_far (p := ⟨gb398, 2, none⟩) (Kd.R_far (p := ⟨gb398, 1, none⟩) (Kd.R_far (p := ⟨gb398, 0, none⟩) (Kd.R_mono HO394.out (fun k_ hk => (⟨hk, hk.2⟩ : _ ∧ k_ ≠ gb398))) (fun _ hk => hk.2) (.int .i64 t395)) (fun _ hk => hk.2) (.int .i64 t396)) (fun _ hk => hk.2) (.bool t397)) (fun _ h_ => h_.1))) (Kd.R_base ho0) hb); have n2_ := jA (jc (Kd.R_newB (Kd.R_new' (Kd.R_new' ho0 (Kd.R_lt (by (with_reducible repeat (first | apply jR | apply jQ | apply jS)); exact (Kd.R_mono (Kd.R_far (p := ⟨gb398, 2, none⟩) (Kd.R_far (p := ⟨gb398, 1, none⟩) (Kd.R_far (p := ⟨gb398, 0, none⟩) (Kd.R_mono HO387.out (fun k_ hk => (⟨hk, hk.2⟩ : _ ∧ k_ ≠ gb398))) (fun _ hk => hk.2) (.int .i64 t395)) (fun _ hk => hk.2) (.int .i64 t396)) (fun _ hk => hk.2) (.bool t397)) (fun _ h_ => h_.1))))) (Kd.R_lt (by (with_reducible repeat (first | apply jR | apply jQ | apply jS)); exact (Kd.R_mono (Kd.R_far (p := ⟨gb398, 2, none⟩) (Kd.R_far (p := ⟨gb398, 1, none⟩) (Kd.R_far (p := ⟨gb398, 0, none⟩) (Kd.R_mono HO394.out (fun k_ hk => (⟨hk, hk.2⟩ : _ ∧ k_ ≠ gb398))) (fun _ hk => hk.2) (.int .i64 t395)) (fun _ hk => hk.2) (.int .i64 t396)) (fun _ hk => hk.2) (.bool t397)) (fun _ h_ => h_.1))))) (g := gb398) (o := .cells #[.int .i64 t395, .int .i64 t396, .bool t397] 36 (0, 0)) (by (with_reducible repeat (first | refine jX ?_ _ | refine jW ?_ | refine jY ?_ _)); refine blk_put (cs := #[.int .i64 t395, .int .i64 t396, .bool false]) ?_ 2 _ rfl; (with_reducible repeat (first | refine jX ?_ _ | refine jW ?_ | refine jY ?_ _)); refine blk_put (cs := #[.int .i64 t395, .int .i64 0, .bool false]) ?_ 1 _ rfl; (with_reducible repeat (first | refine jX ?_ _ | refine jW ?_ | refine jY ?_ _)); refine blk_put (cs := #[.int .i64 0, .int .i64 0, .bool false]) ?_ 0 _ rfl; (with_reducible repeat (first | refine jX ?_ _ | refine jW ?_ | refine jY ?_ _)); exact BK398.out)) (jP (zb1 HB GE398))); have n3_ := jA (jb (g := gb398) (o := .cells #[.int .i64 t395, .int .i64 t396, .bool t397] 36 (0, 0)) (by (with_reducible repeat (first | refine jX ?_ _ | refine jW ?_ | refine jY ?_ _)); refine blk_put (cs := #[.int .i64 t395, .int .i64 t396, .bool false]) ?_ 2 _ rfl; (with_reducible repeat (first | refine jX ?_ _ | refine jW ?_ | refine jY ?_ _)); refine blk_put (cs := #[.int .i64 t395, .int .i64 0, .bool false]) ?_ 1 _ rfl; (with_reducible repeat (first | refine jX ?_ _ | refine jW ?_ | refine jY ?_ _)); refine blk_put (cs := #[.int .i64 0, .int .i64 0, .bool false]) ?_ 0 _ rfl; (with_reducible repeat (first | refine jX ?_ _ | refine jW ?_ | refine jY ?_ _)); exact BK398.out) hb); have n4_ := jA (jH (zb1 HB GE398) hb); clear HO387; clear HO394; clear BK398; clear HB; have HO387 := n0_; have HO394 := n1_; have HO401 := n2_; have BK398 := n3_; have HB := n4_; clear n0_ n1_ n2_ n3_ n4_; (try clear hb); (try clear hb2); (try clear hk); (try clear hi); (try clear ho0); have hcz22_0 : w21.cell? ⟨gb398, 0, none⟩ = some (.int .i64 t395) := (jC BK398.out 0).trans rfl; have hcz22_1 : w21.cell? ⟨gb398, 1, none⟩ = some (.int .i64 t396) := (jC BK398.out 1).trans rfl; have hcz22_2 : w21.cell? ⟨gb398, 2, none⟩ = some (.bool t397) := (jC BK398.out 2).trans rfl; have hfz22_0 := jd BK398.out 0; have hfz22_1 := jd BK398.out 1; have hfz22_2 := jd BK398.out 2) | (go_at_call 22; (with_reducible refine (spec_AddTry.calls k _ _ t392 t395 t396 t397 t403 t406 _ ?side1 ?side2 A9.out).mono ?_); (case side1 => repeat (first | exact (jD HO394.out).2.2 | (with_reducible refine jN ?_ _) | (with_reducible refine jM ?_ _) | (with_reducible refine jT ?_))); (case side2 => exact (jD HO394.out).2.1); rintro e w23 ⟨v404, rfl, ho0, hb⟩; have n0_ := jA (Kd.R_elder' (zo HO387) (Kd.R_base ho0) hb); have n1_ := jA (Kd.R_elder' (zo HO394) (Kd.R_base ho0) hb); have n2_ := jA (Kd.R_elder' (zo HO401) (Kd.R_base ho0) hb); have n3_ := jA (jc (Kd.R_newB (Kd.R_new' (Kd.R_new' (Kd.R_new' ho0 (Kd.R_lt (zo HO387))) (Kd.R_lt (zo HO394))) (Kd.R_lt (zo HO401))) (g := gb398) (o := .cells #[.int .i64 t395, .int .i64 t396, .bool t397] 36 (0, 0)) (zk BK398)) (jP (zb1 HB GE398))); have n4_ := jA (jb (g := gb398) (o := .cells #[.int .i64 t395, .int .i64 t396, .bool t397] 36 (0, 0)) (zk BK398) hb); have n5_ := jA (jH (zb1 HB GE398) hb); clear HO387; clear HO394; clear HO401; clear BK398; clear HB; have HO387 := n0_; have HO394 := n1_; have HO401 := n2_; have HO405 := n3_; have BK398 := n4_; have HB := n5_; clear n0_ n1_ n2_ n3_ n4_ n5_; (try clear hb); (try clear hb2); (try clear hk); (try clear hi); (try clear ho0)) | (go_at_call 31; (with_reducible refine (impl_TriesOf.calls k _ _ t384 t385 t407 t408 _ ?side1 ?side2 A10.out).mono ?_); (case side1 => repeat (first | exact (jD HO387.out).2.2 | (with_reducible refine jN ?_ _) | (with_reducible refine jM ?_ _) | (with_reducible refine jT ?_))); (case side2 => exact (jD HO387.out).2.1); rintro e w24 ⟨v409, rfl, ho0, hb⟩; have n0_ := jA (jK (zo HO387) hb); have n1_ := jA (jK (zo HO394) hb); have n2_ := jA (jK (zo HO401) hb); have n3_ := jA (jK (zo HO405) hb); have n4_ := jA (jc ho0 (jP (zb1 HB GE398))); have n5_ := jA (jb (g := gb398) (o := .cells #[.int .i64 t395, .int .i64 t396, .bool t397] 36 (0, 0)) (zk BK398) hb); have n6_ := jA (jH (zb1 HB GE398) hb); clear HO387; clear HO394; clear HO401; clear HO405; clear BK398; clear HB; have HO387 := n0_; have HO394 := n1_; have HO401 := n2_; have HO405 := n3_; have HO410 := n4_; have BK398 := n5_; have HB := n6_; clear n0_ n1_ n2_ n3_ n4_ n5_ n6_; (try clear hb); (try clear hb2); (try clear hk); (try clear hi); (try clear ho0)) | (go_at_call 30; (with_reducible refine (spec_TriesOf.calls k _ _ t384 t385 t411 t412 _ ?side1 ?side2 A11.out).mono ?_); (case side1 => repeat (first | exact (jD HO387.out).2.2 | (with_reducible refine jN ?_ _) | (with_reducible refine jM ?_ _) | (with_reducible refine jT ?_))); (case side2 => exact (jD HO387.out).2.1); rintro e w25 ⟨v413, rfl, ho0, hb⟩; have n0_ := jA (jK (zo HO387) hb); have n1_ := jA (jK (zo HO394) hb); have n2_ := jA (jK (zo HO401) hb); have n3_ := jA (jK (zo HO405) hb); have n4_ := jA (Kd.R_elder' (zo HO410) (Kd.R_base ho0) hb); have n5_ := jA (jc (Kd.R_new' ho0 (Kd.R_lt (zo HO410))) (jP (zb1 HB GE398))); have n6_ := jA (jb (g := gb398) (o := .cells #[.int .i64 t395, .int .i64 t396, .bool t397] 36 (0, 0)) (zk BK398) hb); have n7_ := jA (jH (zb1 HB GE398) hb); clear HO387; clear HO394; clear HO401; clear HO405; clear HO410; clear BK398; clear HB; have HO387 := n0_; have HO394 := n1_; have HO401 := n2_; have HO405 := n3_; have HO410 := n4_; have HO414 := n5_; have BK398 := n6_; have HB := n7_; clear n0_ n1_ n2_ n3_ n4_ n5_ n6_ n7_; (try clear hb); (try clear hb2); (try clear hk); (try clear hi); (try clear ho0))))
  (try simp only [Act.put, jB, jE, jF])
  go_cut [112] (fun v112 wc => ∃ (kq : Nat) (x112_11 : Bool), v112 = .bool x112_11 ∧ Aside0 (laws_FnTries.j0 kq t384 t385 t388 t389 t392 t399 t402 t407 t408 x112_11 t395 t396 t397 = some r) ∧ Aside0 (kq ≤ k) ∧ Aside0 (Kd.R k36 36 wc w.heap.size (fun k_ => some k_ ≠ ((.slice Ao20 t392.length co20) : Value).ownBlock ∧ some k_ ≠ (v400 : Value).ownBlock ∧ k_ ≠ gb398) (.slice Ao14 t384.length co14) t384) ∧ Aside0 (Kd.R k36 36 wc w.heap.size (fun k_ => some k_ ≠ ((.slice Ao14 t384.length co14) : Value).ownBlock ∧ some k_ ≠ (v400 : Value).ownBlock ∧ k_ ≠ gb398) (.slice Ao20 t392.length co20) t392) ∧ Aside0 (Kd.R k36 36 wc w.heap.size (fun k_ => some k_ ≠ ((.slice Ao14 t384.length co14) : Value).ownBlock ∧ some k_ ≠ ((.slice Ao20 t392.length co20) : Value).ownBlock ∧ k_ ≠ gb398) v400 t399) ∧ Aside0 (Kd.R (Kd.int .i64) 2 wc w.heap.size (fun _ => True) v409 t407) ∧ Aside0 (wc.heap[gb398]? = some (.cells #[.int .i64 t395, .int .i64 t396, .bool t397] 36 (0, 0))) ∧ Aside0 (Below w.heap.size w wc))
  case first =>
   have H := HC12.out
   clear HC12
   by_cases c26 : t389 = t391
   ·as_aux_lemma =>
    rw [if_pos c26] at H
    have c26b0 : (t389 == t391) = true := beq_iff_eq.mpr c26
    have c26b1 : (t389 != t391) = false := bne_eq_false_iff_eq.mpr c26
    clear c26
    (first | rw [c26b0] | (simp only [i64_w, i32_w]; rw [c26b0]) | skip)
    by_cases c27 : t388 = t390
    ·as_aux_lemma =>
     rw [if_pos c27] at H
     have c27b0 : (t388 == t390) = true := beq_iff_eq.mpr c27
     have c27b1 : (t388 != t390) = false := bne_eq_false_iff_eq.mpr c27
     clear c27
     by_cases c28 : t402 = t406
     ·as_aux_lemma =>
      rw [if_pos c28] at H
      have c28b0 : (t402 == t406) = true := beq_iff_eq.mpr c28
      have c28b1 : (t402 != t406) = false := bne_eq_false_iff_eq.mpr c28
      clear c28
      replace H := jG.mp H
      obtain ⟨t415, A290, H⟩ := H
      replace H : (if t415 = true then (if t408 = t412 then ((laws_likeInts.f k t407 t411).bind fun t416 => (if t416 = true then ((impl_AreTries.f k t384).bind fun t417 => (laws_FnTries.j0 k t384 t385 t388 t389 t392 t399 t402 t407 t408 (t417 != (t391 != 1)) t395 t396 t397)) else (laws_FnTries.j0 k t384 t385 t388 t389 t392 t399 t402 t407 t408 true t395 t396 t397))) else (laws_FnTries.j0 k t384 t385 t388 t389 t392 t399 t402 t407 t408 true t395 t396 t397)) else (laws_FnTries.j0 k t384 t385 t388 t389 t392 t399 t402 t407 t408 true t395 t396 t397)) = some r := H
      have A29 := jA A290
      clear A290
      by_cases c30 : t415 = true
      ·as_aux_lemma =>
       subst c30
       have H1 : (if t408 = t412 then ((laws_likeInts.f k t407 t411).bind fun t416 => (if t416 = true then ((impl_AreTries.f k t384).bind fun t417 => (laws_FnTries.j0 k t384 t385 t388 t389 t392 t399 t402 t407 t408 (t417 != (t391 != 1)) t395 t396 t397)) else (laws_FnTries.j0 k t384 t385 t388 t389 t392 t399 t402 t407 t408 true t395 t396 t397))) else (laws_FnTries.j0 k t384 t385 t388 t389 t392 t399 t402 t407 t408 true t395 t396 t397)) = some r := by rw [if_pos rfl] at H; exact H
       clear H
       have H := H1
       clear H1
       by_cases c31 : t408 = t412
       ·as_aux_lemma =>
        rw [if_pos c31] at H
        have c31b0 : (t408 == t412) = true := beq_iff_eq.mpr c31
        have c31b1 : (t408 != t412) = false := bne_eq_false_iff_eq.mpr c31
        clear c31
        replace H := jG.mp H
        obtain ⟨t416, A320, H⟩ := H
        replace H : (if t416 = true then ((impl_AreTries.f k t384).bind fun t417 => (laws_FnTries.j0 k t384 t385 t388 t389 t392 t399 t402 t407 t408 (t417 != (t391 != 1)) t395 t396 t397)) else (laws_FnTries.j0 k t384 t385 t388 t389 t392 t399 t402 t407 t408 true t395 t396 t397)) = some r := H
        have A32 := jA A320
        clear A320
        by_cases c33 : t416 = true
        ·subst c33
         have H1 : ((impl_AreTries.f k t384).bind fun t417 => (laws_FnTries.j0 k t384 t385 t388 t389 t392 t399 t402 t407 t408 (t417 != (t391 != 1)) t395 t396 t397)) = some r := by rw [if_pos rfl] at H; exact H
         clear H
         have H := H1
         clear H1
         replace H := jG.mp H
         obtain ⟨t417, A340, H⟩ := H
         replace H : (laws_FnTries.j0 k t384 t385 t388 t389 t392 t399 t402 t407 t408 (t417 != (t391 != 1)) t395 t396 t397) = some r := H
         have A34 := jA A340
         clear A340
         have H' := jA H
         clear H
         obtain ⟨Ao35, co35, eo35⟩ := Kd.R_slice HO401.out
         subst eo35
         obtain ⟨Ao36, co36, eo36⟩ := Kd.R_slice HO405.out
         subst eo36
         go_wp2_with (first | (go_at_call 42; (with_reducible refine (laws_likeTries.calls k _ _ t399 _ _ t403 true _ ?side1 ?side2 ?side3 ?side4 A29.out).mono ?_); (case side1 => repeat (first | exact (jD HO401.out).2.2 | (with_reducible refine jN ?_ _) | (with_reducible refine jM ?_ _) | (with_reducible refine jT ?_))); (case side2 => exact (jD HO401.out).2.1); (case side3 => repeat (first | exact (jD HO405.out).2.2 | (with_reducible refine jN ?_ _) | (with_reducible refine jM ?_ _) | (with_reducible refine jT ?_))); (case side4 => exact (jD HO405.out).2.1); rintro e w' ⟨rfl, ⟨nd, rfl⟩⟩; (try first | exact ⟨rfl, _, World.drewN_drewN _ _ _⟩ | exact ⟨rfl, _, Eq.trans (World.drewN_drewN _ _ _) (congrArg (World.drewN _) (Nat.add_assoc _ _ _))⟩); obtain ⟨Ao37, co37, eo37⟩ := Kd.R_slice HO410.out; subst eo37; obtain ⟨Ao38, co38, eo38⟩ := Kd.R_slice HO414.out; subst eo38) | (go_at_call 43; (with_reducible refine (laws_likeInts.calls k _ _ t407 _ _ t411 true _ ?side1 ?side2 ?side3 ?side4 A32.out).mono ?_); (case side1 => repeat (first | exact (jD HO410.out).2.2 | (with_reducible refine jN ?_ _) | (with_reducible refine jM ?_ _) | (with_reducible refine jT ?_))); (case side2 => exact (jD HO410.out).2.1); (case side3 => repeat (first | exact (jD HO414.out).2.2 | (with_reducible refine jN ?_ _) | (with_reducible refine jM ?_ _) | (with_reducible refine jT ?_))); (case side4 => exact (jD HO414.out).2.1); rintro e w' ⟨rfl, ⟨nd, rfl⟩⟩; (try first | exact ⟨rfl, _, World.drewN_drewN _ _ _⟩ | exact ⟨rfl, _, Eq.trans (World.drewN_drewN _ _ _) (congrArg (World.drewN _) (Nat.add_assoc _ _ _))⟩)) | (go_at_call 16; (with_reducible refine (impl_AreTries.calls k _ _ t384 t417 _ ?side1 ?side2 A34.out).mono ?_); (case side1 => repeat (first | exact (jD HO387.out).2.2 | (with_reducible refine jN ?_ _) | (with_reducible refine jM ?_ _) | (with_reducible refine jT ?_))); (case side2 => exact (jD HO387.out).2.1); rintro e w39 ⟨rfl, hb⟩; have n0_ := jA (jK (zo HO387) hb); have n1_ := jA (jK (zo HO394) hb); have n2_ := jA (jK (zo HO401) hb); have n3_ := jA (jK (zo HO405) hb); have n4_ := jA (jK (zo HO410) hb); have n5_ := jA (jK (zo HO414) hb); have n6_ := jA (jb (g := gb398) (o := .cells #[.int .i64 t395, .int .i64 t396, .bool t397] 36 (0, 0)) (zk BK398) hb); have n7_ := jA (jH (zb1 HB GE398) hb); clear HO387; clear HO394; clear HO401; clear HO405; clear HO410; clear HO414; clear BK398; clear HB; have HO387 := n0_; have HO394 := n1_; have HO401 := n2_; have HO405 := n3_; have HO410 := n4_; have HO414 := n5_; have BK398 := n6_; have HB := n7_; clear n0_ n1_ n2_ n3_ n4_ n5_ n6_ n7_; (try clear hb); (try clear hb2); (try clear hk); (try clear hi)))
         repeat (go_quiet (first | (go_at_call 42; (with_reducible refine (laws_likeTries.calls k _ _ t399 _ _ t403 true _ ?side1 ?side2 ?side3 ?side4 A29.out).mono ?_); (case side1 => repeat (first | exact (jD HO401.out).2.2 | (with_reducible refine jN ?_ _) | (with_reducible refine jM ?_ _) | (with_reducible refine jT ?_))); (case side2 => exact (jD HO401.out).2.1); (case side3 => repeat (first | exact (jD HO405.out).2.2 | (with_reducible refine jN ?_ _) | (with_reducible refine jM ?_ _) | (with_reducible refine jT ?_))); (case side4 => exact (jD HO405.out).2.1); rintro e w' ⟨rfl, ⟨nd, rfl⟩⟩; (try first | exact ⟨rfl, _, World.drewN_drewN _ _ _⟩ | exact ⟨rfl, _, Eq.trans (World.drewN_drewN _ _ _) (congrArg (World.drewN _) (Nat.add_assoc _ _ _))⟩); obtain ⟨Ao37, co37, eo37⟩ := Kd.R_slice HO410.out; subst eo37; obtain ⟨Ao38, co38, eo38⟩ := Kd.R_slice HO414.out; subst eo38) | (go_at_call 43; (with_reducible refine (laws_likeInts.calls k _ _ t407 _ _ t411 true _ ?side1 ?side2 ?side3 ?side4 A32.out).mono ?_); (case side1 => repeat (first | exact (jD HO410.out).2.2 | (with_reducible refine jN ?_ _) | (with_reducible refine jM ?_ _) | (with_reducible refine jT ?_))); (case side2 => exact (jD HO410.out).2.1); (case side3 => repeat (first | exact (jD HO414.out).2.2 | (with_reducible refine jN ?_ _) | (with_reducible refine jM ?_ _) | (with_reducible refine jT ?_))); (case side4 => exact (jD HO414.out).2.1); rintro e w' ⟨rfl, ⟨nd, rfl⟩⟩; (try first | exact ⟨rfl, _, World.drewN_drewN _ _ _⟩ | exact ⟨rfl, _, Eq.trans (World.drewN_drewN _ _ _) (congrArg (World.drewN _) (Nat.add_assoc _ _ _))⟩)) | (go_at_call 16; (with_reducible refine (impl_AreTries.calls k _ _ t384 t417 _ ?side1 ?side2 A34.out).mono ?_); (case side1 => repeat (first | exact (jD HO387.out).2.2 | (with_reducible refine jN ?_ _) | (with_reducible refine jM ?_ _) | (with_reducible refine jT ?_))); (case side2 => exact (jD HO387.out).2.1); rintro e w39 ⟨rfl, hb⟩; have n0_ := jA (jK (zo HO387) hb); have n1_ := jA (jK (zo HO394) hb); have n2_ := jA (jK (zo HO401) hb); have n3_ := jA (jK (zo HO405) hb); have n4_ := jA (jK (zo HO410) hb); have n5_ := jA (jK (zo HO414) hb); have n6_ := jA (jb (g := gb398) (o := .cells #[.int .i64 t395, .int .i64 t396, .bool t397] 36 (0, 0)) (zk BK398) hb); have n7_ := jA (jH (zb1 HB GE398) hb); clear HO387; clear HO394; clear HO401; clear HO405; clear HO410; clear HO414; clear BK398; clear HB; have HO387 := n0_; have HO394 := n1_; have HO401 := n2_; have HO405 := n3_; have HO410 := n4_; have HO414 := n5_; have BK398 := n6_; have HB := n7_; clear n0_ n1_ n2_ n3_ n4_ n5_ n6_ n7_; (try clear hb); (try clear hb2); (try clear hk); (try clear hi))); try go_wp2_with (first | (go_at_call 42; (with_reducible refine (laws_likeTries.calls k _ _ t399 _ _ t403 true _ ?side1 ?side2 ?side3 ?side4 A29.out).mono ?_); (case side1 => repeat (first | exact (jD HO401.out).2.2 | (with_reducible refine jN ?_ _) | (with_reducible refine jM ?_ _) | (with_reducible refine jT ?_))); (case side2 => exact (jD HO401.out).2.1); (case side3 => repeat (first | exact (jD HO405.out).2.2 | (with_reducible refine jN ?_ _) | (with_reducible refine jM ?_ _) | (with_reducible refine jT ?_))); (case side4 => exact (jD HO405.out).2.1); rintro e w' ⟨rfl, ⟨nd, rfl⟩⟩; (try first | exact ⟨rfl, _, World.drewN_drewN _ _ _⟩ | exact ⟨rfl, _, Eq.trans (World.drewN_drewN _ _ _) (congrArg (World.drewN _) (Nat.add_assoc _ _ _))⟩); obtain ⟨Ao37, co37, eo37⟩ := Kd.R_slice HO410.out; subst eo37; obtain ⟨Ao38, co38, eo38⟩ := Kd.R_slice HO414.out; subst eo38) | (go_at_call 43; (with_reducible refine (laws_likeInts.calls k _ _ t407 _ _ t411 true _ ?side1 ?side2 ?side3 ?side4 A32.out).mono ?_); (case side1 => repeat (first | exact (jD HO410.out).2.2 | (with_reducible refine jN ?_ _) | (with_reducible refine jM ?_ _) | (with_reducible refine jT ?_))); (case side2 => exact (jD HO410.out).2.1); (case side3 => repeat (first | exact (jD HO414.out).2.2 | (with_reducible refine jN ?_ _) | (with_reducible refine jM ?_ _) | (with_reducible refine jT ?_))); (case side4 => exact (jD HO414.out).2.1); rintro e w' ⟨rfl, ⟨nd, rfl⟩⟩; (try first | exact ⟨rfl, _, World.drewN_drewN _ _ _⟩ | exact ⟨rfl, _, Eq.trans (World.drewN_drewN _ _ _) (congrArg (World.drewN _) (Nat.add_assoc _ _ _))⟩)) | (go_at_call 16; (with_reducible refine (impl_AreTries.calls k _ _ t384 t417 _ ?side1 ?side2 A34.out).mono ?_); (case side1 => repeat (first | exact (jD HO387.out).2.2 | (with_reducible refine jN ?_ _) | (with_reducible refine jM ?_ _) | (with_reducible refine jT ?_))); (case side2 => exact (jD HO387.out).2.1); rintro e w39 ⟨rfl, hb⟩; have n0_ := jA (jK (zo HO387) hb); have n1_ := jA (jK (zo HO394) hb); have n2_ := jA (jK (zo HO401) hb); have n3_ := jA (jK (zo HO405) hb); have n4_ := jA (jK (zo HO410) hb); have n5_ := jA (jK (zo HO414) hb); have n6_ := jA (jb (g := gb398) (o := .cells #[.int .i64 t395, .int .i64 t396, .bool t397] 36 (0, 0)) (zk BK398) hb); have n7_ := jA (jH (zb1 HB GE398) hb); clear HO387; clear HO394; clear HO401; clear HO405; clear HO410; clear HO414; clear BK398; clear HB; have HO387 := n0_; have HO394 := n1_; have HO401 := n2_; have HO405 := n3_; have HO410 := n4_; have HO414 := n5_; have BK398 := n6_; have HB := n7_; clear n0_ n1_ n2_ n3_ n4_ n5_ n6_ n7_; (try clear hb); (try clear hb2); (try clear hk); (try clear hi))))
         go_meet
         case rel => exact ⟨_, ((t417 != (t391 != 1))), zz, H', ⟨by first | omega | exact Nat.le_refl _⟩, ⟨by (with_reducible repeat (first | apply jR | apply jQ | apply jS)); exact Kd.R_mono HO387.out (fun _ hk => ⟨hk.1.1.1.2, ⟨hk.1.2, hk.1.1.2⟩⟩)⟩, ⟨by (with_reducible repeat (first | apply jR | apply jQ | apply jS)); exact Kd.R_mono HO394.out (fun _ hk => ⟨hk.1.1.1.2, ⟨hk.1.2, hk.1.1.2⟩⟩)⟩, ⟨by (with_reducible repeat (first | apply jR | apply jQ | apply jS)); exact Kd.R_mono HO401.out (fun _ hk => ⟨hk.1.1.1.2, ⟨hk.1.1.2, hk.1.2⟩⟩)⟩, ⟨by (with_reducible repeat (first | apply jR | apply jQ | apply jS)); exact Kd.R_mono HO410.out (fun _ hk => trivial)⟩, ⟨by (with_reducible repeat (first | refine jX ?_ _ | refine jW ?_ | refine jY ?_ _)); exact BK398.out⟩, ⟨zb1 HB GE398⟩⟩
        ·replace c33 := Bool.eq_false_iff.mpr c33
         subst c33
         have H1 : (laws_FnTries.j0 k t384 t385 t388 t389 t392 t399 t402 t407 t408 true t395 t396 t397) = some r := by rw [if_neg (show ¬ (false = true) by decide)] at H; exact H
         clear H
         have H := H1
         clear H1
         have H' := jA H
         clear H
         obtain ⟨Ao40, co40, eo40⟩ := Kd.R_slice HO401.out
         subst eo40
         obtain ⟨Ao41, co41, eo41⟩ := Kd.R_slice HO405.out
         subst eo41
         go_wp2_with (first | (go_at_call 42; (with_reducible refine (laws_likeTries.calls k _ _ t399 _ _ t403 true _ ?side1 ?side2 ?side3 ?side4 A29.out).mono ?_); (case side1 => repeat (first | exact (jD HO401.out).2.2 | (with_reducible refine jN ?_ _) | (with_reducible refine jM ?_ _) | (with_reducible refine jT ?_))); (case side2 => exact (jD HO401.out).2.1); (case side3 => repeat (first | exact (jD HO405.out).2.2 | (with_reducible refine jN ?_ _) | (with_reducible refine jM ?_ _) | (with_reducible refine jT ?_))); (case side4 => exact (jD HO405.out).2.1); rintro e w' ⟨rfl, ⟨nd, rfl⟩⟩; (try first | exact ⟨rfl, _, World.drewN_drewN _ _ _⟩ | exact ⟨rfl, _, Eq.trans (World.drewN_drewN _ _ _) (congrArg (World.drewN _) (Nat.add_assoc _ _ _))⟩); obtain ⟨Ao42, co42, eo42⟩ := Kd.R_slice HO410.out; subst eo42; obtain ⟨Ao43, co43, eo43⟩ := Kd.R_slice HO414.out; subst eo43) | (go_at_call 43; (with_reducible refine (laws_likeInts.calls k _ _ t407 _ _ t411 false _ ?side1 ?side2 ?side3 ?side4 A32.out).mono ?_); (case side1 => repeat (first | exact (jD HO410.out).2.2 | (with_reducible refine jN ?_ _) | (with_reducible refine jM ?_ _) | (with_reducible refine jT ?_))); (case side2 => exact (jD HO410.out).2.1); (case side3 => repeat (first | exact (jD HO414.out).2.2 | (with_reducible refine jN ?_ _) | (with_reducible refine jM ?_ _) | (with_reducible refine jT ?_))); (case side4 => exact (jD HO414.out).2.1); rintro e w' ⟨rfl, ⟨nd, rfl⟩⟩; (try first | exact ⟨rfl, _, World.drewN_drewN _ _ _⟩ | exact ⟨rfl, _, Eq.trans (World.drewN_drewN _ _ _) (congrArg (World.drewN _) (Nat.add_assoc _ _ _))⟩)))
         repeat (go_quiet (first | (go_at_call 42; (with_reducible refine (laws_likeTries.calls k _ _ t399 _ _ t403 true _ ?side1 ?side2 ?side3 ?side4 A29.out).mono ?_); (case side1 => repeat (first | exact (jD HO401.out).2.2 | (with_reducible refine jN ?_ _) | (with_reducible refine jM ?_ _) | (with_reducible refine jT ?_))); (case side2 => exact (jD HO401.out).2.1); (case side3 => repeat (first | exact (jD HO405.out).2.2 | (with_reducible refine jN ?_ _) | (with_reducible refine jM ?_ _) | (with_reducible refine jT ?_))); (case side4 => exact (jD HO405.out).2.1); rintro e w' ⟨rfl, ⟨nd, rfl⟩⟩; (try first | exact ⟨rfl, _, World.drewN_drewN _ _ _⟩ | exact ⟨rfl, _, Eq.trans (World.drewN_drewN _ _ _) (congrArg (World.drewN _) (Nat.add_assoc _ _ _))⟩); obtain ⟨Ao42, co42, eo42⟩ := Kd.R_slice HO410.out; subst eo42; obtain ⟨Ao43, co43, eo43⟩ := Kd.R_slice HO414.out; subst eo43) | (go_at_call 43; (with_reducible refine (laws_likeInts.calls k _ _ t407 _ _ t411 false _ ?side1 ?side2 ?side3 ?side4 A32.out).mono ?_); (case side1 => repeat (first | exact (jD HO410.out).2.2 | (with_reducible refine jN ?_ _) | (with_reducible refine jM ?_ _) | (with_reducible refine jT ?_))); (case side2 => exact (jD HO410.out).2.1); (case side3 => repeat (first | exact (jD HO414.out).2.2 | (with_reducible refine jN ?_ _) | (with_reducible refine jM ?_ _) | (with_reducible refine jT ?_))); (case side4 => exact (jD HO414.out).2.1); rintro e w' ⟨rfl, ⟨nd, rfl⟩⟩; (try first | exact ⟨rfl, _, World.drewN_drewN _ _ _⟩ | exact ⟨rfl, _, Eq.trans (World.drewN_drewN _ _ _) (congrArg (World.drewN _) (Nat.add_assoc _ _ _))⟩))); try go_wp2_with (first | (go_at_call 42; (with_reducible refine (laws_likeTries.calls k _ _ t399 _ _ t403 true _ ?side1 ?side2 ?side3 ?side4 A29.out).mono ?_); (case side1 => repeat (first | exact (jD HO401.out).2.2 | (with_reducible refine jN ?_ _) | (with_reducible refine jM ?_ _) | (with_reducible refine jT ?_))); (case side2 => exact (jD HO401.out).2.1); (case side3 => repeat (first | exact (jD HO405.out).2.2 | (with_reducible refine jN ?_ _) | (with_reducible refine jM ?_ _) | (with_reducible refine jT ?_))); (case side4 => exact (jD HO405.out).2.1); rintro e w' ⟨rfl, ⟨nd, rfl⟩⟩; (try first | exact ⟨rfl, _, World.drewN_drewN _ _ _⟩ | exact ⟨rfl, _, Eq.trans (World.drewN_drewN _ _ _) (congrArg (World.drewN _) (Nat.add_assoc _ _ _))⟩); obtain ⟨Ao42, co42, eo42⟩ := Kd.R_slice HO410.out; subst eo42; obtain ⟨Ao43, co43, eo43⟩ := Kd.R_slice HO414.out; subst eo43) | (go_at_call 43; (with_reducible refine (laws_likeInts.calls k _ _ t407 _ _ t411 false _ ?side1 ?side2 ?side3 ?side4 A32.out).mono ?_); (case side1 => repeat (first | exact (jD HO410.out).2.2 | (with_reducible refine jN ?_ _) | (with_reducible refine jM ?_ _) | (with_reducible refine jT ?_))); (case side2 => exact (jD HO410.out).2.1); (case side3 => repeat (first | exact (jD HO414.out).2.2 | (with_reducible refine jN ?_ _) | (with_reducible refine jM ?_ _) | (with_reducible refine jT ?_))); (case side4 => exact (jD HO414.out).2.1); rintro e w' ⟨rfl, ⟨nd, rfl⟩⟩; (try first | exact ⟨rfl, _, World.drewN_drewN _ _ _⟩ | exact ⟨rfl, _, Eq.trans (World.drewN_drewN _ _ _) (congrArg (World.drewN _) (Nat.add_assoc _ _ _))⟩))))
         go_meet
         case rel => exact ⟨_, (true), zz, H', ⟨by first | omega | exact Nat.le_refl _⟩, ⟨by (with_reducible repeat (first | apply jR | apply jQ | apply jS)); exact Kd.R_mono HO387.out (fun _ hk => ⟨hk.1.1.1.2, ⟨hk.1.2, hk.1.1.2⟩⟩)⟩, ⟨by (with_reducible repeat (first | apply jR | apply jQ | apply jS)); exact Kd.R_mono HO394.out (fun _ hk => ⟨hk.1.1.1.2, ⟨hk.1.2, hk.1.1.2⟩⟩)⟩, ⟨by (with_reducible repeat (first | apply jR | apply jQ | apply jS)); exact Kd.R_mono HO401.out (fun _ hk => ⟨hk.1.1.1.2, ⟨hk.1.1.2, hk.1.2⟩⟩)⟩, ⟨by (with_reducible repeat (first | apply jR | apply jQ | apply jS)); exact Kd.R_mono HO410.out (fun _ hk => trivial)⟩, ⟨by (with_reducible repeat (first | refine jX ?_ _ | refine jW ?_ | refine jY ?_ _)); exact BK398.out⟩, ⟨zb1 HB GE398⟩⟩
       ·rw [if_neg c31] at H
        have c31b0 : (t408 == t412) = false := beq_eq_false_iff_ne.mpr c31
        have c31b1 : (t408 != t412) = true := bne_iff_ne.mpr c31
        have H' := jA H
        clear H
        obtain ⟨Ao44, co44, eo44⟩ := Kd.R_slice HO401.out
        subst eo44
        obtain ⟨Ao45, co45, eo45⟩ := Kd.R_slice HO405.out
        subst eo45
        go_wp2_with (first | (go_at_call 42; (with_reducible refine (laws_likeTries.calls k _ _ t399 _ _ t403 true _ ?side1 ?side2 ?side3 ?side4 A29.out).mono ?_); (case side1 => repeat (first | exact (jD HO401.out).2.2 | (with_reducible refine jN ?_ _) | (with_reducible refine jM ?_ _) | (with_reducible refine jT ?_))); (case side2 => exact (jD HO401.out).2.1); (case side3 => repeat (first | exact (jD HO405.out).2.2 | (with_reducible refine jN ?_ _) | (with_reducible refine jM ?_ _) | (with_reducible refine jT ?_))); (case side4 => exact (jD HO405.out).2.1); rintro e w' ⟨rfl, ⟨nd, rfl⟩⟩; (try first | exact ⟨rfl, _, World.drewN_drewN _ _ _⟩ | exact ⟨rfl, _, Eq.trans (World.drewN_drewN _ _ _) (congrArg (World.drewN _) (Nat.add_assoc _ _ _))⟩)))
        repeat (go_quiet (first | (go_at_call 42; (with_reducible refine (laws_likeTries.calls k _ _ t399 _ _ t403 true _ ?side1 ?side2 ?side3 ?side4 A29.out).mono ?_); (case side1 => repeat (first | exact (jD HO401.out).2.2 | (with_reducible refine jN ?_ _) | (with_reducible refine jM ?_ _) | (with_reducible refine jT ?_))); (case side2 => exact (jD HO401.out).2.1); (case side3 => repeat (first | exact (jD HO405.out).2.2 | (with_reducible refine jN ?_ _) | (with_reducible refine jM ?_ _) | (with_reducible refine jT ?_))); (case side4 => exact (jD HO405.out).2.1); rintro e w' ⟨rfl, ⟨nd, rfl⟩⟩; (try first | exact ⟨rfl, _, World.drewN_drewN _ _ _⟩ | exact ⟨rfl, _, Eq.trans (World.drewN_drewN _ _ _) (congrArg (World.drewN _) (Nat.add_assoc _ _ _))⟩))); try go_wp2_with (first | (go_at_call 42; (with_reducible refine (laws_likeTries.calls k _ _ t399 _ _ t403 true _ ?side1 ?side2 ?side3 ?side4 A29.out).mono ?_); (case side1 => repeat (first | exact (jD HO401.out).2.2 | (with_reducible refine jN ?_ _) | (with_reducible refine jM ?_ _) | (with_reducible refine jT ?_))); (case side2 => exact (jD HO401.out).2.1); (case side3 => repeat (first | exact (jD HO405.out).2.2 | (with_reducible refine jN ?_ _) | (with_reducible refine jM ?_ _) | (with_reducible refine jT ?_))); (case side4 => exact (jD HO405.out).2.1); rintro e w' ⟨rfl, ⟨nd, rfl⟩⟩; (try first | exact ⟨rfl, _, World.drewN_drewN _ _ _⟩ | exact ⟨rfl, _, Eq.trans (World.drewN_drewN _ _ _) (congrArg (World.drewN _) (Nat.add_assoc _ _ _))⟩))))
        go_meet
        case rel => exact ⟨_, (true), zz, H', ⟨by first | omega | exact Nat.le_refl _⟩, ⟨by (with_reducible repeat (first | apply jR | apply jQ | apply jS)); exact Kd.R_mono HO387.out (fun _ hk => ⟨hk.1.1.1.2, ⟨hk.1.2, hk.1.1.2⟩⟩)⟩, ⟨by (with_reducible repeat (first | apply jR | apply jQ | apply jS)); exact Kd.R_mono HO394.out (fun _ hk => ⟨hk.1.1.1.2, ⟨hk.1.2, hk.1.1.2⟩⟩)⟩, ⟨by (with_reducible repeat (first | apply jR | apply jQ | apply jS)); exact Kd.R_mono HO401.out (fun _ hk => ⟨hk.1.1.1.2, ⟨hk.1.1.2, hk.1.2⟩⟩)⟩, ⟨by (with_reducible repeat (first | apply jR | apply jQ | apply jS)); exact Kd.R_mono HO410.out (fun _ hk => trivial)⟩, ⟨by (with_reducible repeat (first | refine jX ?_ _ | refine jW ?_ | refine jY ?_ _)); exact BK398.out⟩, ⟨zb1 HB GE398⟩⟩
      ·replace c30 := Bool.eq_false_iff.mpr c30
       subst c30
       have H1 : (laws_FnTries.j0 k t384 t385 t388 t389 t392 t399 t402 t407 t408 true t395 t396 t397) = some r := by rw [if_neg (show ¬ (false = true) by decide)] at H; exact H
       clear H
       have H := H1
       clear H1
       have H' := jA H
       clear H
       obtain ⟨Ao46, co46, eo46⟩ := Kd.R_slice HO401.out
       subst eo46
       obtain ⟨Ao47, co47, eo47⟩ := Kd.R_slice HO405.out
       subst eo47
       go_wp2_with (first | (go_at_call 42; (with_reducible refine (laws_likeTries.calls k _ _ t399 _ _ t403 false _ ?side1 ?side2 ?side3 ?side4 A29.out).mono ?_); (case side1 => repeat (first | exact (jD HO401.out).2.2 | (with_reducible refine jN ?_ _) | (with_reducible refine jM ?_ _) | (with_reducible refine jT ?_))); (case side2 => exact (jD HO401.out).2.1); (case side3 => repeat (first | exact (jD HO405.out).2.2 | (with_reducible refine jN ?_ _) | (with_reducible refine jM ?_ _) | (with_reducible refine jT ?_))); (case side4 => exact (jD HO405.out).2.1); rintro e w' ⟨rfl, ⟨nd, rfl⟩⟩; (try first | exact ⟨rfl, _, World.drewN_drewN _ _ _⟩ | exact ⟨rfl, _, Eq.trans (World.drewN_drewN _ _ _) (congrArg (World.drewN _) (Nat.add_assoc _ _ _))⟩)))
       repeat (go_quiet (first | (go_at_call 42; (with_reducible refine (laws_likeTries.calls k _ _ t399 _ _ t403 false _ ?side1 ?side2 ?side3 ?side4 A29.out).mono ?_); (case side1 => repeat (first | exact (jD HO401.out).2.2 | (with_reducible refine jN ?_ _) | (with_reducible refine jM ?_ _) | (with_reducible refine jT ?_))); (case side2 => exact (jD HO401.out).2.1); (case side3 => repeat (first | exact (jD HO405.out).2.2 | (with_reducible refine jN ?_ _) | (with_reducible refine jM ?_ _) | (with_reducible refine jT ?_))); (case side4 => exact (jD HO405.out).2.1); rintro e w' ⟨rfl, ⟨nd, rfl⟩⟩; (try first | exact ⟨rfl, _, World.drewN_drewN _ _ _⟩ | exact ⟨rfl, _, Eq.trans (World.drewN_drewN _ _ _) (congrArg (World.drewN _) (Nat.add_assoc _ _ _))⟩))); try go_wp2_with (first | (go_at_call 42; (with_reducible refine (laws_likeTries.calls k _ _ t399 _ _ t403 false _ ?side1 ?side2 ?side3 ?side4 A29.out).mono ?_); (case side1 => repeat (first | exact (jD HO401.out).2.2 | (with_reducible refine jN ?_ _) | (with_reducible refine jM ?_ _) | (with_reducible refine jT ?_))); (case side2 => exact (jD HO401.out).2.1); (case side3 => repeat (first | exact (jD HO405.out).2.2 | (with_reducible refine jN ?_ _) | (with_reducible refine jM ?_ _) | (with_reducible refine jT ?_))); (case side4 => exact (jD HO405.out).2.1); rintro e w' ⟨rfl, ⟨nd, rfl⟩⟩; (try first | exact ⟨rfl, _, World.drewN_drewN _ _ _⟩ | exact ⟨rfl, _, Eq.trans (World.drewN_drewN _ _ _) (congrArg (World.drewN _) (Nat.add_assoc _ _ _))⟩))))
       go_meet
       case rel => exact ⟨_, (true), zz, H', ⟨by first | omega | exact Nat.le_refl _⟩, ⟨by (with_reducible repeat (first | apply jR | apply jQ | apply jS)); exact Kd.R_mono HO387.out (fun _ hk => ⟨hk.1.1.1.2, ⟨hk.1.2, hk.1.1.2⟩⟩)⟩, ⟨by (with_reducible repeat (first | apply jR | apply jQ | apply jS)); exact Kd.R_mono HO394.out (fun _ hk => ⟨hk.1.1.1.2, ⟨hk.1.2, hk.1.1.2⟩⟩)⟩, ⟨by (with_reducible repeat (first | apply jR | apply jQ | apply jS)); exact Kd.R_mono HO401.out (fun _ hk => ⟨hk.1.1.1.2, ⟨hk.1.1.2, hk.1.2⟩⟩)⟩, ⟨by (with_reducible repeat (first | apply jR | apply jQ | apply jS)); exact Kd.R_mono HO410.out (fun _ hk => trivial)⟩, ⟨by (with_reducible repeat (first | refine jX ?_ _ | refine jW ?_ | refine jY ?_ _)); exact BK398.out⟩, ⟨zb1 HB GE398⟩⟩
     ·rw [if_neg c28] at H
      have c28b0 : (t402 == t406) = false := beq_eq_false_iff_ne.mpr c28
      have c28b1 : (t402 != t406) = true := bne_iff_ne.mpr c28
      have H' := jA H
      clear H
      go_wp2
      repeat (go_quiet (fail); try go_wp2)
      go_meet
      case rel => exact ⟨_, (true), zz, H', ⟨by first | omega | exact Nat.le_refl _⟩, ⟨by (with_reducible repeat (first | apply jR | apply jQ | apply jS)); exact Kd.R_mono HO387.out (fun _ hk => ⟨hk.1.1.1.2, ⟨hk.1.2, hk.1.1.2⟩⟩)⟩, ⟨by (with_reducible repeat (first | apply jR | apply jQ | apply jS)); exact Kd.R_mono HO394.out (fun _ hk => ⟨hk.1.1.1.2, ⟨hk.1.2, hk.1.1.2⟩⟩)⟩, ⟨by (with_reducible repeat (first | apply jR | apply jQ | apply jS)); exact Kd.R_mono HO401.out (fun _ hk => ⟨hk.1.1.1.2, ⟨hk.1.1.2, hk.1.2⟩⟩)⟩, ⟨by (with_reducible repeat (first | apply jR | apply jQ | apply jS)); exact Kd.R_mono HO410.out (fun _ hk => trivial)⟩, ⟨by (with_reducible repeat (first | refine jX ?_ _ | refine jW ?_ | refine jY ?_ _)); exact BK398.out⟩, ⟨zb1 HB GE398⟩⟩
    ·rw [if_neg c27] at H
     have c27b0 : (t388 == t390) = false := beq_eq_false_iff_ne.mpr c27
     have c27b1 : (t388 != t390) = true := bne_iff_ne.mpr c27
     have H' := jA H
     clear H
     go_wp2
     repeat (go_quiet (fail); try go_wp2)
     go_meet
     case rel => exact ⟨_, (true), zz, H', ⟨by first | omega | exact Nat.le_refl _⟩, ⟨by (with_reducible repeat (first | apply jR | apply jQ | apply jS)); exact Kd.R_mono HO387.out (fun _ hk => ⟨hk.1.1.1.2, ⟨hk.1.2, hk.1.1.2⟩⟩)⟩, ⟨by (with_reducible repeat (first | apply jR | apply jQ | apply jS)); exact Kd.R_mono HO394.out (fun _ hk => ⟨hk.1.1.1.2, ⟨hk.1.2, hk.1.1.2⟩⟩)⟩, ⟨by (with_reducible repeat (first | apply jR | apply jQ | apply jS)); exact Kd.R_mono HO401.out (fun _ hk => ⟨hk.1.1.1.2, ⟨hk.1.1.2, hk.1.2⟩⟩)⟩, ⟨by (with_reducible repeat (first | apply jR | apply jQ | apply jS)); exact Kd.R_mono HO410.out (fun _ hk => trivial)⟩, ⟨by (with_reducible repeat (first | refine jX ?_ _ | refine jW ?_ | refine jY ?_ _)); exact BK398.out⟩, ⟨zb1 HB GE398⟩⟩
   ·rw [if_neg c26] at H
    have c26b0 : (t389 == t391) = false := beq_eq_false_iff_ne.mpr c26
    have c26b1 : (t389 != t391) = true := bne_iff_ne.mpr c26
    (first | rw [c26b0] | (simp only [i64_w, i32_w]; rw [c26b0]) | skip)
    have H' := jA H
    clear H
    go_wp2
    repeat (go_quiet (fail); try go_wp2)
    go_meet
    case rel => exact ⟨_, (true), zz, H', ⟨by first | omega | exact Nat.le_refl _⟩, ⟨by (with_reducible repeat (first | apply jR | apply jQ | apply jS)); exact Kd.R_mono HO387.out (fun _ hk => ⟨hk.1.1.1.2, ⟨hk.1.2, hk.1.1.2⟩⟩)⟩, ⟨by (with_reducible repeat (first | apply jR | apply jQ | apply jS)); exact Kd.R_mono HO394.out (fun _ hk => ⟨hk.1.1.1.2, ⟨hk.1.2, hk.1.1.2⟩⟩)⟩, ⟨by (with_reducible repeat (first | apply jR | apply jQ | apply jS)); exact Kd.R_mono HO401.out (fun _ hk => ⟨hk.1.1.1.2, ⟨hk.1.1.2, hk.1.2⟩⟩)⟩, ⟨by (with_reducible repeat (first | apply jR | apply jQ | apply jS)); exact Kd.R_mono HO410.out (fun _ hk => trivial)⟩, ⟨by (with_reducible repeat (first | refine jX ?_ _ | refine jW ?_ | refine jY ?_ _)); exact BK398.out⟩, ⟨zb1 HB GE398⟩⟩
  case rest =>
   clear HC12
   try clear c1
   try clear c2
   try clear p2
   try clear c3
   try clear c11
   try clear c26
   try clear c26b0
   try clear c26b1
   try clear c27
   try clear c27b0
   try clear c27b1
   try clear c28
   try clear c28b0
   try clear c28b1
   try clear c30
   try clear c31
   try clear c31b0
   try clear c31b1
   try clear c33
   try clear hcz19_0
   try clear hcz19_1
   try clear hcz19_2
   try clear hcz22_0
   try clear hcz22_1
   try clear hcz22_2
   try clear hfz19_0
   try clear hfz19_1
   try clear hfz19_2
   try clear hfz22_0
   try clear hfz22_1
   try clear hfz22_2
   obtain ⟨kq, x112_11, rfl, HA, HJ11, HO_3, HO_9, HO_11, HO_15, BK398, HB⟩ := hcut
   cases kq with
   | zero => exact absurd HA.out (by simp [laws_FnTries.j0])
   | succ kj11 =>
    have H := HA.out
    clear HA
    simp only [laws_FnTries.j0] at H
    by_cases c48 : x112_11 = true
    ·subst c48
     have H1 : (some false) = some r := by rw [if_pos rfl] at H; exact H
     clear H
     have H := H1
     clear H1
     obtain rfl := je H
     go_wp2
     repeat (go_quiet (fail); try go_wp2)
     go_ret
     exact ⟨by first | rfl | (simp [errW_none, errW_some] <;> rfl) | (simp [*, errW_none, errW_some] <;> rfl), zb1 HB GE398⟩
    ·as_aux_lemma =>
     replace c48 := Bool.eq_false_iff.mpr c48
     subst c48
     have H1 : (if t402 = 0 then ((impl_CueState.f kj11 t392 t395).bind fun bt418 => (if bt418.2 = 0 then (if bt418.1 ≥ 2 then (some false) else ((impl_AreTries.f kj11 t399).bind fun t420 => (if t420 = true then (laws_FnTries.j1 kj11 t384 t385 t388 t389 t407 t408) else (some false)))) else (some false))) else (laws_FnTries.j1 kj11 t384 t385 t388 t389 t407 t408)) = some r := by rw [if_neg (show ¬ (false = true) by decide)] at H; exact H
     clear H
     have H := H1
     clear H1
     have HC49 := jA H
     clear H
     go_upto_if 114 with (fail)
     repeat (go_quiet (fail); go_upto_if 114 with (fail))
     go_cut [] (fun wc => ∃ (kq : Nat), Aside0 (laws_FnTries.j1 kq t384 t385 t388 t389 t407 t408 = some r) ∧ Aside0 (kq ≤ kj11) ∧ Aside0 (Kd.R k36 36 wc w.heap.size (fun k_ => k_ ≠ gb398) (.slice Ao14 t384.length co14) t384) ∧ Aside0 (Kd.R (Kd.int .i64) 2 wc w.heap.size (fun _ => True) v409 t407) ∧ Aside0 (wc.heap[gb398]? = some (.cells #[.int .i64 t395, .int .i64 t396, .bool t397] 36 (0, 0))) ∧ Aside0 (Below w.heap.size w wc))
     case first =>
      have H := HC49.out
      clear HC49
      by_cases c50 : t402 = 0
      ·as_aux_lemma =>
       rw [if_pos c50] at H
       have c50b0 : (t402 == 0) = true := beq_iff_eq.mpr c50
       have c50b1 : (t402 != 0) = false := bne_eq_false_iff_eq.mpr c50
       clear c50
       (first | rw [c50b0] | (simp only [i64_w, i32_w]; rw [c50b0]) | skip)
       replace H := jG.mp H
       obtain ⟨⟨t418, t419⟩, A510, H⟩ := H
       replace H : (if t419 = 0 then (if t418 ≥ 2 then (some false) else ((impl_AreTries.f kj11 t399).bind fun t420 => (if t420 = true then (laws_FnTries.j1 kj11 t384 t385 t388 t389 t407 t408) else (some false)))) else (some false)) = some r := H
       have A51 := jA A510
       clear A510
       by_cases c52 : t419 = 0
       ·as_aux_lemma =>
        rw [if_pos c52] at H
        have c52b0 : (t419 == 0) = true := beq_iff_eq.mpr c52
        have c52b1 : (t419 != 0) = false := bne_eq_false_iff_eq.mpr c52
        clear c52
        by_cases c53 : t418 ≥ 2
        ·rw [if_pos c53] at H
         have c53b0 : decide (2 ≤ t418) = true := jZ c53
         clear c53
         obtain rfl := je H
         have hcz54_0 : wc.cell? ⟨gb398, 0, none⟩ = some (.int .i64 t395) := (jC BK398.out 0).trans rfl
         have hcz54_1 : wc.cell? ⟨gb398, 1, none⟩ = some (.int .i64 t396) := (jC BK398.out 1).trans rfl
         have hcz54_2 : wc.cell? ⟨gb398, 2, none⟩ = some (.bool t397) := (jC BK398.out 2).trans rfl
         have hfz54_0 := jd BK398.out 0
         have hfz54_1 := jd BK398.out 1
         have hfz54_2 := jd BK398.out 2
         go_wp2_with (first | (go_at_call 21; (with_reducible refine (impl_CueState.calls kj11 _ _ t392 t395 t418 t419 _ ?side1 ?side2 A51.out).mono ?_); (case side1 => repeat (first | exact (jD HO_9.out).2.2 | (with_reducible refine jN ?_ _) | (with_reducible refine jM ?_ _) | (with_reducible refine jT ?_))); (case side2 => exact (jD HO_9.out).2.1); rintro e w55 ⟨rfl, hb⟩; have n0_ := jA (jK (zo HO_3) hb); have n1_ := jA (jK (zo HO_9) hb); have n2_ := jA (jK (zo HO_11) hb); have n3_ := jA (jK (zo HO_15) hb); have n4_ := jA (jb (g := gb398) (o := .cells #[.int .i64 t395, .int .i64 t396, .bool t397] 36 (0, 0)) (zk BK398) hb); have n5_ := jA (jH (zb1 HB GE398) hb); clear HO_3; clear HO_9; clear HO_11; clear HO_15; clear BK398; clear HB; have HO_3 := n0_; have HO_9 := n1_; have HO_11 := n2_; have HO_15 := n3_; have BK398 := n4_; have HB := n5_; clear n0_ n1_ n2_ n3_ n4_ n5_; (try clear hb); (try clear hb2); (try clear hk); (try clear hi)))
         repeat (go_quiet (first | (go_at_call 21; (with_reducible refine (impl_CueState.calls kj11 _ _ t392 t395 t418 t419 _ ?side1 ?side2 A51.out).mono ?_); (case side1 => repeat (first | exact (jD HO_9.out).2.2 | (with_reducible refine jN ?_ _) | (with_reducible refine jM ?_ _) | (with_reducible refine jT ?_))); (case side2 => exact (jD HO_9.out).2.1); rintro e w55 ⟨rfl, hb⟩; have n0_ := jA (jK (zo HO_3) hb); have n1_ := jA (jK (zo HO_9) hb); have n2_ := jA (jK (zo HO_11) hb); have n3_ := jA (jK (zo HO_15) hb); have n4_ := jA (jb (g := gb398) (o := .cells #[.int .i64 t395, .int .i64 t396, .bool t397] 36 (0, 0)) (zk BK398) hb); have n5_ := jA (jH (zb1 HB GE398) hb); clear HO_3; clear HO_9; clear HO_11; clear HO_15; clear BK398; clear HB; have HO_3 := n0_; have HO_9 := n1_; have HO_11 := n2_; have HO_15 := n3_; have BK398 := n4_; have HB := n5_; clear n0_ n1_ n2_ n3_ n4_ n5_; (try clear hb); (try clear hb2); (try clear hk); (try clear hi))); try go_wp2_with (first | (go_at_call 21; (with_reducible refine (impl_CueState.calls kj11 _ _ t392 t395 t418 t419 _ ?side1 ?side2 A51.out).mono ?_); (case side1 => repeat (first | exact (jD HO_9.out).2.2 | (with_reducible refine jN ?_ _) | (with_reducible refine jM ?_ _) | (with_reducible refine jT ?_))); (case side2 => exact (jD HO_9.out).2.1); rintro e w55 ⟨rfl, hb⟩; have n0_ := jA (jK (zo HO_3) hb); have n1_ := jA (jK (zo HO_9) hb); have n2_ := jA (jK (zo HO_11) hb); have n3_ := jA (jK (zo HO_15) hb); have n4_ := jA (jb (g := gb398) (o := .cells #[.int .i64 t395, .int .i64 t396, .bool t397] 36 (0, 0)) (zk BK398) hb); have n5_ := jA (jH (zb1 HB GE398) hb); clear HO_3; clear HO_9; clear HO_11; clear HO_15; clear BK398; clear HB; have HO_3 := n0_; have HO_9 := n1_; have HO_11 := n2_; have HO_15 := n3_; have BK398 := n4_; have HB := n5_; clear n0_ n1_ n2_ n3_ n4_ n5_; (try clear hb); (try clear hb2); (try clear hk); (try clear hi))))
         go_ret
         exact ⟨by first | rfl | (simp [errW_none, errW_some] <;> rfl) | (simp [*, errW_none, errW_some] <;> rfl), zb1 HB GE398⟩
        ·as_aux_lemma =>
         rw [if_neg c53] at H
         have c53b0 : decide (2 ≤ t418) = false := jg c53
         clear c53
         replace H := jG.mp H
         obtain ⟨t420, A560, H⟩ := H
         replace H : (if t420 = true then (laws_FnTries.j1 kj11 t384 t385 t388 t389 t407 t408) else (some false)) = some r := H
         have A56 := jA A560
         clear A560
         by_cases c57 : t420 = true
         ·subst c57
          have H1 : (laws_FnTries.j1 kj11 t384 t385 t388 t389 t407 t408) = some r := by rw [if_pos rfl] at H; exact H
          clear H
          have H := H1
          clear H1
          have H' := jA H
          clear H
          have hcz58_0 : wc.cell? ⟨gb398, 0, none⟩ = some (.int .i64 t395) := (jC BK398.out 0).trans rfl
          have hcz58_1 : wc.cell? ⟨gb398, 1, none⟩ = some (.int .i64 t396) := (jC BK398.out 1).trans rfl
          have hcz58_2 : wc.cell? ⟨gb398, 2, none⟩ = some (.bool t397) := (jC BK398.out 2).trans rfl
          have hfz58_0 := jd BK398.out 0
          have hfz58_1 := jd BK398.out 1
          have hfz58_2 := jd BK398.out 2
          go_wp2_with (first | (go_at_call 21; (with_reducible refine (impl_CueState.calls kj11 _ _ t392 t395 t418 t419 _ ?side1 ?side2 A51.out).mono ?_); (case side1 => repeat (first | exact (jD HO_9.out).2.2 | (with_reducible refine jN ?_ _) | (with_reducible refine jM ?_ _) | (with_reducible refine jT ?_))); (case side2 => exact (jD HO_9.out).2.1); rintro e w59 ⟨rfl, hb⟩; have n0_ := jA (jK (zo HO_3) hb); have n1_ := jA (jK (zo HO_9) hb); have n2_ := jA (jK (zo HO_11) hb); have n3_ := jA (jK (zo HO_15) hb); have n4_ := jA (jb (g := gb398) (o := .cells #[.int .i64 t395, .int .i64 t396, .bool t397] 36 (0, 0)) (zk BK398) hb); have n5_ := jA (jH (zb1 HB GE398) hb); clear HO_3; clear HO_9; clear HO_11; clear HO_15; clear BK398; clear HB; have HO_3 := n0_; have HO_9 := n1_; have HO_11 := n2_; have HO_15 := n3_; have BK398 := n4_; have HB := n5_; clear n0_ n1_ n2_ n3_ n4_ n5_; (try clear hb); (try clear hb2); (try clear hk); (try clear hi); obtain ⟨Ao60, co60, eo60⟩ := Kd.R_slice HO_11.out; subst eo60) | (go_at_call 16; (with_reducible refine (impl_AreTries.calls kj11 _ _ t399 true _ ?side1 ?side2 A56.out).mono ?_); (case side1 => repeat (first | exact (jD HO_11.out).2.2 | (with_reducible refine jN ?_ _) | (with_reducible refine jM ?_ _) | (with_reducible refine jT ?_))); (case side2 => exact (jD HO_11.out).2.1); rintro e w61 ⟨rfl, hb⟩; have n0_ := jA (jK (zo HO_3) hb); have n1_ := jA (jK (zo HO_9) hb); have n2_ := jA (jK (zo HO_11) hb); have n3_ := jA (jK (zo HO_15) hb); have n4_ := jA (jb (g := gb398) (o := .cells #[.int .i64 t395, .int .i64 t396, .bool t397] 36 (0, 0)) (zk BK398) hb); have n5_ := jA (jH (zb1 HB GE398) hb); clear HO_3; clear HO_9; clear HO_11; clear HO_15; clear BK398; clear HB; have HO_3 := n0_; have HO_9 := n1_; have HO_11 := n2_; have HO_15 := n3_; have BK398 := n4_; have HB := n5_; clear n0_ n1_ n2_ n3_ n4_ n5_; (try clear hb); (try clear hb2); (try clear hk); (try clear hi)))
          repeat (go_quiet (first | (go_at_call 21; (with_reducible refine (impl_CueState.calls kj11 _ _ t392 t395 t418 t419 _ ?side1 ?side2 A51.out).mono ?_); (case side1 => repeat (first | exact (jD HO_9.out).2.2 | (with_reducible refine jN ?_ _) | (with_reducible refine jM ?_ _) | (with_reducible refine jT ?_))); (case side2 => exact (jD HO_9.out).2.1); rintro e w59 ⟨rfl, hb⟩; have n0_ := jA (jK (zo HO_3) hb); have n1_ := jA (jK (zo HO_9) hb); have n2_ := jA (jK (zo HO_11) hb); have n3_ := jA (jK (zo HO_15) hb); have n4_ := jA (jb (g := gb398) (o := .cells #[.int .i64 t395, .int .i64 t396, .bool t397] 36 (0, 0)) (zk BK398) hb); have n5_ := jA (jH (zb1 HB GE398) hb); clear HO_3; clear HO_9; clear HO_11; clear HO_15; clear BK398; clear HB; have HO_3 := n0_; have HO_9 := n1_; have HO_11 := n2_; have HO_15 := n3_; have BK398 := n4_; have HB := n5_; clear n0_ n1_ n2_ n3_ n4_ n5_; (try clear hb); (try clear hb2); (try clear hk); (try clear hi); obtain ⟨Ao60, co60, eo60⟩ := Kd.R_slice HO_11.out; subst eo60) | (go_at_call 16; (with_reducible refine (impl_AreTries.calls kj11 _ _ t399 true _ ?side1 ?side2 A56.out).mono ?_); (case side1 => repeat (first | exact (jD HO_11.out).2.2 | (with_reducible refine jN ?_ _) | (with_reducible refine jM ?_ _) | (with_reducible refine jT ?_))); (case side2 => exact (jD HO_11.out).2.1); rintro e w61 ⟨rfl, hb⟩; have n0_ := jA (jK (zo HO_3) hb); have n1_ := jA (jK (zo HO_9) hb); have n2_ := jA (jK (zo HO_11) hb); have n3_ := jA (jK (zo HO_15) hb); have n4_ := jA (jb (g := gb398) (o := .cells #[.int .i64 t395, .int .i64 t396, .bool t397] 36 (0, 0)) (zk BK398) hb); have n5_ := jA (jH (zb1 HB GE398) hb); clear HO_3; clear HO_9; clear HO_11; clear HO_15; clear BK398; clear HB; have HO_3 := n0_; have HO_9 := n1_; have HO_11 := n2_; have HO_15 := n3_; have BK398 := n4_; have HB := n5_; clear n0_ n1_ n2_ n3_ n4_ n5_; (try clear hb); (try clear hb2); (try clear hk); (try clear hi))); try go_wp2_with (first | (go_at_call 21; (with_reducible refine (impl_CueState.calls kj11 _ _ t392 t395 t418 t419 _ ?side1 ?side2 A51.out).mono ?_); (case side1 => repeat (first | exact (jD HO_9.out).2.2 | (with_reducible refine jN ?_ _) | (with_reducible refine jM ?_ _) | (with_reducible refine jT ?_))); (case side2 => exact (jD HO_9.out).2.1); rintro e w59 ⟨rfl, hb⟩; have n0_ := jA (jK (zo HO_3) hb); have n1_ := jA (jK (zo HO_9) hb); have n2_ := jA (jK (zo HO_11) hb); have n3_ := jA (jK (zo HO_15) hb); have n4_ := jA (jb (g := gb398) (o := .cells #[.int .i64 t395, .int .i64 t396, .bool t397] 36 (0, 0)) (zk BK398) hb); have n5_ := jA (jH (zb1 HB GE398) hb); clear HO_3; clear HO_9; clear HO_11; clear HO_15; clear BK398; clear HB; have HO_3 := n0_; have HO_9 := n1_; have HO_11 := n2_; have HO_15 := n3_; have BK398 := n4_; have HB := n5_; clear n0_ n1_ n2_ n3_ n4_ n5_; (try clear hb); (try clear hb2); (try clear hk); (try clear hi); obtain ⟨Ao60, co60, eo60⟩ := Kd.R_slice HO_11.out; subst eo60) | (go_at_call 16; (with_reducible refine (impl_AreTries.calls kj11 _ _ t399 true _ ?side1 ?side2 A56.out).mono ?_); (case side1 => repeat (first | exact (jD HO_11.out).2.2 | (with_reducible refine jN ?_ _) | (with_reducible refine jM ?_ _) | (with_reducible refine jT ?_))); (case side2 => exact (jD HO_11.out).2.1); rintro e w61 ⟨rfl, hb⟩; have n0_ := jA (jK (zo HO_3) hb); have n1_ := jA (jK (zo HO_9) hb); have n2_ := jA (jK (zo HO_11) hb); have n3_ := jA (jK (zo HO_15) hb); have n4_ := jA (jb (g := gb398) (o := .cells #[.int .i64 t395, .int .i64 t396, .bool t397] 36 (0, 0)) (zk BK398) hb); have n5_ := jA (jH (zb1 HB GE398) hb); clear HO_3; clear HO_9; clear HO_11; clear HO_15; clear BK398; clear HB; have HO_3 := n0_; have HO_9 := n1_; have HO_11 := n2_; have HO_15 := n3_; have BK398 := n4_; have HB := n5_; clear n0_ n1_ n2_ n3_ n4_ n5_; (try clear hb); (try clear hb2); (try clear hk); (try clear hi))))
          go_meet
          case rel => exact ⟨_, H', ⟨by have := HJ11.out; first | omega | exact Nat.le_refl _⟩, ⟨by (with_reducible repeat (first | apply jR | apply jQ | apply jS)); exact Kd.R_mono HO_3.out (fun _ hk => hk.2.2)⟩, ⟨by (with_reducible repeat (first | apply jR | apply jQ | apply jS)); exact HO_15.out⟩, ⟨by (with_reducible repeat (first | refine jX ?_ _ | refine jW ?_ | refine jY ?_ _)); exact BK398.out⟩, ⟨zb1 HB GE398⟩⟩
         ·replace c57 := Bool.eq_false_iff.mpr c57
          subst c57
          have H1 : (some false) = some r := by rw [if_neg (show ¬ (false = true) by decide)] at H; exact H
          clear H
          have H := H1
          clear H1
          obtain rfl := je H
          have hcz62_0 : wc.cell? ⟨gb398, 0, none⟩ = some (.int .i64 t395) := (jC BK398.out 0).trans rfl
          have hcz62_1 : wc.cell? ⟨gb398, 1, none⟩ = some (.int .i64 t396) := (jC BK398.out 1).trans rfl
          have hcz62_2 : wc.cell? ⟨gb398, 2, none⟩ = some (.bool t397) := (jC BK398.out 2).trans rfl
          have hfz62_0 := jd BK398.out 0
          have hfz62_1 := jd BK398.out 1
          have hfz62_2 := jd BK398.out 2
          go_wp2_with (first | (go_at_call 21; (with_reducible refine (impl_CueState.calls kj11 _ _ t392 t395 t418 t419 _ ?side1 ?side2 A51.out).mono ?_); (case side1 => repeat (first | exact (jD HO_9.out).2.2 | (with_reducible refine jN ?_ _) | (with_reducible refine jM ?_ _) | (with_reducible refine jT ?_))); (case side2 => exact (jD HO_9.out).2.1); rintro e w63 ⟨rfl, hb⟩; have n0_ := jA (jK (zo HO_3) hb); have n1_ := jA (jK (zo HO_9) hb); have n2_ := jA (jK (zo HO_11) hb); have n3_ := jA (jK (zo HO_15) hb); have n4_ := jA (jb (g := gb398) (o := .cells #[.int .i64 t395, .int .i64 t396, .bool t397] 36 (0, 0)) (zk BK398) hb); have n5_ := jA (jH (zb1 HB GE398) hb); clear HO_3; clear HO_9; clear HO_11; clear HO_15; clear BK398; clear HB; have HO_3 := n0_; have HO_9 := n1_; have HO_11 := n2_; have HO_15 := n3_; have BK398 := n4_; have HB := n5_; clear n0_ n1_ n2_ n3_ n4_ n5_; (try clear hb); (try clear hb2); (try clear hk); (try clear hi); obtain ⟨Ao64, co64, eo64⟩ := Kd.R_slice HO_11.out; subst eo64) | (go_at_call 16; (with_reducible refine (impl_AreTries.calls kj11 _ _ t399 false _ ?side1 ?side2 A56.out).mono ?_); (case side1 => repeat (first | exact (jD HO_11.out).2.2 | (with_reducible refine jN ?_ _) | (with_reducible refine jM ?_ _) | (with_reducible refine jT ?_))); (case side2 => exact (jD HO_11.out).2.1); rintro e w65 ⟨rfl, hb⟩; have n0_ := jA (jK (zo HO_3) hb); have n1_ := jA (jK (zo HO_9) hb); have n2_ := jA (jK (zo HO_11) hb); have n3_ := jA (jK (zo HO_15) hb); have n4_ := jA (jb (g := gb398) (o := .cells #[.int .i64 t395, .int .i64 t396, .bool t397] 36 (0, 0)) (zk BK398) hb); have n5_ := jA (jH (zb1 HB GE398) hb); clear HO_3; clear HO_9; clear HO_11; clear HO_15; clear BK398; clear HB; have HO_3 := n0_; have HO_9 := n1_; have HO_11 := n2_; have HO_15 := n3_; have BK398 := n4_; have HB := n5_; clear n0_ n1_ n2_ n3_ n4_ n5_; (try clear hb); (try clear hb2); (try clear hk); (try clear hi)))
          repeat (go_quiet (first | (go_at_call 21; (with_reducible refine (impl_CueState.calls kj11 _ _ t392 t395 t418 t419 _ ?side1 ?side2 A51.out).mono ?_); (case side1 => repeat (first | exact (jD HO_9.out).2.2 | (with_reducible refine jN ?_ _) | (with_reducible refine jM ?_ _) | (with_reducible refine jT ?_))); (case side2 => exact (jD HO_9.out).2.1); rintro e w63 ⟨rfl, hb⟩; have n0_ := jA (jK (zo HO_3) hb); have n1_ := jA (jK (zo HO_9) hb); have n2_ := jA (jK (zo HO_11) hb); have n3_ := jA (jK (zo HO_15) hb); have n4_ := jA (jb (g := gb398) (o := .cells #[.int .i64 t395, .int .i64 t396, .bool t397] 36 (0, 0)) (zk BK398) hb); have n5_ := jA (jH (zb1 HB GE398) hb); clear HO_3; clear HO_9; clear HO_11; clear HO_15; clear BK398; clear HB; have HO_3 := n0_; have HO_9 := n1_; have HO_11 := n2_; have HO_15 := n3_; have BK398 := n4_; have HB := n5_; clear n0_ n1_ n2_ n3_ n4_ n5_; (try clear hb); (try clear hb2); (try clear hk); (try clear hi); obtain ⟨Ao64, co64, eo64⟩ := Kd.R_slice HO_11.out; subst eo64) | (go_at_call 16; (with_reducible refine (impl_AreTries.calls kj11 _ _ t399 false _ ?side1 ?side2 A56.out).mono ?_); (case side1 => repeat (first | exact (jD HO_11.out).2.2 | (with_reducible refine jN ?_ _) | (with_reducible refine jM ?_ _) | (with_reducible refine jT ?_))); (case side2 => exact (jD HO_11.out).2.1); rintro e w65 ⟨rfl, hb⟩; have n0_ := jA (jK (zo HO_3) hb); have n1_ := jA (jK (zo HO_9) hb); have n2_ := jA (jK (zo HO_11) hb); have n3_ := jA (jK (zo HO_15) hb); have n4_ := jA (jb (g := gb398) (o := .cells #[.int .i64 t395, .int .i64 t396, .bool t397] 36 (0, 0)) (zk BK398) hb); have n5_ := jA (jH (zb1 HB GE398) hb); clear HO_3; clear HO_9; clear HO_11; clear HO_15; clear BK398; clear HB; have HO_3 := n0_; have HO_9 := n1_; have HO_11 := n2_; have HO_15 := n3_; have BK398 := n4_; have HB := n5_; clear n0_ n1_ n2_ n3_ n4_ n5_; (try clear hb); (try clear hb2); (try clear hk); (try clear hi))); try go_wp2_with (first | (go_at_call 21; (with_reducible refine (impl_CueState.calls kj11 _ _ t392 t395 t418 t419 _ ?side1 ?side2 A51.out).mono ?_); (case side1 => repeat (first | exact (jD HO_9.out).2.2 | (with_reducible refine jN ?_ _) | (with_reducible refine jM ?_ _) | (with_reducible refine jT ?_))); (case side2 => exact (jD HO_9.out).2.1); rintro e w63 ⟨rfl, hb⟩; have n0_ := jA (jK (zo HO_3) hb); have n1_ := jA (jK (zo HO_9) hb); have n2_ := jA (jK (zo HO_11) hb); have n3_ := jA (jK (zo HO_15) hb); have n4_ := jA (jb (g := gb398) (o := .cells #[.int .i64 t395, .int .i64 t396, .bool t397] 36 (0, 0)) (zk BK398) hb); have n5_ := jA (jH (zb1 HB GE398) hb); clear HO_3; clear HO_9; clear HO_11; clear HO_15; clear BK398; clear HB; have HO_3 := n0_; have HO_9 := n1_; have HO_11 := n2_; have HO_15 := n3_; have BK398 := n4_; have HB := n5_; clear n0_ n1_ n2_ n3_ n4_ n5_; (try clear hb); (try clear hb2); (try clear hk); (try clear hi); obtain ⟨Ao64, co64, eo64⟩ := Kd.R_slice HO_11.out; subst eo64) | (go_at_call 16; (with_reducible refine (impl_AreTries.calls kj11 _ _ t399 false _ ?side1 ?side2 A56.out).mono ?_); (case side1 => repeat (first | exact (jD HO_11.out).2.2 | (with_reducible refine jN ?_ _) | (with_reducible refine jM ?_ _) | (with_reducible refine jT ?_))); (case side2 => exact (jD HO_11.out).2.1); rintro e w65 ⟨rfl, hb⟩; have n0_ := jA (jK (zo HO_3) hb); have n1_ := jA (jK (zo HO_9) hb); have n2_ := jA (jK (zo HO_11) hb); have n3_ := jA (jK (zo HO_15) hb); have n4_ := jA (jb (g := gb398) (o := .cells #[.int .i64 t395, .int .i64 t396, .bool t397] 36 (0, 0)) (zk BK398) hb); have n5_ := jA (jH (zb1 HB GE398) hb); clear HO_3; clear HO_9; clear HO_11; clear HO_15; clear BK398; clear HB; have HO_3 := n0_; have HO_9 := n1_; have HO_11 := n2_; have HO_15 := n3_; have BK398 := n4_; have HB := n5_; clear n0_ n1_ n2_ n3_ n4_ n5_; (try clear hb); (try clear hb2); (try clear hk); (try clear hi))))
          go_ret
          exact ⟨by first | rfl | (simp [errW_none, errW_some] <;> rfl) | (simp [*, errW_none, errW_some] <;> rfl), zb1 HB GE398⟩
       ·rw [if_neg c52] at H
        have c52b0 : (t419 == 0) = false := beq_eq_false_iff_ne.mpr c52
        have c52b1 : (t419 != 0) = true := bne_iff_ne.mpr c52
        obtain rfl := je H
        have hcz66_0 : wc.cell? ⟨gb398, 0, none⟩ = some (.int .i64 t395) := (jC BK398.out 0).trans rfl
        have hcz66_1 : wc.cell? ⟨gb398, 1, none⟩ = some (.int .i64 t396) := (jC BK398.out 1).trans rfl
        have hcz66_2 : wc.cell? ⟨gb398, 2, none⟩ = some (.bool t397) := (jC BK398.out 2).trans rfl
        have hfz66_0 := jd BK398.out 0
        have hfz66_1 := jd BK398.out 1
        have hfz66_2 := jd BK398.out 2
        go_wp2_with (first | (go_at_call 21; (with_reducible refine (impl_CueState.calls kj11 _ _ t392 t395 t418 t419 _ ?side1 ?side2 A51.out).mono ?_); (case side1 => repeat (first | exact (jD HO_9.out).2.2 | (with_reducible refine jN ?_ _) | (with_reducible refine jM ?_ _) | (with_reducible refine jT ?_))); (case side2 => exact (jD HO_9.out).2.1); rintro e w67 ⟨rfl, hb⟩; have n0_ := jA (jK (zo HO_3) hb); have n1_ := jA (jK (zo HO_9) hb); have n2_ := jA (jK (zo HO_11) hb); have n3_ := jA (jK (zo HO_15) hb); have n4_ := jA (jb (g := gb398) (o := .cells #[.int .i64 t395, .int .i64 t396, .bool t397] 36 (0, 0)) (zk BK398) hb); have n5_ := jA (jH (zb1 HB GE398) hb); clear HO_3; clear HO_9; clear HO_11; clear HO_15; clear BK398; clear HB; have HO_3 := n0_; have HO_9 := n1_; have HO_11 := n2_; have HO_15 := n3_; have BK398 := n4_; have HB := n5_; clear n0_ n1_ n2_ n3_ n4_ n5_; (try clear hb); (try clear hb2); (try clear hk); (try clear hi)))
        repeat (go_quiet (first | (go_at_call 21; (with_reducible refine (impl_CueState.calls kj11 _ _ t392 t395 t418 t419 _ ?side1 ?side2 A51.out).mono ?_); (case side1 => repeat (first | exact (jD HO_9.out).2.2 | (with_reducible refine jN ?_ _) | (with_reducible refine jM ?_ _) | (with_reducible refine jT ?_))); (case side2 => exact (jD HO_9.out).2.1); rintro e w67 ⟨rfl, hb⟩; have n0_ := jA (jK (zo HO_3) hb); have n1_ := jA (jK (zo HO_9) hb); have n2_ := jA (jK (zo HO_11) hb); have n3_ := jA (jK (zo HO_15) hb); have n4_ := jA (jb (g := gb398) (o := .cells #[.int .i64 t395, .int .i64 t396, .bool t397] 36 (0, 0)) (zk BK398) hb); have n5_ := jA (jH (zb1 HB GE398) hb); clear HO_3; clear HO_9; clear HO_11; clear HO_15; clear BK398; clear HB; have HO_3 := n0_; have HO_9 := n1_; have HO_11 := n2_; have HO_15 := n3_; have BK398 := n4_; have HB := n5_; clear n0_ n1_ n2_ n3_ n4_ n5_; (try clear hb); (try clear hb2); (try clear hk); (try clear hi))); try go_wp2_with (first | (go_at_call 21; (with_reducible refine (impl_CueState.calls kj11 _ _ t392 t395 t418 t419 _ ?side1 ?side2 A51.out).mono ?_); (case side1 => repeat (first | exact (jD HO_9.out).2.2 | (with_reducible refine jN ?_ _) | (with_reducible refine jM ?_ _) | (with_reducible refine jT ?_))); (case side2 => exact (jD HO_9.out).2.1); rintro e w67 ⟨rfl, hb⟩; have n0_ := jA (jK (zo HO_3) hb); have n1_ := jA (jK (zo HO_9) hb); have n2_ := jA (jK (zo HO_11) hb); have n3_ := jA (jK (zo HO_15) hb); have n4_ := jA (jb (g := gb398) (o := .cells #[.int .i64 t395, .int .i64 t396, .bool t397] 36 (0, 0)) (zk BK398) hb); have n5_ := jA (jH (zb1 HB GE398) hb); clear HO_3; clear HO_9; clear HO_11; clear HO_15; clear BK398; clear HB; have HO_3 := n0_; have HO_9 := n1_; have HO_11 := n2_; have HO_15 := n3_; have BK398 := n4_; have HB := n5_; clear n0_ n1_ n2_ n3_ n4_ n5_; (try clear hb); (try clear hb2); (try clear hk); (try clear hi))))
        go_ret
        exact ⟨by first | rfl | (simp [errW_none, errW_some] <;> rfl) | (simp [*, errW_none, errW_some] <;> rfl), zb1 HB GE398⟩
      ·rw [if_neg c50] at H
       have c50b0 : (t402 == 0) = false := beq_eq_false_iff_ne.mpr c50
       have c50b1 : (t402 != 0) = true := bne_iff_ne.mpr c50
       (first | rw [c50b0] | (simp only [i64_w, i32_w]; rw [c50b0]) | skip)
       have H' := jA H
       clear H
       go_wp2
       repeat (go_quiet (fail); try go_wp2)
       go_meet
       case rel => exact ⟨_, H', ⟨by have := HJ11.out; first | omega | exact Nat.le_refl _⟩, ⟨by (with_reducible repeat (first | apply jR | apply jQ | apply jS)); exact Kd.R_mono HO_3.out (fun _ hk => hk.2.2)⟩, ⟨by (with_reducible repeat (first | apply jR | apply jQ | apply jS)); exact HO_15.out⟩, ⟨by (with_reducible repeat (first | refine jX ?_ _ | refine jW ?_ | refine jY ?_ _)); exact BK398.out⟩, ⟨zb1 HB GE398⟩⟩
     case rest =>
      clear HC49
      try clear c1
      try clear c2
      try clear p2
      try clear c3
      try clear c4
      try clear c5
      try clear c11
      try clear c26
      try clear c26b0
      try clear c26b1
      try clear c27
      try clear c27b0
      try clear c27b1
      try clear c28
      try clear c28b0
      try clear c28b1
      try clear c30
      try clear c31
      try clear c31b0
      try clear c31b1
      try clear c33
      try clear c48
      try clear c50
      try clear c50b0
      try clear c50b1
      try clear c52
      try clear c52b0
      try clear c52b1
      try clear c53
      try clear c53b0
      try clear c57
      try clear hcz19_0
      try clear hcz19_1
      try clear hcz19_2
      try clear hcz22_0
      try clear hcz22_1
      try clear hcz22_2
      try clear hcz54_0
      try clear hcz54_1
      try clear hcz54_2
      try clear hcz58_0
      try clear hcz58_1
      try clear hcz58_2
      try clear hcz62_0
      try clear hcz62_1
      try clear hcz62_2
      try clear hcz66_0
      try clear hcz66_1
      try clear hcz66_2
      try clear hfz19_0
      try clear hfz19_1
      try clear hfz19_2
      try clear hfz22_0
      try clear hfz22_1
      try clear hfz22_2
      try clear hfz54_0
      try clear hfz54_1
      try clear hfz54_2
      try clear hfz58_0
      try clear hfz58_1
      try clear hfz58_2
      try clear hfz62_0
      try clear hfz62_1
      try clear hfz62_2
      try clear hfz66_0
      try clear hfz66_1
      try clear hfz66_2
      try clear p2
      obtain ⟨kq, HA, HJ48, HO_3, HO_15, BK398, HB⟩ := hcut
      cases kq with
      | zero => exact absurd HA.out (by simp [laws_FnTries.j1])
      | succ kj48 =>
       have H := HA.out
       clear HA
       simp only [laws_FnTries.j1] at H
       have H' := jA H
       clear H
       go_wp2
       repeat (go_quiet (fail); try go_wp2)
       go_loopg [21] kj48 (fun kq v21 w' => ∃ (x21_3 : Int), v21 = .int .i64 x21_3 ∧ Aside0 (laws_FnTries.l0 kq t384 t385 t388 t389 t407 t408 x21_3 = some r) ∧ Aside0 (kq ≤ kj48) ∧ Aside0 (Kd.R k36 36 w' w.heap.size (fun k_ => k_ ≠ gb398) (.slice Ao14 t384.length co14) t384) ∧ Aside0 (Kd.R (Kd.int .i64) 2 w' w.heap.size (fun _ => True) v409 t407) ∧ Aside0 (w'.heap[gb398]? = some (.cells #[.int .i64 t395, .int .i64 t396, .bool t397] 36 (0, 0))) ∧ Aside0 (Below w.heap.size w w'))
       case atStart => exact ⟨(1), zz, H', ⟨Nat.le_refl _⟩, ⟨by (with_reducible repeat (first | apply jR | apply jQ | apply jS)); exact HO_3.out⟩, ⟨by (with_reducible repeat (first | apply jR | apply jQ | apply jS)); exact HO_15.out⟩, ⟨by (with_reducible repeat (first | refine jX ?_ _ | refine jW ?_ | refine jY ?_ _)); exact BK398.out⟩, ⟨zb1 HB GE398⟩⟩
       case round =>
        clear H'
        try clear c1
        try clear c2
        try clear p2
        try clear c3
        try clear c4
        try clear c5
        try clear c11
        try clear c26
        try clear c26b0
        try clear c26b1
        try clear c27
        try clear c27b0
        try clear c27b1
        try clear c28
        try clear c28b0
        try clear c28b1
        try clear c30
        try clear c31
        try clear c31b0
        try clear c31b1
        try clear c33
        try clear c48
        try clear c50
        try clear c50b0
        try clear c50b1
        try clear c52
        try clear c52b0
        try clear c52b1
        try clear c53
        try clear c53b0
        try clear c57
        try clear hcz19_0
        try clear hcz19_1
        try clear hcz19_2
        try clear hcz22_0
        try clear hcz22_1
        try clear hcz22_2
        try clear hcz54_0
        try clear hcz54_1
        try clear hcz54_2
        try clear hcz58_0
        try clear hcz58_1
        try clear hcz58_2
        try clear hcz62_0
        try clear hcz62_1
        try clear hcz62_2
        try clear hcz66_0
        try clear hcz66_1
        try clear hcz66_2
        try clear hfz19_0
        try clear hfz19_1
        try clear hfz19_2
        try clear hfz22_0
        try clear hfz22_1
        try clear hfz22_2
        try clear hfz54_0
        try clear hfz54_1
        try clear hfz54_2
        try clear hfz58_0
        try clear hfz58_1
        try clear hfz58_2
        try clear hfz62_0
        try clear hfz62_1
        try clear hfz62_2
        try clear hfz66_0
        try clear hfz66_1
        try clear hfz66_2
        try clear p2
        obtain ⟨x21_3, rfl, HA, HK3, HO_3, HO_15, BK398, HB⟩ := hrel
        cases gk with
        | zero => exact absurd HA.out (by simp [laws_FnTries.l0])
        | succ k3 =>
         have H := HA.out
         clear HA
         simp only [laws_FnTries.l0] at H
         have HC68 := jA H
         clear H
         go_upto_region 18 with (fail)
         repeat (go_quiet (fail); go_upto_region 18 with (fail))
         go_cut [140] (fun v140 wc => ∃ (kq : Nat) (x140_67 : Bool), v140 = .bool x140_67 ∧ Aside0 (laws_FnTries.j3 kq t384 t385 t388 t389 t407 t408 x21_3 x140_67 = some r) ∧ Aside0 (kq ≤ k3) ∧ Aside0 (Kd.R k36 36 wc w.heap.size (fun k_ => k_ ≠ gb398) (.slice Ao14 t384.length co14) t384) ∧ Aside0 (Kd.R (Kd.int .i64) 2 wc w.heap.size (fun _ => True) v409 t407) ∧ Aside0 (wc.heap[gb398]? = some (.cells #[.int .i64 t395, .int .i64 t396, .bool t397] 36 (0, 0))) ∧ Aside0 (Below w.heap.size w wc))
         case first =>
          have H := HC68.out
          clear HC68
          by_cases c69 : t408 = 0
          ·rw [if_pos c69] at H
           have c69b0 : (t408 == 0) = true := beq_iff_eq.mpr c69
           have c69b1 : (t408 != 0) = false := bne_eq_false_iff_eq.mpr c69
           clear c69
           (first | rw [c69b0] | (simp only [i64_w, i32_w]; rw [c69b0]) | skip)
           have H' := jA H
           clear H
           obtain ⟨Ao70, co70, eo70⟩ := Kd.R_slice HO_15.out
           subst eo70
           go_wp2
           repeat (go_quiet (fail); try go_wp2)
           go_meet
           case rel => exact ⟨_, (decide (x21_3 < (t407.length : Int))), zz, H', ⟨by have := HJ11.out; have := HJ48.out; have := HK3.out; first | omega | exact Nat.le_refl _⟩, ⟨by (with_reducible repeat (first | apply jR | apply jQ | apply jS)); exact HO_3.out⟩, ⟨by (with_reducible repeat (first | apply jR | apply jQ | apply jS)); exact HO_15.out⟩, ⟨by (with_reducible repeat (first | refine jX ?_ _ | refine jW ?_ | refine jY ?_ _)); exact BK398.out⟩, ⟨zb1 HB GE398⟩⟩
          ·rw [if_neg c69] at H
           have c69b0 : (t408 == 0) = false := beq_eq_false_iff_ne.mpr c69
           have c69b1 : (t408 != 0) = true := bne_iff_ne.mpr c69
           (first | rw [c69b0] | (simp only [i64_w, i32_w]; rw [c69b0]) | skip)
           have H' := jA H
           clear H
           go_wp2
           repeat (go_quiet (fail); try go_wp2)
           go_meet
           case rel => exact ⟨_, (false), zz, H', ⟨by have := HJ11.out; have := HJ48.out; have := HK3.out; first | omega | exact Nat.le_refl _⟩, ⟨by (with_reducible repeat (first | apply jR | apply jQ | apply jS)); exact HO_3.out⟩, ⟨by (with_reducible repeat (first | apply jR | apply jQ | apply jS)); exact HO_15.out⟩, ⟨by (with_reducible repeat (first | refine jX ?_ _ | refine jW ?_ | refine jY ?_ _)); exact BK398.out⟩, ⟨zb1 HB GE398⟩⟩
         case rest =>
          clear HC68
          try clear c1
          try clear c2
          try clear p2
          try clear c3
          try clear c4
          try clear c5
          try clear c6
          try clear c11
          try clear c26
          try clear c26b0
          try clear c26b1
          try clear c27
          try clear c27b0
          try clear c27b1
          try clear c28
          try clear c28b0
          try clear c28b1
          try clear c30
          try clear c31
          try clear c31b0
          try clear c31b1
          try clear c33
          try clear c48
          try clear c50
          try clear c50b0
          try clear c50b1
          try clear c52
          try clear c52b0
          try clear c52b1
          try clear c53
          try clear c53b0
          try clear c57
          try clear c69
          try clear c69b0
          try clear c69b1
          try clear hcz19_0
          try clear hcz19_1
          try clear hcz19_2
          try clear hcz22_0
          try clear hcz22_1
          try clear hcz22_2
          try clear hcz54_0
          try clear hcz54_1
          try clear hcz54_2
          try clear hcz58_0
          try clear hcz58_1
          try clear hcz58_2
          try clear hcz62_0
          try clear hcz62_1
          try clear hcz62_2
          try clear hcz66_0
          try clear hcz66_1
          try clear hcz66_2
          try clear hfz19_0
          try clear hfz19_1
          try clear hfz19_2
          try clear hfz22_0
          try clear hfz22_1
          try clear hfz22_2
          try clear hfz54_0
          try clear hfz54_1
          try clear hfz54_2
          try clear hfz58_0
          try clear hfz58_1
          try clear hfz58_2
          try clear hfz62_0
          try clear hfz62_1
          try clear hfz62_2
          try clear hfz66_0
          try clear hfz66_1
          try clear hfz66_2
          try clear p2
          obtain ⟨kq, x140_67, rfl, HA, HJ67, HO_3, HO_15, BK398, HB⟩ := hcut
          cases kq with
          | zero => exact absurd HA.out (by simp [laws_FnTries.j3])
          | succ kj67 =>
           have H := HA.out
           clear HA
           simp only [laws_FnTries.j3] at H
           by_cases c71 : x140_67 = true
           ·as_aux_lemma =>
            subst c71
            have H1 : (if 0 ≤ x21_3 then (if x21_3 < (t407.length : Int) then (if 0 ≤ (wrap64 (x21_3 - 1)) then (if (wrap64 (x21_3 - 1)) < (t407.length : Int) then (if (rd t407 x21_3) < (wrap64 ((rd t407 (wrap64 (x21_3 - 1))) + 50)) then (some false) else (laws_FnTries.l0 kj67 t384 t385 t388 t389 t407 t408 (wrap64 (x21_3 + 1)))) else (none)) else (none)) else (none)) else (none)) = some r := by rw [if_pos rfl] at H; exact H
            clear H
            have H := H1
            clear H1
            by_cases c72 : 0 ≤ x21_3
            ·as_aux_lemma =>
             rw [if_pos c72] at H
             have c72b0 : decide (0 ≤ x21_3) = true := jZ c72
             clear c72
             by_cases c73 : x21_3 < (t407.length : Int)
             ·as_aux_lemma =>
              rw [if_pos c73] at H
              have c73b0 : decide (x21_3 < (t407.length : Int)) = true := jZ c73
              clear c73
              obtain ⟨ji74, hji74⟩ : ∃ j_ : Int, (wrap64 (x21_3 - 1)) = j_ := ⟨_, rfl⟩
              replace H : (if 0 ≤ (ji74) then (if (ji74) < (t407.length : Int) then (if (rd t407 x21_3) < (wrap64 ((rd t407 (ji74)) + 50)) then (some false) else (laws_FnTries.l0 kj67 t384 t385 t388 t389 t407 t408 (wrap64 (x21_3 + 1)))) else (none)) else (none)) = some r := by first | (rw [hji74] at H; exact H) | (simp only [hji74] at H ⊢; exact H)
              have hji74w : (IntKind.i64.wrap (x21_3 - 1)) = ji74 := (i64_w _).trans hji74
              by_cases c75 : 0 ≤ (ji74)
              ·as_aux_lemma =>
               rw [if_pos c75] at H
               have c75b0 : decide (0 ≤ (ji74)) = true := jZ c75
               clear c75
               by_cases c76 : (ji74) < (t407.length : Int)
               ·as_aux_lemma =>
                rw [if_pos c76] at H
                have c76b0 : decide ((ji74) < (t407.length : Int)) = true := jZ c76
                clear c76
                by_cases c77 : (rd t407 x21_3) < (wrap64 ((rd t407 (ji74)) + 50))
                ·rw [if_pos c77] at H
                 have c77b0 : decide ((rd t407 x21_3) < (wrap64 ((rd t407 (ji74)) + 50))) = true := jZ c77
                 clear c77
                 obtain rfl := je H
                 obtain ⟨Ao78, co78, eo78⟩ := Kd.R_slice HO_15.out
                 subst eo78
                 have p421 : 0 ≤ (x21_3 : Int) := jI za
                 have q421 : x21_3 < (t407.length : Int) := jI za
                 obtain ⟨ad421, e421, hx421_0⟩ := Kd.at_int (jD HO_15.out).2.2 x21_3 p421 q421
                 cases e421
                 replace p421 := eq_true p421
                 replace q421 := eq_true q421
                 have p422 : 0 ≤ ((ji74) : Int) := jI za
                 have q422 : (ji74) < (t407.length : Int) := jI za
                 obtain ⟨ad422, e422, hx422_0⟩ := Kd.at_int (jD HO_15.out).2.2 (ji74) p422 q422
                 obtain rfl : ad421 = ad422 := (by injection e422)
                 replace p422 := eq_true p422
                 replace q422 := eq_true q422
                 go_wp2
                 repeat (go_quiet (fail); try go_wp2)
                 go_ret
                 exact ⟨by first | rfl | (simp [errW_none, errW_some] <;> rfl) | (simp only [← hji74]; first | rfl | (simp [errW_none, errW_some] <;> rfl)) | (simp [*, errW_none, errW_some] <;> rfl), zb1 HB GE398⟩
                ·rw [if_neg c77] at H
                 have c77b0 : decide ((rd t407 x21_3) < (wrap64 ((rd t407 (ji74)) + 50))) = false := jg c77
                 clear c77
                 have H' := jA H
                 clear H
                 obtain ⟨Ao79, co79, eo79⟩ := Kd.R_slice HO_15.out
                 subst eo79
                 have p421 : 0 ≤ (x21_3 : Int) := jI za
                 have q421 : x21_3 < (t407.length : Int) := jI za
                 obtain ⟨ad421, e421, hx421_0⟩ := Kd.at_int (jD HO_15.out).2.2 x21_3 p421 q421
                 cases e421
                 replace p421 := eq_true p421
                 replace q421 := eq_true q421
                 have p422 : 0 ≤ ((ji74) : Int) := jI za
                 have q422 : (ji74) < (t407.length : Int) := jI za
                 obtain ⟨ad422, e422, hx422_0⟩ := Kd.at_int (jD HO_15.out).2.2 (ji74) p422 q422
                 obtain rfl : ad421 = ad422 := (by injection e422)
                 replace p422 := eq_true p422
                 replace q422 := eq_true q422
                 go_wp2
                 repeat (go_quiet (fail); try go_wp2)
                 go_roundg kj67
                 case measure => have := HJ11.out; have := HJ48.out; have := HK3.out; have := HJ67.out; omega
                 case rel => exact ⟨(wrap64 (x21_3 + 1)), zz, H', ⟨by have := HJ11.out; have := HJ48.out; have := HK3.out; have := HJ67.out; omega⟩, ⟨by (with_reducible repeat (first | apply jR | apply jQ | apply jS)); exact HO_3.out⟩, ⟨by (with_reducible repeat (first | apply jR | apply jQ | apply jS)); exact HO_15.out⟩, ⟨by (with_reducible repeat (first | refine jX ?_ _ | refine jW ?_ | refine jY ?_ _)); exact BK398.out⟩, ⟨zb1 HB GE398⟩⟩
               ·rw [if_neg c76] at H
                exact absurd H (by simp)
              ·rw [if_neg c75] at H
               exact absurd H (by simp)
             ·rw [if_neg c73] at H
              exact absurd H (by simp)
            ·rw [if_neg c72] at H
             exact absurd H (by simp)
           ·as_aux_lemma =>
            replace c71 := Bool.eq_false_iff.mpr c71
            subst c71
            have H1 : (if t389 = 0 then (laws_FnTries.j4 kj67 t384 t385 t388 ((t384.length : Int) == 40)) else (laws_FnTries.j4 kj67 t384 t385 t388 true)) = some r := by rw [if_neg (show ¬ (false = true) by decide)] at H; exact H
            clear H
            have H := H1
            clear H1
            have HC80 := jA H
            clear H
            go_upto_region 22 with (fail)
            repeat (go_quiet (fail); go_upto_region 22 with (fail))
            go_cut [160] (fun v160 wc => ∃ (kq : Nat) (x160_79 : Bool), v160 = .bool x160_79 ∧ Aside0 (laws_FnTries.j4 kq t384 t385 t388 x160_79 = some r) ∧ Aside0 (kq ≤ kj67) ∧ Aside0 (Kd.R k36 36 wc w.heap.size (fun k_ => k_ ≠ gb398) (.slice Ao14 t384.length co14) t384) ∧ Aside0 (wc.heap[gb398]? = some (.cells #[.int .i64 t395, .int .i64 t396, .bool t397] 36 (0, 0))) ∧ Aside0 (Below w.heap.size w wc))
            case first =>
             have H := HC80.out
             clear HC80
             by_cases c81 : t389 = 0
             ·rw [if_pos c81] at H
              have c81b0 : (t389 == 0) = true := beq_iff_eq.mpr c81
              have c81b1 : (t389 != 0) = false := bne_eq_false_iff_eq.mpr c81
              clear c81
              (first | rw [c81b0] | (simp only [i64_w, i32_w]; rw [c81b0]) | skip)
              have H' := jA H
              clear H
              go_wp2
              repeat (go_quiet (fail); try go_wp2)
              go_meet
              case rel => exact ⟨_, (((t384.length : Int) == 40)), zz, H', ⟨by have := HJ11.out; have := HJ48.out; have := HK3.out; have := HJ67.out; first | omega | exact Nat.le_refl _⟩, ⟨by (with_reducible repeat (first | apply jR | apply jQ | apply jS)); exact HO_3.out⟩, ⟨by (with_reducible repeat (first | refine jX ?_ _ | refine jW ?_ | refine jY ?_ _)); exact BK398.out⟩, ⟨zb1 HB GE398⟩⟩
             ·rw [if_neg c81] at H
              have c81b0 : (t389 == 0) = false := beq_eq_false_iff_ne.mpr c81
              have c81b1 : (t389 != 0) = true := bne_iff_ne.mpr c81
              (first | rw [c81b0] | (simp only [i64_w, i32_w]; rw [c81b0]) | skip)
              have H' := jA H
              clear H
              go_wp2
              repeat (go_quiet (fail); try go_wp2)
              go_meet
              case rel => exact ⟨_, (true), zz, H', ⟨by have := HJ11.out; have := HJ48.out; have := HK3.out; have := HJ67.out; first | omega | exact Nat.le_refl _⟩, ⟨by (with_reducible repeat (first | apply jR | apply jQ | apply jS)); exact HO_3.out⟩, ⟨by (with_reducible repeat (first | refine jX ?_ _ | refine jW ?_ | refine jY ?_ _)); exact BK398.out⟩, ⟨zb1 HB GE398⟩⟩
            case rest =>
             clear HC80
             try clear c1
             try clear c2
             try clear p2
             try clear c3
             try clear c4
             try clear p4
             try clear q4
             try clear hx4
             try clear c5
             try clear c6
             try clear p6
             try clear c7
             try clear c8
             try clear c11
             try clear c26
             try clear c26b0
             try clear c26b1
             try clear c27
             try clear c27b0
             try clear c27b1
             try clear c28
             try clear c28b0
             try clear c28b1
             try clear c30
             try clear c31
             try clear c31b0
             try clear c31b1
             try clear c33
             try clear p42
             try clear q42
             try clear hx42
             try clear c48
             try clear c50
             try clear c50b0
             try clear c50b1
             try clear c52
             try clear c52b0
             try clear c52b1
             try clear c53
             try clear c53b0
             try clear c57
             try clear p64
             try clear c69
             try clear c69b0
             try clear c69b1
             try clear c71
             try clear c72
             try clear c72b0
             try clear c73
             try clear c73b0
             try clear c75
             try clear c75b0
             try clear c76
             try clear c76b0
             try clear c77
             try clear c77b0
             try clear c81
             try clear c81b0
             try clear c81b1
             try clear hcz19_0
             try clear hcz19_1
             try clear hcz19_2
             try clear hcz22_0
             try clear hcz22_1
             try clear hcz22_2
             try clear hcz54_0
             try clear hcz54_1
             try clear hcz54_2
             try clear hcz58_0
             try clear hcz58_1
             try clear hcz58_2
             try clear hcz62_0
             try clear hcz62_1
             try clear hcz62_2
             try clear hcz66_0
             try clear hcz66_1
             try clear hcz66_2
             try clear hfz19_0
             try clear hfz19_1
             try clear hfz19_2
             try clear hfz22_0
             try clear hfz22_1
             try clear hfz22_2
             try clear hfz54_0
             try clear hfz54_1
             try clear hfz54_2
             try clear hfz58_0
             try clear hfz58_1
             try clear hfz58_2
             try clear hfz62_0
             try clear hfz62_1
             try clear hfz62_2
             try clear hfz66_0
             try clear hfz66_1
             try clear hfz66_2
             try clear hx421_0
             try clear hx422_0
             try clear p2
             try clear p421
             try clear p422
             try clear q421
             try clear q422
             obtain ⟨kq, x160_79, rfl, HA, HJ79, HO_3, BK398, HB⟩ := hcut
             cases kq with
             | zero => exact absurd HA.out (by simp [laws_FnTries.j4])
             | succ kj79 =>
              have H := HA.out
              clear HA
              simp only [laws_FnTries.j4] at H
              by_cases c82 : x160_79 = true
              ·subst c82
               have H1 : (some true) = some r := by rw [if_pos rfl] at H; exact H
               clear H
               have H := H1
               clear H1
               obtain rfl := je H
               go_wp2
               repeat (go_quiet (fail); try go_wp2)
               go_ret
               exact ⟨by first | rfl | (simp [errW_none, errW_some] <;> rfl) | (simp [*, errW_none, errW_some] <;> rfl), zb1 HB GE398⟩
              ·as_aux_lemma =>
               replace c82 := Bool.eq_false_iff.mpr c82
               subst c82
               have H1 : ((impl_AddTry.f kj79 t384 t385 t388 true).bind fun bt423 => ((impl_CueState.f kj79 bt423.1 t385).bind fun bt427 => (if bt423.2 = 0 then (if bt427.2 = 0 then (laws_FnTries.j5 kj79 t384 t385 t388 (bt427.1 != 2)) else (laws_FnTries.j5 kj79 t384 t385 t388 true)) else (laws_FnTries.j5 kj79 t384 t385 t388 true)))) = some r := by rw [if_neg (show ¬ (false = true) by decide)] at H; exact H
               clear H
               have H := H1
               clear H1
               replace H := jG.mp H
               obtain ⟨⟨t423, t426⟩, A830, H⟩ := H
               replace H : ((impl_CueState.f kj79 t423 t385).bind fun bt427 => (if t426 = 0 then (if bt427.2 = 0 then (laws_FnTries.j5 kj79 t384 t385 t388 (bt427.1 != 2)) else (laws_FnTries.j5 kj79 t384 t385 t388 true)) else (laws_FnTries.j5 kj79 t384 t385 t388 true))) = some r := H
               have A83 := jA A830
               clear A830
               replace H := jG.mp H
               obtain ⟨⟨t427, t428⟩, A840, H⟩ := H
               replace H : (if t426 = 0 then (if t428 = 0 then (laws_FnTries.j5 kj79 t384 t385 t388 (t427 != 2)) else (laws_FnTries.j5 kj79 t384 t385 t388 true)) else (laws_FnTries.j5 kj79 t384 t385 t388 true)) = some r := H
               have A84 := jA A840
               clear A840
               have HC85 := jA H
               clear H
               go_upto_region 26 with (first | (go_at_call 24; (with_reducible refine (impl_AddTry.calls kj79 _ _ t384 t385 t388 true t423 t426 _ ?side1 ?side2 A83.out).mono ?_); (case side1 => repeat (first | exact (jD HO_3.out).2.2 | (with_reducible refine jN ?_ _) | (with_reducible refine jM ?_ _) | (with_reducible refine jT ?_))); (case side2 => exact (jD HO_3.out).2.1); rintro e w86 ⟨v424, rfl, ho0, hb⟩; have n0_ := jA (Kd.R_elder' (zo HO_3) (Kd.R_base ho0) hb); have n1_ := jA (jc (Kd.R_newB (Kd.R_new' ho0 (Kd.R_lt (zo HO_3))) (g := gb398) (o := .cells #[.int .i64 t395, .int .i64 t396, .bool t397] 36 (0, 0)) (zk BK398)) (jP (zb1 HB GE398))); have n2_ := jA (jb (g := gb398) (o := .cells #[.int .i64 t395, .int .i64 t396, .bool t397] 36 (0, 0)) (zk BK398) hb); have n3_ := jA (jH (zb1 HB GE398) hb); clear HO_3; clear BK398; clear HB; have HO_3 := n0_; have HO425 := n1_; have BK398 := n2_; have HB := n3_; clear n0_ n1_ n2_ n3_; (try clear hb); (try clear hb2); (try clear hk); (try clear hi); (try clear ho0); obtain ⟨Ao87, co87, eo87⟩ := Kd.R_slice HO425.out; subst eo87) | (go_at_call 21; (with_reducible refine (impl_CueState.calls kj79 _ _ t423 t385 t427 t428 _ ?side1 ?side2 A84.out).mono ?_); (case side1 => repeat (first | exact (jD HO425.out).2.2 | (with_reducible refine jN ?_ _) | (with_reducible refine jM ?_ _) | (with_reducible refine jT ?_))); (case side2 => exact (jD HO425.out).2.1); rintro e w88 ⟨rfl, hb⟩; have n0_ := jA (jK (zo HO_3) hb); have n1_ := jA (jK (zo HO425) hb); have n2_ := jA (jb (g := gb398) (o := .cells #[.int .i64 t395, .int .i64 t396, .bool t397] 36 (0, 0)) (zk BK398) hb); have n3_ := jA (jH (zb1 HB GE398) hb); clear HO_3; clear HO425; clear BK398; clear HB; have HO_3 := n0_; have HO425 := n1_; have BK398 := n2_; have HB := n3_; clear n0_ n1_ n2_ n3_; (try clear hb); (try clear hb2); (try clear hk); (try clear hi)))
               repeat (go_quiet (first | (go_at_call 24; (with_reducible refine (impl_AddTry.calls kj79 _ _ t384 t385 t388 true t423 t426 _ ?side1 ?side2 A83.out).mono ?_); (case side1 => repeat (first | exact (jD HO_3.out).2.2 | (with_reducible refine jN ?_ _) | (with_reducible refine jM ?_ _) | (with_reducible refine jT ?_))); (case side2 => exact (jD HO_3.out).2.1); rintro e w86 ⟨v424, rfl, ho0, hb⟩; have n0_ := jA (Kd.R_elder' (zo HO_3) (Kd.R_base ho0) hb); have n1_ := jA (jc (Kd.R_newB (Kd.R_new' ho0 (Kd.R_lt (zo HO_3))) (g := gb398) (o := .cells #[.int .i64 t395, .int .i64 t396, .bool t397] 36 (0, 0)) (zk BK398)) (jP (zb1 HB GE398))); have n2_ := jA (jb (g := gb398) (o := .cells #[.int .i64 t395, .int .i64 t396, .bool t397] 36 (0, 0)) (zk BK398) hb); have n3_ := jA (jH (zb1 HB GE398) hb); clear HO_3; clear BK398; clear HB; have HO_3 := n0_; have HO425 := n1_; have BK398 := n2_; have HB := n3_; clear n0_ n1_ n2_ n3_; (try clear hb); (try clear hb2); (try clear hk); (try clear hi); (try clear ho0); obtain ⟨Ao87, co87, eo87⟩ := Kd.R_slice HO425.out; subst eo87) | (go_at_call 21; (with_reducible refine (impl_CueState.calls kj79 _ _ t423 t385 t427 t428 _ ?side1 ?side2 A84.out).mono ?_); (case side1 => repeat (first | exact (jD HO425.out).2.2 | (with_reducible refine jN ?_ _) | (with_reducible refine jM ?_ _) | (with_reducible refine jT ?_))); (case side2 => exact (jD HO425.out).2.1); rintro e w88 ⟨rfl, hb⟩; have n0_ := jA (jK (zo HO_3) hb); have n1_ := jA (jK (zo HO425) hb); have n2_ := jA (jb (g := gb398) (o := .cells #[.int .i64 t395, .int .i64 t396, .bool t397] 36 (0, 0)) (zk BK398) hb); have n3_ := jA (jH (zb1 HB GE398) hb); clear HO_3; clear HO425; clear BK398; clear HB; have HO_3 := n0_; have HO425 := n1_; have BK398 := n2_; have HB := n3_; clear n0_ n1_ n2_ n3_; (try clear hb); (try clear hb2); (try clear hk); (try clear hi))); go_upto_region 26 with (first | (go_at_call 24; (with_reducible refine (impl_AddTry.calls kj79 _ _ t384 t385 t388 true t423 t426 _ ?side1 ?side2 A83.out).mono ?_); (case side1 => repeat (first | exact (jD HO_3.out).2.2 | (with_reducible refine jN ?_ _) | (with_reducible refine jM ?_ _) | (with_reducible refine jT ?_))); (case side2 => exact (jD HO_3.out).2.1); rintro e w86 ⟨v424, rfl, ho0, hb⟩; have n0_ := jA (Kd.R_elder' (zo HO_3) (Kd.R_base ho0) hb); have n1_ := jA (jc (Kd.R_newB (Kd.R_new' ho0 (Kd.R_lt (zo HO_3))) (g := gb398) (o := .cells #[.int .i64 t395, .int .i64 t396, .bool t397] 36 (0, 0)) (zk BK398)) (jP (zb1 HB GE398))); have n2_ := jA (jb (g := gb398) (o := .cells #[.int .i64 t395, .int .i64 t396, .bool t397] 36 (0, 0)) (zk BK398) hb); have n3_ := jA (jH (zb1 HB GE398) hb); clear HO_3; clear BK398; clear HB; have HO_3 := n0_; have HO425 := n1_; have BK398 := n2_; have HB := n3_; clear n0_ n1_ n2_ n3_; (try clear hb); (try clear hb2); (try clear hk); (try clear hi); (try clear ho0); obtain ⟨Ao87, co87, eo87⟩ := Kd.R_slice HO425.out; subst eo87) | (go_at_call 21; (with_reducible refine (impl_CueState.calls kj79 _ _ t423 t385 t427 t428 _ ?side1 ?side2 A84.out).mono ?_); (case side1 => repeat (first | exact (jD HO425.out).2.2 | (with_reducible refine jN ?_ _) | (with_reducible refine jM ?_ _) | (with_reducible refine jT ?_))); (case side2 => exact (jD HO425.out).2.1); rintro e w88 ⟨rfl, hb⟩; have n0_ := jA (jK (zo HO_3) hb); have n1_ := jA (jK (zo HO425) hb); have n2_ := jA (jb (g := gb398) (o := .cells #[.int .i64 t395, .int .i64 t396, .bool t397] 36 (0, 0)) (zk BK398) hb); have n3_ := jA (jH (zb1 HB GE398) hb); clear HO_3; clear HO425; clear BK398; clear HB; have HO_3 := n0_; have HO425 := n1_; have BK398 := n2_; have HB := n3_; clear n0_ n1_ n2_ n3_; (try clear hb); (try clear hb2); (try clear hk); (try clear hi))))
               (try simp only [Act.put, jB, jE, jF])
               go_cut [184] (fun v184 wc => ∃ (kq : Nat) (x184_84 : Bool), v184 = .bool x184_84 ∧ Aside0 (laws_FnTries.j5 kq t384 t385 t388 x184_84 = some r) ∧ Aside0 (kq ≤ kj79) ∧ Aside0 (Kd.R k36 36 wc w.heap.size (fun k_ => k_ ≠ gb398) (.slice Ao14 t384.length co14) t384) ∧ Aside0 (wc.heap[gb398]? = some (.cells #[.int .i64 t395, .int .i64 t396, .bool t397] 36 (0, 0))) ∧ Aside0 (Below w.heap.size w wc))
               case first =>
                have H := HC85.out
                clear HC85
                by_cases c89 : t426 = 0
                ·rw [if_pos c89] at H
                 have c89b0 : (t426 == 0) = true := beq_iff_eq.mpr c89
                 have c89b1 : (t426 != 0) = false := bne_eq_false_iff_eq.mpr c89
                 clear c89
                 (first | rw [c89b0] | (simp only [i64_w, i32_w]; rw [c89b0]) | skip)
                 by_cases c90 : t428 = 0
                 ·rw [if_pos c90] at H
                  have c90b0 : (t428 == 0) = true := beq_iff_eq.mpr c90
                  have c90b1 : (t428 != 0) = false := bne_eq_false_iff_eq.mpr c90
                  clear c90
                  have H' := jA H
                  clear H
                  go_wp2
                  repeat (go_quiet (fail); try go_wp2)
                  go_meet
                  case rel => exact ⟨_, ((t427 != 2)), zz, H', ⟨by have := HJ11.out; have := HJ48.out; have := HK3.out; have := HJ67.out; have := HJ79.out; first | omega | exact Nat.le_refl _⟩, ⟨by (with_reducible repeat (first | apply jR | apply jQ | apply jS)); exact Kd.R_mono HO_3.out (fun _ hk => hk.1)⟩, ⟨by (with_reducible repeat (first | refine jX ?_ _ | refine jW ?_ | refine jY ?_ _)); exact BK398.out⟩, ⟨zb1 HB GE398⟩⟩
                 ·rw [if_neg c90] at H
                  have c90b0 : (t428 == 0) = false := beq_eq_false_iff_ne.mpr c90
                  have c90b1 : (t428 != 0) = true := bne_iff_ne.mpr c90
                  have H' := jA H
                  clear H
                  go_wp2
                  repeat (go_quiet (fail); try go_wp2)
                  go_meet
                  case rel => exact ⟨_, (true), zz, H', ⟨by have := HJ11.out; have := HJ48.out; have := HK3.out; have := HJ67.out; have := HJ79.out; first | omega | exact Nat.le_refl _⟩, ⟨by (with_reducible repeat (first | apply jR | apply jQ | apply jS)); exact Kd.R_mono HO_3.out (fun _ hk => hk.1)⟩, ⟨by (with_reducible repeat (first | refine jX ?_ _ | refine jW ?_ | refine jY ?_ _)); exact BK398.out⟩, ⟨zb1 HB GE398⟩⟩
                ·rw [if_neg c89] at H
                 have c89b0 : (t426 == 0) = false := beq_eq_false_iff_ne.mpr c89
                 have c89b1 : (t426 != 0) = true := bne_iff_ne.mpr c89
                 (first | rw [c89b0] | (simp only [i64_w, i32_w]; rw [c89b0]) | skip)
                 have H' := jA H
                 clear H
                 go_wp2
                 repeat (go_quiet (fail); try go_wp2)
                 go_meet
                 case rel => exact ⟨_, (true), zz, H', ⟨by have := HJ11.out; have := HJ48.out; have := HK3.out; have := HJ67.out; have := HJ79.out; first | omega | exact Nat.le_refl _⟩, ⟨by (with_reducible repeat (first | apply jR | apply jQ | apply jS)); exact Kd.R_mono HO_3.out (fun _ hk => hk.1)⟩, ⟨by (with_reducible repeat (first | refine jX ?_ _ | refine jW ?_ | refine jY ?_ _)); exact BK398.out⟩, ⟨zb1 HB GE398⟩⟩
               case rest =>
                clear HC85
                try clear c1
                try clear c2
                try clear p2
                try clear c3
                try clear c4
                try clear p4
                try clear q4
                try clear hx4
                try clear c5
                try clear c6
                try clear p6
                try clear c7
                try clear c8
                try clear c9
                try clear c11
                try clear c26
                try clear c26b0
                try clear c26b1
                try clear c27
                try clear c27b0
                try clear c27b1
                try clear c28
                try clear c28b0
                try clear c28b1
                try clear c30
                try clear c31
                try clear c31b0
                try clear c31b1
                try clear c33
                try clear p42
                try clear q42
                try clear hx42
                try clear c48
                try clear c50
                try clear c50b0
                try clear c50b1
                try clear c52
                try clear c52b0
                try clear c52b1
                try clear c53
                try clear c53b0
                try clear c57
                try clear p64
                try clear c69
                try clear c69b0
                try clear c69b1
                try clear c71
                try clear c72
                try clear c72b0
                try clear c73
                try clear c73b0
                try clear c75
                try clear c75b0
                try clear c76
                try clear c76b0
                try clear c77
                try clear c77b0
                try clear c81
                try clear c81b0
                try clear c81b1
                try clear c82
                try clear c89
                try clear c89b0
                try clear c89b1
                try clear c90
                try clear c90b0
                try clear c90b1
                try clear hcz19_0
                try clear hcz19_1
                try clear hcz19_2
                try clear hcz22_0
                try clear hcz22_1
                try clear hcz22_2
                try clear hcz54_0
                try clear hcz54_1
                try clear hcz54_2
                try clear hcz58_0
                try clear hcz58_1
                try clear hcz58_2
                try clear hcz62_0
                try clear hcz62_1
                try clear hcz62_2
                try clear hcz66_0
                try clear hcz66_1
                try clear hcz66_2
                try clear hfz19_0
                try clear hfz19_1
                try clear hfz19_2
                try clear hfz22_0
                try clear hfz22_1
                try clear hfz22_2
                try clear hfz54_0
                try clear hfz54_1
                try clear hfz54_2
                try clear hfz58_0
                try clear hfz58_1
                try clear hfz58_2
                try clear hfz62_0
                try clear hfz62_1
                try clear hfz62_2
                try clear hfz66_0
                try clear hfz66_1
                try clear hfz66_2
                try clear hx421_0
                try clear hx422_0
                try clear p2
                try clear p4
                try clear p42
                try clear p421
                try clear p422
                try clear p6
                try clear p64
                try clear q4
                try clear q42
                try clear q421
                try clear q422
                obtain ⟨kq, x184_84, rfl, HA, HJ84, HO_3, BK398, HB⟩ := hcut
                cases kq with
                | zero => exact absurd HA.out (by simp [laws_FnTries.j5])
                | succ kj84 =>
                 have H := HA.out
                 clear HA
                 simp only [laws_FnTries.j5] at H
                 by_cases c91 : x184_84 = true
                 ·subst c91
                  have H1 : (some false) = some r := by rw [if_pos rfl] at H; exact H
                  clear H
                  have H := H1
                  clear H1
                  obtain rfl := je H
                  go_wp2
                  repeat (go_quiet (fail); try go_wp2)
                  go_ret
                  exact ⟨by first | rfl | (simp [errW_none, errW_some] <;> rfl) | (simp [*, errW_none, errW_some] <;> rfl), zb1 HB GE398⟩
                 ·as_aux_lemma =>
                  replace c91 := Bool.eq_false_iff.mpr c91
                  subst c91
                  have H1 : (if t388 = 0 then (some true) else ((impl_AddTry.f kj84 t384 t385 (wrap64 (t388 - 1)) false).bind fun bt429 => (if (bt429.1.length : Int) = 0 then (some (bt429.2 == 5)) else (some false)))) = some r := by rw [if_neg (show ¬ (false = true) by decide)] at H; exact H
                  clear H
                  have H := H1
                  clear H1
                  by_cases c92 : t388 = 0
                  ·rw [if_pos c92] at H
                   have c92b0 : (t388 == 0) = true := beq_iff_eq.mpr c92
                   have c92b1 : (t388 != 0) = false := bne_eq_false_iff_eq.mpr c92
                   clear c92
                   obtain rfl := je H
                   go_wp2
                   repeat (go_quiet (fail); try go_wp2)
                   go_ret
                   exact ⟨by first | rfl | (simp [errW_none, errW_some] <;> rfl) | (simp [*, errW_none, errW_some] <;> rfl), zb1 HB GE398⟩
                  ·rw [if_neg c92] at H
                   have c92b0 : (t388 == 0) = false := beq_eq_false_iff_ne.mpr c92
                   have c92b1 : (t388 != 0) = true := bne_iff_ne.mpr c92
                   replace H := jG.mp H
                   obtain ⟨⟨t429, t432⟩, A930, H⟩ := H
                   replace H : (if (t429.length : Int) = 0 then (some (t432 == 5)) else (some false)) = some r := H
                   have A93 := jA A930
                   clear A930
                   by_cases c94 : (t429.length : Int) = 0
                   ·rw [if_pos c94] at H
                    have c94b0 : ((t429.length : Int) == 0) = true := beq_iff_eq.mpr c94
                    have c94b1 : ((t429.length : Int) != 0) = false := bne_eq_false_iff_eq.mpr c94
                    clear c94
                    obtain rfl := je H
                    go_wp2_with (first | (go_at_call 24; (with_reducible refine (impl_AddTry.calls kj84 _ _ t384 t385 (wrap64 (t388 - 1)) false t429 t432 _ ?side1 ?side2 A93.out).mono ?_); (case side1 => repeat (first | exact (jD HO_3.out).2.2 | (with_reducible refine jN ?_ _) | (with_reducible refine jM ?_ _) | (with_reducible refine jT ?_))); (case side2 => exact (jD HO_3.out).2.1); rintro e w95 ⟨v430, rfl, ho0, hb⟩; have n0_ := jA (Kd.R_elder' (zo HO_3) (Kd.R_base ho0) hb); have n1_ := jA (jc (Kd.R_newB (Kd.R_new' ho0 (Kd.R_lt (zo HO_3))) (g := gb398) (o := .cells #[.int .i64 t395, .int .i64 t396, .bool t397] 36 (0, 0)) (zk BK398)) (jP (zb1 HB GE398))); have n2_ := jA (jb (g := gb398) (o := .cells #[.int .i64 t395, .int .i64 t396, .bool t397] 36 (0, 0)) (zk BK398) hb); have n3_ := jA (jH (zb1 HB GE398) hb); clear HO_3; clear BK398; clear HB; have HO_3 := n0_; have HO431 := n1_; have BK398 := n2_; have HB := n3_; clear n0_ n1_ n2_ n3_; (try clear hb); (try clear hb2); (try clear hk); (try clear hi); (try clear ho0); obtain ⟨Ao96, co96, eo96⟩ := Kd.R_slice HO431.out; subst eo96))
                    repeat (go_quiet (first | (go_at_call 24; (with_reducible refine (impl_AddTry.calls kj84 _ _ t384 t385 (wrap64 (t388 - 1)) false t429 t432 _ ?side1 ?side2 A93.out).mono ?_); (case side1 => repeat (first | exact (jD HO_3.out).2.2 | (with_reducible refine jN ?_ _) | (with_reducible refine jM ?_ _) | (with_reducible refine jT ?_))); (case side2 => exact (jD HO_3.out).2.1); rintro e w95 ⟨v430, rfl, ho0, hb⟩; have n0_ := jA (Kd.R_elder' (zo HO_3) (Kd.R_base ho0) hb); have n1_ := jA (jc (Kd.R_newB (Kd.R_new' ho0 (Kd.R_lt (zo HO_3))) (g := gb398) (o := .cells #[.int .i64 t395, .int .i64 t396, .bool t397] 36 (0, 0)) (zk BK398)) (jP (zb1 HB GE398))); have n2_ := jA (jb (g := gb398) (o := .cells #[.int .i64 t395, .int .i64 t396, .bool t397] 36 (0, 0)) (zk BK398) hb); have n3_ := jA (jH (zb1 HB GE398) hb); clear HO_3; clear BK398; clear HB; have HO_3 := n0_; have HO431 := n1_; have BK398 := n2_; have HB := n3_; clear n0_ n1_ n2_ n3_; (try clear hb); (try clear hb2); (try clear hk); (try clear hi); (try clear ho0); obtain ⟨Ao96, co96, eo96⟩ := Kd.R_slice HO431.out; subst eo96)); try go_wp2_with (first | (go_at_call 24; (with_reducible refine (impl_AddTry.calls kj84 _ _ t384 t385 (wrap64 (t388 - 1)) false t429 t432 _ ?side1 ?side2 A93.out).mono ?_); (case side1 => repeat (first | exact (jD HO_3.out).2.2 | (with_reducible refine jN ?_ _) | (with_reducible refine jM ?_ _) | (with_reducible refine jT ?_))); (case side2 => exact (jD HO_3.out).2.1); rintro e w95 ⟨v430, rfl, ho0, hb⟩; have n0_ := jA (Kd.R_elder' (zo HO_3) (Kd.R_base ho0) hb); have n1_ := jA (jc (Kd.R_newB (Kd.R_new' ho0 (Kd.R_lt (zo HO_3))) (g := gb398) (o := .cells #[.int .i64 t395, .int .i64 t396, .bool t397] 36 (0, 0)) (zk BK398)) (jP (zb1 HB GE398))); have n2_ := jA (jb (g := gb398) (o := .cells #[.int .i64 t395, .int .i64 t396, .bool t397] 36 (0, 0)) (zk BK398) hb); have n3_ := jA (jH (zb1 HB GE398) hb); clear HO_3; clear BK398; clear HB; have HO_3 := n0_; have HO431 := n1_; have BK398 := n2_; have HB := n3_; clear n0_ n1_ n2_ n3_; (try clear hb); (try clear hb2); (try clear hk); (try clear hi); (try clear ho0); obtain ⟨Ao96, co96, eo96⟩ := Kd.R_slice HO431.out; subst eo96)))
                    go_ret
                    exact ⟨by first | rfl | (simp [errW_none, errW_some] <;> rfl) | (simp [*, errW_none, errW_some] <;> rfl), zb1 HB GE398⟩
                   ·rw [if_neg c94] at H
                    have c94b0 : ((t429.length : Int) == 0) = false := beq_eq_false_iff_ne.mpr c94
                    have c94b1 : ((t429.length : Int) != 0) = true := bne_iff_ne.mpr c94
                    have c94b2 : ¬ (t429 = []) := fun h_ => c94 (by rw [h_]; rfl)
                    obtain rfl := je H
                    go_wp2_with (first | (go_at_call 24; (with_reducible refine (impl_AddTry.calls kj84 _ _ t384 t385 (wrap64 (t388 - 1)) false t429 t432 _ ?side1 ?side2 A93.out).mono ?_); (case side1 => repeat (first | exact (jD HO_3.out).2.2 | (with_reducible refine jN ?_ _) | (with_reducible refine jM ?_ _) | (with_reducible refine jT ?_))); (case side2 => exact (jD HO_3.out).2.1); rintro e w97 ⟨v430, rfl, ho0, hb⟩; have n0_ := jA (Kd.R_elder' (zo HO_3) (Kd.R_base ho0) hb); have n1_ := jA (jc (Kd.R_newB (Kd.R_new' ho0 (Kd.R_lt (zo HO_3))) (g := gb398) (o := .cells #[.int .i64 t395, .int .i64 t396, .bool t397] 36 (0, 0)) (zk BK398)) (jP (zb1 HB GE398))); have n2_ := jA (jb (g := gb398) (o := .cells #[.int .i64 t395, .int .i64 t396, .bool t397] 36 (0, 0)) (zk BK398) hb); have n3_ := jA (jH (zb1 HB GE398) hb); clear HO_3; clear BK398; clear HB; have HO_3 := n0_; have HO431 := n1_; have BK398 := n2_; have HB := n3_; clear n0_ n1_ n2_ n3_; (try clear hb); (try clear hb2); (try clear hk); (try clear hi); (try clear ho0); obtain ⟨Ao98, co98, eo98⟩ := Kd.R_slice HO431.out; subst eo98))
                    repeat (go_quiet (first | (go_at_call 24; (with_reducible refine (impl_AddTry.calls kj84 _ _ t384 t385 (wrap64 (t388 - 1)) false t429 t432 _ ?side1 ?side2 A93.out).mono ?_); (case side1 => repeat (first | exact (jD HO_3.out).2.2 | (with_reducible refine jN ?_ _) | (with_reducible refine jM ?_ _) | (with_reducible refine jT ?_))); (case side2 => exact (jD HO_3.out).2.1); rintro e w97 ⟨v430, rfl, ho0, hb⟩; have n0_ := jA (Kd.R_elder' (zo HO_3) (Kd.R_base ho0) hb); have n1_ := jA (jc (Kd.R_newB (Kd.R_new' ho0 (Kd.R_lt (zo HO_3))) (g := gb398) (o := .cells #[.int .i64 t395, .int .i64 t396, .bool t397] 36 (0, 0)) (zk BK398)) (jP (zb1 HB GE398))); have n2_ := jA (jb (g := gb398) (o := .cells #[.int .i64 t395, .int .i64 t396, .bool t397] 36 (0, 0)) (zk BK398) hb); have n3_ := jA (jH (zb1 HB GE398) hb); clear HO_3; clear BK398; clear HB; have HO_3 := n0_; have HO431 := n1_; have BK398 := n2_; have HB := n3_; clear n0_ n1_ n2_ n3_; (try clear hb); (try clear hb2); (try clear hk); (try clear hi); (try clear ho0); obtain ⟨Ao98, co98, eo98⟩ := Kd.R_slice HO431.out; subst eo98)); try go_wp2_with (first | (go_at_call 24; (with_reducible refine (impl_AddTry.calls kj84 _ _ t384 t385 (wrap64 (t388 - 1)) false t429 t432 _ ?side1 ?side2 A93.out).mono ?_); (case side1 => repeat (first | exact (jD HO_3.out).2.2 | (with_reducible refine jN ?_ _) | (with_reducible refine jM ?_ _) | (with_reducible refine jT ?_))); (case side2 => exact (jD HO_3.out).2.1); rintro e w97 ⟨v430, rfl, ho0, hb⟩; have n0_ := jA (Kd.R_elder' (zo HO_3) (Kd.R_base ho0) hb); have n1_ := jA (jc (Kd.R_newB (Kd.R_new' ho0 (Kd.R_lt (zo HO_3))) (g := gb398) (o := .cells #[.int .i64 t395, .int .i64 t396, .bool t397] 36 (0, 0)) (zk BK398)) (jP (zb1 HB GE398))); have n2_ := jA (jb (g := gb398) (o := .cells #[.int .i64 t395, .int .i64 t396, .bool t397] 36 (0, 0)) (zk BK398) hb); have n3_ := jA (jH (zb1 HB GE398) hb); clear HO_3; clear BK398; clear HB; have HO_3 := n0_; have HO431 := n1_; have BK398 := n2_; have HB := n3_; clear n0_ n1_ n2_ n3_; (try clear hb); (try clear hb2); (try clear hk); (try clear hi); (try clear ho0); obtain ⟨Ao98, co98, eo98⟩ := Kd.R_slice HO431.out; subst eo98)))
                    go_ret
                    exact ⟨by first | rfl | (simp [errW_none, errW_some] <;> rfl) | (simp [*, errW_none, errW_some] <;> rfl), zb1 HB GE398⟩

/-- THE ONE PURE STATEMENT of laws_FnTries: yours. -/
def laws_FnTries.Pure : Prop := ∀ (l0 : List Int), l0.length ≤ maxLen → l0.length * 1 ≤ 140737488351232 → (∀ x ∈ l0, (Lit.int .u8 x).wf = true) → ∃ k, laws_FnTries.f k l0 = some true
theorem laws_FnTries.walk (P : laws_FnTries.Pure) (a0 : Option Addr) (len0 cap0 : Nat) (z0 : List Int) (w : World) (w0 : (a0 = none ∧ len0 = 0 ∧ cap0 = 0 ∧ z0 = []) ∨ ∃ x, a0 = some x ∧ len0 ≤ cap0 ∧ cap0 ≤ maxLen ∧ z0.length = cap0 ∧ (∀ i, i < z0.length → w.cell? (x.add i) = some (.int .u8 (z0.getD i 0))) ∧ ∀ n ∈ z0, (Lit.int .u8 n).wf = true) (y0 : len0 * 1 ≤ 140737488351232) :
  Calls Try.prog 11 #[.slice a0 len0 cap0] w fun e w' => e = .returned (.bool true) ∧ Below w.heap.size w w' := by
 obtain ⟨l0, rfl, hr0, hm0, hw0, hc0⟩ := ReadsInt.ofRowC w0
 obtain ⟨k, h⟩ := P l0 hm0 y0 hw0
 refine (laws_FnTries.calls k _ _ l0 true w (Kd.C_of_reads (d := (0 : Int)) (h1 := fun _ => rfl) hr0) hc0 h).mono ?_
 rintro e w' ⟨rfl, hd⟩
 exact ⟨rfl, hd⟩

end Go.Proofs.Ythnpffomoaeeoaa.PFnTries
