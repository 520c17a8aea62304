/- Functions and contracts that FnMagazines reaches (24 of 24). -/
import Derived.Test.YtdgglhfnlljmeaaQFnMagazinesx22
namespace Go.Proofs.Ytdgglhfnlljmeaa.PFnMagazines
open Go.RowKit Go.Proofs.YtdgglhfnlljmeaaW.PrintWords Go.Proofs.YtdgglhfnlljmeaaW.PrintLast Go.Proofs.YtdgglhfnlljmeaaW.PrintMore
attribute [local go_sem] max2_int min2_int max_two min_two max_three min_three max_four min_four   -- for this text's walks alone
set_option linter.unusedVariables false
set_option linter.unusedSimpArgs false

/-! ### laws_FnMagazines: function 10 -/
mutual
def laws_FnMagazines.j0 : Nat → List (S65) → ByteArray → Int → Int → Int → Bool → Int → List (S65) → Int → Int → Bool → Int → List Int → Int → List Int → Int → List Int → Option (Bool)
 | 0, _, _, _, _, _, _, _, _, _, _, _, _, _, _, _, _, _ => none
 | k + 1, x3, x5, x6, x8, x11, x15, x16, x19, x21, x22, x145, x555000, x555001, x561000, x561001, x583000, x583001 => if x145 = true then (some false) else (if x16 = 0 then (if x15 = true then (laws_FnMagazines.j1 k x3 x5 x6 x8 x19 x21 x22 (decide (x11 > x555000)) x555000 x555001 x561000 x561001 x583000 x583001) else (laws_FnMagazines.j1 k x3 x5 x6 x8 x19 x21 x22 false x555000 x555001 x561000 x561001 x583000 x583001)) else (laws_FnMagazines.j1 k x3 x5 x6 x8 x19 x21 x22 false x555000 x555001 x561000 x561001 x583000 x583001))
def laws_FnMagazines.j1 : Nat → List (S65) → ByteArray → Int → Int → List (S65) → Int → Int → Bool → Int → List Int → Int → List Int → Int → List Int → Option (Bool)
 | 0, _, _, _, _, _, _, _, _, _, _, _, _, _, _ => none
 | k + 1, x3, x5, x6, x8, x19, x21, x22, x156, x555000, x555001, x561000, x561001, x583000, x583001 => if x156 = true then (some false) else (if x22 = 0 then ((impl_IsLawful.f k x19 x21 x583001).bind fun bt589 => (if bt589.2 = 0 then (laws_FnMagazines.j2 k x3 x5 x6 x8 x19 x21 (!bt589.1) x555000 x555001 x561000 x561001 x583000 x583001) else (laws_FnMagazines.j2 k x3 x5 x6 x8 x19 x21 true x555000 x555001 x561000 x561001 x583000 x583001))) else (laws_FnMagazines.j3 k x3 x5 x6 x8 x555000 x555001 x561000 x561001))
def laws_FnMagazines.j3 : Nat → List (S65) → ByteArray → Int → Int → Int → List Int → Int → List Int → Option (Bool)
 | 0, _, _, _, _, _, _, _, _ => none
 | k + 1, x3, x5, x6, x8, x555000, x555001, x561000, x561001 => if x8 = 0 then ((impl_TakePieces.f k x3 x561000 x561001 x5 x6).bind fun bt593 => ((impl_IsLawful.f k x3 x561000 x561001).bind fun bt599 => (if bt593.2.2 = 0 then ((laws_likeMagazine.f k bt593.1 bt593.2.1 x555000 x555001).bind fun t601 => (if t601 = true then (if bt599.2 = 0 then (some bt599.1) else (some false)) else (some false))) else (some false)))) else (some true)
def laws_FnMagazines.j2 : Nat → List (S65) → ByteArray → Int → Int → List (S65) → Int → Bool → Int → List Int → Int → List Int → Int → List Int → Option (Bool)
 | 0, _, _, _, _, _, _, _, _, _, _, _, _, _ => none
 | k + 1, x3, x5, x6, x8, x19, x21, x173, x555000, x555001, x561000, x561001, x583000, x583001 => if x173 = true then (some false) else (if x21 > 0 then ((impl_IsLawful.f k x19 (wrap64 (x21 - 1)) x583001).bind fun bt591 => (if bt591.2 = 0 then (if bt591.1 = true then (some false) else (laws_FnMagazines.j3 k x3 x5 x6 x8 x555000 x555001 x561000 x561001)) else (some false))) else (laws_FnMagazines.j3 k x3 x5 x6 x8 x555000 x555001 x561000 x561001))
end
def laws_FnMagazines.f (k : Nat) (l0 : List Int) : Option (Bool) := (laws_big.f l0).bind fun t544 => (if t544 = true then (some true) else ((spec_DrawStorePieces.f k l0).bind fun bt545 => ((impl_StorePieces.f k bt545.1 bt545.2.1 bt545.2.2.1 bt545.2.2.2.1 bt545.2.2.2.2).bind fun bt555 => ((spec_StorePieces.f k bt545.1 bt545.2.1 bt545.2.2.1 bt545.2.2.2.1 bt545.2.2.2.2).bind fun bt561 => ((impl_NetIn.f k bt545.1 bt545.2.1 bt545.2.2.1).bind fun bt567 => ((spec_NetIn.f k bt545.1 bt545.2.1 bt545.2.2.1).bind fun bt569 => ((impl_IsLawful.f k bt545.1 bt545.2.1 bt545.2.2.1).bind fun bt571 => ((spec_IsLawful.f k bt545.1 bt545.2.1 bt545.2.2.1).bind fun bt573 => ((spec_DrawLawfulLimit.f k l0).bind fun bt575 => ((impl_LawfulLimit.f k bt575.1 bt575.2.1 bt575.2.2).bind fun bt583 => ((spec_LawfulLimit.f k bt575.1 bt575.2.1 bt575.2.2).bind fun bt585 => (if bt555.2.2 = bt561.2.2 then ((laws_likeMagazine.f k bt555.1 bt555.2.1 bt561.1 bt561.2.1).bind fun t587 => (if t587 = true then (if bt567.2 = bt569.2 then (if bt567.1 = bt569.1 then (if bt571.2 = bt573.2 then (if (bt571.1 != bt573.1) = true then (laws_FnMagazines.j0 k bt545.1 bt545.2.2.2.1 bt545.2.2.2.2 bt555.2.2 bt567.1 bt571.1 bt571.2 bt575.1 bt583.1 bt583.2 true bt545.2.1 bt545.2.2.1 bt555.1 bt555.2.1 bt575.2.1 bt575.2.2) else (if bt583.2 = bt585.2 then (if bt583.1 = bt585.1 then ((impl_IsMagazine.f k bt545.1 bt545.2.1 bt545.2.2.1).bind fun t588 => (laws_FnMagazines.j0 k bt545.1 bt545.2.2.2.1 bt545.2.2.2.2 bt555.2.2 bt567.1 bt571.1 bt571.2 bt575.1 bt583.1 bt583.2 (t588 != (bt569.2 == 0)) bt545.2.1 bt545.2.2.1 bt555.1 bt555.2.1 bt575.2.1 bt575.2.2)) else (laws_FnMagazines.j0 k bt545.1 bt545.2.2.2.1 bt545.2.2.2.2 bt555.2.2 bt567.1 bt571.1 bt571.2 bt575.1 bt583.1 bt583.2 true bt545.2.1 bt545.2.2.1 bt555.1 bt555.2.1 bt575.2.1 bt575.2.2)) else (laws_FnMagazines.j0 k bt545.1 bt545.2.2.2.1 bt545.2.2.2.2 bt555.2.2 bt567.1 bt571.1 bt571.2 bt575.1 bt583.1 bt583.2 true bt545.2.1 bt545.2.2.1 bt555.1 bt555.2.1 bt575.2.1 bt575.2.2))) else (laws_FnMagazines.j0 k bt545.1 bt545.2.2.2.1 bt545.2.2.2.2 bt555.2.2 bt567.1 bt571.1 bt571.2 bt575.1 bt583.1 bt583.2 true bt545.2.1 bt545.2.2.1 bt555.1 bt555.2.1 bt575.2.1 bt575.2.2)) else (laws_FnMagazines.j0 k bt545.1 bt545.2.2.2.1 bt545.2.2.2.2 bt555.2.2 bt567.1 bt571.1 bt571.2 bt575.1 bt583.1 bt583.2 true bt545.2.1 bt545.2.2.1 bt555.1 bt555.2.1 bt575.2.1 bt575.2.2)) else (laws_FnMagazines.j0 k bt545.1 bt545.2.2.2.1 bt545.2.2.2.2 bt555.2.2 bt567.1 bt571.1 bt571.2 bt575.1 bt583.1 bt583.2 true bt545.2.1 bt545.2.2.1 bt555.1 bt555.2.1 bt575.2.1 bt575.2.2)) else (laws_FnMagazines.j0 k bt545.1 bt545.2.2.2.1 bt545.2.2.2.2 bt555.2.2 bt567.1 bt571.1 bt571.2 bt575.1 bt583.1 bt583.2 true bt545.2.1 bt545.2.2.1 bt555.1 bt555.2.1 bt575.2.1 bt575.2.2))) else (laws_FnMagazines.j0 k bt545.1 bt545.2.2.2.1 bt545.2.2.2.2 bt555.2.2 bt567.1 bt571.1 bt571.2 bt575.1 bt583.1 bt583.2 true bt545.2.1 bt545.2.2.1 bt555.1 bt555.2.1 bt575.2.1 bt575.2.2)))))))))))))
theorem laws_FnMagazines.mono_l : ∀ k, (∀ y0 y1 y2 y3 y4 y5 y6 y7 y8 y9 y10 y11 y12 y13 y14 y15 y16, LeO (laws_FnMagazines.j0 k y0 y1 y2 y3 y4 y5 y6 y7 y8 y9 y10 y11 y12 y13 y14 y15 y16) (laws_FnMagazines.j0 (k + 1) y0 y1 y2 y3 y4 y5 y6 y7 y8 y9 y10 y11 y12 y13 y14 y15 y16)) ∧ (∀ y0 y1 y2 y3 y4 y5 y6 y7 y8 y9 y10 y11 y12 y13, LeO (laws_FnMagazines.j1 k y0 y1 y2 y3 y4 y5 y6 y7 y8 y9 y10 y11 y12 y13) (laws_FnMagazines.j1 (k + 1) y0 y1 y2 y3 y4 y5 y6 y7 y8 y9 y10 y11 y12 y13)) ∧ (∀ y0 y1 y2 y3 y4 y5 y6 y7, LeO (laws_FnMagazines.j3 k y0 y1 y2 y3 y4 y5 y6 y7) (laws_FnMagazines.j3 (k + 1) y0 y1 y2 y3 y4 y5 y6 y7)) ∧ (∀ y0 y1 y2 y3 y4 y5 y6 y7 y8 y9 y10 y11 y12, LeO (laws_FnMagazines.j2 k y0 y1 y2 y3 y4 y5 y6 y7 y8 y9 y10 y11 y12) (laws_FnMagazines.j2 (k + 1) y0 y1 y2 y3 y4 y5 y6 y7 y8 y9 y10 y11 y12))
 | 0 => ⟨fun _ _ _ _ _ _ _ _ _ _ _ _ _ _ _ _ _ r h => by simp [laws_FnMagazines.j0] at h, fun _ _ _ _ _ _ _ _ _ _ _ _ _ _ r h => by simp [laws_FnMagazines.j1] at h, fun _ _ _ _ _ _ _ _ r h => by simp [laws_FnMagazines.j3] at h, fun _ _ _ _ _ _ _ _ _ _ _ _ _ r h => by simp [laws_FnMagazines.j2] at h⟩
 | k + 1 => by
  obtain ⟨ih0, ih1, ih2, ih3⟩ := laws_FnMagazines.mono_l k
  refine ⟨?_, ?_, ?_, ?_⟩
  ·as_aux_lemma =>
   intro y0 y1 y2 y3 y4 y5 y6 y7 y8 y9 y10 y11 y12 y13 y14 y15 y16
   unfold laws_FnMagazines.j0
   repeat' first
   | (with_reducible exact ih0 _ _ _ _ _ _ _ _ _ _ _ _ _ _ _ _ _)
   | (with_reducible exact ih1 _ _ _ _ _ _ _ _ _ _ _ _ _ _)
   | (with_reducible exact ih2 _ _ _ _ _ _ _ _)
   | (with_reducible exact ih3 _ _ _ _ _ _ _ _ _ _ _ _ _)
   | (with_reducible exact impl_IsLawful.mono _ _ _ _)
   | (with_reducible exact impl_IsMagazine.mono _ _ _ _)
   | (with_reducible exact impl_LawfulLimit.mono _ _ _ _)
   | (with_reducible exact impl_NetIn.mono _ _ _ _)
   | (with_reducible exact impl_StorePieces.mono _ _ _ _ _ _)
   | (with_reducible exact impl_TakePieces.mono _ _ _ _ _ _)
   | (with_reducible exact laws_likeMagazine.mono _ _ _ _ _)
   | (with_reducible exact spec_DrawLawfulLimit.mono _ _)
   | (with_reducible exact spec_DrawStorePieces.mono _ _)
   | (with_reducible exact spec_IsLawful.mono _ _ _ _)
   | (with_reducible exact spec_LawfulLimit.mono _ _ _ _)
   | (with_reducible exact spec_NetIn.mono _ _ _ _)
   | (with_reducible exact spec_StorePieces.mono _ _ _ _ _ _)
   | (with_reducible exact LeO.refl _)
   | (with_reducible exact LeO.none _)
   | (with_reducible refine LeO.ite ?_ ?_)
   | (with_reducible refine LeO.bind ?_ (fun _ => ?_))
   | exact ih0 _ _ _ _ _ _ _ _ _ _ _ _ _ _ _ _ _
   | exact ih1 _ _ _ _ _ _ _ _ _ _ _ _ _ _
   | exact ih2 _ _ _ _ _ _ _ _
   | exact ih3 _ _ _ _ _ _ _ _ _ _ _ _ _
   | exact impl_IsLawful.mono _ _ _ _
   | exact impl_IsMagazine.mono _ _ _ _
   | exact impl_LawfulLimit.mono _ _ _ _
   | exact impl_NetIn.mono _ _ _ _
   | exact impl_StorePieces.mono _ _ _ _ _ _
   | exact impl_TakePieces.mono _ _ _ _ _ _
   | exact laws_likeMagazine.mono _ _ _ _ _
   | exact spec_DrawLawfulLimit.mono _ _
   | exact spec_DrawStorePieces.mono _ _
   | exact spec_IsLawful.mono _ _ _ _
   | exact spec_LawfulLimit.mono _ _ _ _
   | exact spec_NetIn.mono _ _ _ _
   | exact spec_StorePieces.mono _ _ _ _ _ _
   | exact LeO.none _
   | refine LeO.ite ?_ ?_
   | refine LeO.bind ?_ (fun _ => ?_)
  ·as_aux_lemma =>
   intro y0 y1 y2 y3 y4 y5 y6 y7 y8 y9 y10 y11 y12 y13
   unfold laws_FnMagazines.j1
   repeat' first
   | (with_reducible exact ih0 _ _ _ _ _ _ _ _ _ _ _ _ _ _ _ _ _)
   | (with_reducible exact ih1 _ _ _ _ _ _ _ _ _ _ _ _ _ _)
   | (with_reducible exact ih2 _ _ _ _ _ _ _ _)
   | (with_reducible exact ih3 _ _ _ _ _ _ _ _ _ _ _ _ _)
   | (with_reducible exact impl_IsLawful.mono _ _ _ _)
   | (with_reducible exact impl_IsMagazine.mono _ _ _ _)
   | (with_reducible exact impl_LawfulLimit.mono _ _ _ _)
   | (with_reducible exact impl_NetIn.mono _ _ _ _)
   | (with_reducible exact impl_StorePieces.mono _ _ _ _ _ _)
   | (with_reducible exact impl_TakePieces.mono _ _ _ _ _ _)
   | (with_reducible exact laws_likeMagazine.mono _ _ _ _ _)
   | (with_reducible exact spec_DrawLawfulLimit.mono _ _)
   | (with_reducible exact spec_DrawStorePieces.mono _ _)
   | (with_reducible exact spec_IsLawful.mono _ _ _ _)
   | (with_reducible exact spec_LawfulLimit.mono _ _ _ _)
   | (with_reducible exact spec_NetIn.mono _ _ _ _)
   | (with_reducible exact spec_StorePieces.mono _ _ _ _ _ _)
   | (with_reducible exact LeO.refl _)
   | (with_reducible exact LeO.none _)
   | (with_reducible refine LeO.ite ?_ ?_)
   | (with_reducible refine LeO.bind ?_ (fun _ => ?_))
   | exact ih0 _ _ _ _ _ _ _ _ _ _ _ _ _ _ _ _ _
   | exact ih1 _ _ _ _ _ _ _ _ _ _ _ _ _ _
   | exact ih2 _ _ _ _ _ _ _ _
   | exact ih3 _ _ _ _ _ _ _ _ _ _ _ _ _
   | exact impl_IsLawful.mono _ _ _ _
   | exact impl_IsMagazine.mono _ _ _ _
   | exact impl_LawfulLimit.mono _ _ _ _
   | exact impl_NetIn.mono _ _ _ _
   | exact impl_StorePieces.mono _ _ _ _ _ _
   | exact impl_TakePieces.mono _ _ _ _ _ _
   | exact laws_likeMagazine.mono _ _ _ _ _
   | exact spec_DrawLawfulLimit.mono _ _
   | exact spec_DrawStorePieces.mono _ _
   | exact spec_IsLawful.mono _ _ _ _
   | exact spec_LawfulLimit.mono _ _ _ _
   | exact spec_NetIn.mono _ _ _ _
   | exact spec_StorePieces.mono _ _ _ _ _ _
   | exact LeO.none _
   | refine LeO.ite ?_ ?_
   | refine LeO.bind ?_ (fun _ => ?_)
  ·as_aux_lemma =>
   intro y0 y1 y2 y3 y4 y5 y6 y7
   unfold laws_FnMagazines.j3
   repeat' first
   | (with_reducible exact ih0 _ _ _ _ _ _ _ _ _ _ _ _ _ _ _ _ _)
   | (with_reducible exact ih1 _ _ _ _ _ _ _ _ _ _ _ _ _ _)
   | (with_reducible exact ih2 _ _ _ _ _ _ _ _)
   | (with_reducible exact ih3 _ _ _ _ _ _ _ _ _ _ _ _ _)
   | (with_reducible exact impl_IsLawful.mono _ _ _ _)
   | (with_reducible exact impl_IsMagazine.mono _ _ _ _)
   | (with_reducible exact impl_LawfulLimit.mono _ _ _ _)
   | (with_reducible exact impl_NetIn.mono _ _ _ _)
   | (with_reducible exact impl_StorePieces.mono _ _ _ _ _ _)
   | (with_reducible exact impl_TakePieces.mono _ _ _ _ _ _)
   | (with_reducible exact laws_likeMagazine.mono _ _ _ _ _)
   | (with_reducible exact spec_DrawLawfulLimit.mono _ _)
   | (with_reducible exact spec_DrawStorePieces.mono _ _)
   | (with_reducible exact spec_IsLawful.mono _ _ _ _)
   | (with_reducible exact spec_LawfulLimit.mono _ _ _ _)
   | (with_reducible exact spec_NetIn.mono _ _ _ _)
   | (with_reducible exact spec_StorePieces.mono _ _ _ _ _ _)
   | (with_reducible exact LeO.refl _)
   | (with_reducible exact LeO.none _)
   | (with_reducible refine LeO.ite ?_ ?_)
   | (with_reducible refine LeO.bind ?_ (fun _ => ?_))
   | exact ih0 _ _ _ _ _ _ _ _ _ _ _ _ _ _ _ _ _
   | exact ih1 _ _ _ _ _ _ _ _ _ _ _ _ _ _
   | exact ih2 _ _ _ _ _ _ _ _
   | exact ih3 _ _ _ _ _ _ _ _ _ _ _ _ _
   | exact impl_IsLawful.mono _ _ _ _
   | exact impl_IsMagazine.mono _ _ _ _
   | exact impl_LawfulLimit.mono _ _ _ _
   | exact impl_NetIn.mono _ _ _ _
   | exact impl_StorePieces.mono _ _ _ _ _ _
   | exact impl_TakePieces.mono _ _ _ _ _ _
   | exact laws_likeMagazine.mono _ _ _ _ _
   | exact spec_DrawLawfulLimit.mono _ _
   | exact spec_DrawStorePieces.mono _ _
   | exact spec_IsLawful.mono _ _ _ _
   | exact spec_LawfulLimit.mono _ _ _ _
   | exact spec_NetIn.mono _ _ _ _
   | exact spec_StorePieces.mono _ _ _ _ _ _
   | exact LeO.none _
   | refine LeO.ite ?_ ?_
   | refine LeO.bind ?_ (fun _ => ?_)
  ·as_aux_lemma =>
   intro y0 y1 y2 y3 y4 y5 y6 y7 y8 y9 y10 y11 y12
   unfold laws_FnMagazines.j2
   repeat' first
   | (with_reducible exact ih0 _ _ _ _ _ _ _ _ _ _ _ _ _ _ _ _ _)
   | (with_reducible exact ih1 _ _ _ _ _ _ _ _ _ _ _ _ _ _)
   | (with_reducible exact ih2 _ _ _ _ _ _ _ _)
   | (with_reducible exact ih3 _ _ _ _ _ _ _ _ _ _ _ _ _)
   | (with_reducible exact impl_IsLawful.mono _ _ _ _)
   | (with_reducible exact impl_IsMagazine.mono _ _ _ _)
   | (with_reducible exact impl_LawfulLimit.mono _ _ _ _)
   | (with_reducible exact impl_NetIn.mono _ _ _ _)
   | (with_reducible exact impl_StorePieces.mono _ _ _ _ _ _)
   | (with_reducible exact impl_TakePieces.mono _ _ _ _ _ _)
   | (with_reducible exact laws_likeMagazine.mono _ _ _ _ _)
   | (with_reducible exact spec_DrawLawfulLimit.mono _ _)
   | (with_reducible exact spec_DrawStorePieces.mono _ _)
   | (with_reducible exact spec_IsLawful.mono _ _ _ _)
   | (with_reducible exact spec_LawfulLimit.mono _ _ _ _)
   | (with_reducible exact spec_NetIn.mono _ _ _ _)
   | (with_reducible exact spec_StorePieces.mono _ _ _ _ _ _)
   | (with_reducible exact LeO.refl _)
   | (with_reducible exact LeO.none _)
   | (with_reducible refine LeO.ite ?_ ?_)
   | (with_reducible refine LeO.bind ?_ (fun _ => ?_))
   | exact ih0 _ _ _ _ _ _ _ _ _ _ _ _ _ _ _ _ _
   | exact ih1 _ _ _ _ _ _ _ _ _ _ _ _ _ _
   | exact ih2 _ _ _ _ _ _ _ _
   | exact ih3 _ _ _ _ _ _ _ _ _ _ _ _ _
   | exact impl_IsLawful.mono _ _ _ _
   | exact impl_IsMagazine.mono _ _ _ _
   | exact impl_LawfulLimit.mono _ _ _ _
   | exact impl_NetIn.mono _ _ _ _
   | exact impl_StorePieces.mono _ _ _ _ _ _
   | exact impl_TakePieces.mono _ _ _ _ _ _
   | exact laws_likeMagazine.mono _ _ _ _ _
   | exact spec_DrawLawfulLimit.mono _ _
   | exact spec_DrawStorePieces.mono _ _
   | exact spec_IsLawful.mono _ _ _ _
   | exact spec_LawfulLimit.mono _ _ _ _
   | exact spec_NetIn.mono _ _ _ _
   | exact spec_StorePieces.mono _ _ _ _ _ _
   | exact LeO.none _
   | refine LeO.ite ?_ ?_
   | refine LeO.bind ?_ (fun _ => ?_)
theorem laws_FnMagazines.mono : ∀ a0 k, LeO (laws_FnMagazines.f k a0) (laws_FnMagazines.f (k + 1) a0) := by
 intro a0 k
 obtain ⟨ih0, ih1, ih2, ih3⟩ := laws_FnMagazines.mono_l k
 unfold laws_FnMagazines.f
 repeat' first
   | (with_reducible exact ih0 _ _ _ _ _ _ _ _ _ _ _ _ _ _ _ _ _)
   | (with_reducible exact ih1 _ _ _ _ _ _ _ _ _ _ _ _ _ _)
   | (with_reducible exact ih2 _ _ _ _ _ _ _ _)
   | (with_reducible exact ih3 _ _ _ _ _ _ _ _ _ _ _ _ _)
   | (with_reducible exact impl_IsLawful.mono _ _ _ _)
   | (with_reducible exact impl_IsMagazine.mono _ _ _ _)
   | (with_reducible exact impl_LawfulLimit.mono _ _ _ _)
   | (with_reducible exact impl_NetIn.mono _ _ _ _)
   | (with_reducible exact impl_StorePieces.mono _ _ _ _ _ _)
   | (with_reducible exact impl_TakePieces.mono _ _ _ _ _ _)
   | (with_reducible exact laws_likeMagazine.mono _ _ _ _ _)
   | (with_reducible exact spec_DrawLawfulLimit.mono _ _)
   | (with_reducible exact spec_DrawStorePieces.mono _ _)
   | (with_reducible exact spec_IsLawful.mono _ _ _ _)
   | (with_reducible exact spec_LawfulLimit.mono _ _ _ _)
   | (with_reducible exact spec_NetIn.mono _ _ _ _)
   | (with_reducible exact spec_StorePieces.mono _ _ _ _ _ _)
   | (with_reducible exact LeO.refl _)
   | (with_reducible exact LeO.none _)
   | (with_reducible refine LeO.ite ?_ ?_)
   | (with_reducible refine LeO.bind ?_ (fun _ => ?_))
   | exact ih0 _ _ _ _ _ _ _ _ _ _ _ _ _ _ _ _ _
   | exact ih1 _ _ _ _ _ _ _ _ _ _ _ _ _ _
   | exact ih2 _ _ _ _ _ _ _ _
   | exact ih3 _ _ _ _ _ _ _ _ _ _ _ _ _
   | exact impl_IsLawful.mono _ _ _ _
   | exact impl_IsMagazine.mono _ _ _ _
   | exact impl_LawfulLimit.mono _ _ _ _
   | exact impl_NetIn.mono _ _ _ _
   | exact impl_StorePieces.mono _ _ _ _ _ _
   | exact impl_TakePieces.mono _ _ _ _ _ _
   | exact laws_likeMagazine.mono _ _ _ _ _
   | exact spec_DrawLawfulLimit.mono _ _
   | exact spec_DrawStorePieces.mono _ _
   | exact spec_IsLawful.mono _ _ _ _
   | exact spec_LawfulLimit.mono _ _ _ _
   | exact spec_NetIn.mono _ _ _ _
   | exact spec_StorePieces.mono _ _ _ _ _ _
   | exact LeO.none _
   | refine LeO.ite ?_ ?_
   | refine LeO.bind ?_ (fun _ => ?_)
set_option maxHeartbeats 8000000 in
set_option maxRecDepth 100000 in
theorem laws_FnMagazines.calls (k : Nat) (A0 : Option Addr) (c0 : Nat) (l0 : List Int) (r : Bool) (w : World) (hr0 : Kd.C (Kd.int .u8) w A0 l0.length l0) (hc0 : l0.length ≤ c0) (h : laws_FnMagazines.f k l0 = some r) :
  Calls Try.prog 10 #[.slice A0 l0.length c0] w fun e w' => e = .returned (.bool r) ∧ Below w.heap.size w w' := by
 have hu28 := Try.underlying28
 have HR0 := jA hr0
 have HC0 := jA hc0
 clear hr0 hc0
 have HB := jA (Below.refl w.heap.size w)
 have H := h
 unfold laws_FnMagazines.f at H
 clear h
 replace H := jB.mp H
 obtain ⟨t544, A20, H⟩ := H
 try dsimp only at H
 have A2 := jA A20
 clear A20
 by_cases c3 : t544 = true
 ·subst c3
  rw [if_pos rfl] at H
  obtain rfl := jK H
  go_enter Try.func10, Try.ntmps10
  go_wp2_with (first | ((with_reducible refine jD (f := 37) rfl ?_); refine zL (some 34) Try.func37 #[.slice A0 l0.length c0] ?_; (with_reducible refine (laws_big.calls _ _ l0 true _ ?side1 ?side2 A2.out).mono ?_); (case side1 => repeat (first | exact HR0.out | (with_reducible refine Kd.C_alloc ?_ _) | (with_reducible refine Kd.C_drewN ?_ _) | (with_reducible refine Kd.C_drew ?_))); (case side2 => exact HC0.out); rintro e w' ⟨rfl, ⟨nd, rfl⟩⟩; refine ⟨_, rfl, ?_⟩))
  go_ret
  exact ⟨ze, zb0 HB⟩
 ·as_aux_lemma =>
  replace c3 := Bool.eq_false_iff.mpr c3
  subst c3
  rw [if_neg zfalse] at H
  replace H := jB.mp H
  obtain ⟨⟨t545, t548, t549, t552, t553⟩, A40, H⟩ := H
  try dsimp only at H
  have A4 := jA A40
  clear A40
  replace H := jB.mp H
  obtain ⟨⟨t555, t556, t559⟩, A50, H⟩ := H
  try dsimp only at H
  have A5 := jA A50
  clear A50
  replace H := jB.mp H
  obtain ⟨⟨t561, t562, t565⟩, A60, H⟩ := H
  try dsimp only at H
  have A6 := jA A60
  clear A60
  replace H := jB.mp H
  obtain ⟨⟨t567, t568⟩, A70, H⟩ := H
  try dsimp only at H
  have A7 := jA A70
  clear A70
  replace H := jB.mp H
  obtain ⟨⟨t569, t570⟩, A80, H⟩ := H
  try dsimp only at H
  have A8 := jA A80
  clear A80
  replace H := jB.mp H
  obtain ⟨⟨t571, t572⟩, A90, H⟩ := H
  try dsimp only at H
  have A9 := jA A90
  clear A90
  replace H := jB.mp H
  obtain ⟨⟨t573, t574⟩, A100, H⟩ := H
  try dsimp only at H
  have A10 := jA A100
  clear A100
  replace H := jB.mp H
  obtain ⟨⟨t575, t578, t579⟩, A110, H⟩ := H
  try dsimp only at H
  have A11 := jA A110
  clear A110
  replace H := jB.mp H
  obtain ⟨⟨t583, t584⟩, A120, H⟩ := H
  try dsimp only at H
  have A12 := jA A120
  clear A120
  replace H := jB.mp H
  obtain ⟨⟨t585, t586⟩, A130, H⟩ := H
  try dsimp only at H
  have A13 := jA A130
  clear A130
  have HC14 := jA H
  clear H
  go_enter Try.func10, Try.ntmps10
  go_upto_region 13 with (first | ((with_reducible refine jD (f := 37) rfl ?_); refine zL (some 34) Try.func37 #[.slice A0 l0.length c0] ?_; (with_reducible refine (laws_big.calls _ _ l0 false _ ?side1 ?side2 A2.out).mono ?_); (case side1 => repeat (first | exact HR0.out | (with_reducible refine Kd.C_alloc ?_ _) | (with_reducible refine Kd.C_drewN ?_ _) | (with_reducible refine Kd.C_drew ?_))); (case side2 => exact HC0.out); rintro e w' ⟨rfl, ⟨nd, rfl⟩⟩; refine ⟨_, rfl, ?_⟩) | ((with_reducible refine jD (f := 38) rfl ?_); refine zL (some 37) Try.func38 #[.slice A0 l0.length c0] ?_; (with_reducible refine (spec_DrawStorePieces.calls k _ _ l0 t545 t548 t549 t552 t553 _ ?side1 ?side2 A4.out).mono ?_); (case side1 => repeat (first | exact HR0.out | (with_reducible refine Kd.C_alloc ?_ _) | (with_reducible refine Kd.C_drewN ?_ _) | (with_reducible refine Kd.C_drew ?_))); (case side2 => exact HC0.out); rintro e w15 ⟨v546, v550, rfl, ho0, ho1, hb⟩; refine ⟨_, rfl, ?_⟩; have HO547 := jA (jU ho0 (jW (zb0 HB))); have HO551 := jA (jU ho1 (jW (zb0 HB))); replace HB := zS0 HB hb; (try clear hb); (try clear hb2); (try clear hk); (try clear hi); (try clear ho0); (try clear ho1)) | ((with_reducible refine jL (N := 4) rfl ?_); refine zE 4 #[.int .i64 0, .slice none 0 0] 28 ?_; intro gb554 hg w16 hbox hb; replace HO547 := jA (jF (zo HO547) hb); replace HO551 := jA (jF (zo HO551) hb); have BK554 := jA (hbox); have GW554 := zg0 hg HB; have GE554 := zg0 hg HB; replace HB := zS0 HB hb; clear hb hbox hg; have hcz17 := zc2 BK554; obtain ⟨Ao18, co18, eo18⟩ := Kd.R_slice HO551.out; subst eo18; obtain ⟨Ao19, co19, eo19⟩ := Kd.R_slice HO547.out; subst eo19) | ((with_reducible refine jD (f := 39) rfl ?_); refine zL (some 47) Try.func39 #[.slice Ao19 t545.length co19, .agg #[.int .i64 t548, .slice Ao18 t549.length co18], .string t552, .int .i64 t553] ?_; (with_reducible refine (impl_StorePieces.calls k _ _ t545 t548 _ _ t549 t552 t553 t555 t556 t559 _ ?side1 ?side2 ?side3 ?side4 A5.out).mono ?_); (case side1 => refine (jM (e := 65) (base := w.heap.size) (ok := fun k_ => True) (n := t545.length) (c := co19) ?_).2.2; exact (zU HO547 BK554)); (case side2 => exact (jM HO547.out).2.1); (case side3 => refine (jM (e := 2) (base := w.heap.size) (ok := fun k_ => True) (n := t549.length) (c := co18) ?_).2.2; exact (zU HO551 BK554)); (case side4 => exact (jM HO551.out).2.1); rintro e w20 ⟨v557, rfl, ho0, hb⟩; refine ⟨_, rfl, ?_⟩; replace HO547 := jA (jF (zU HO547 BK554) hb); have HO558 := jA (jU (Kd.R_new' ho0 (Kd.R_lt (zU HO551 BK554))) (jW (zb1 HB GE554))); replace HO551 := jA (Kd.R_elder' (zU HO551 BK554) (Kd.R_base ho0) hb); replace BK554 := jA (blk_below (g := gb554) (o := .cells #[.int .i64 t548, .slice Ao18 t549.length co18] 28 (0, 0)) (zP0 BK554) hb); replace HB := zS1 HB GE554 hb; (try clear hb); (try clear hb2); (try clear hk); (try clear hi); (try clear ho0)) | ((with_reducible refine jL (N := 7) rfl ?_); refine zE 7 #[.int .i64 0, .slice none 0 0] 28 ?_; intro gb560 hg w21 hbox hb; replace HO547 := jA (jF (zo HO547) hb); replace HO551 := jA (jF (zo HO551) hb); replace HO558 := jA (jF (zo HO558) hb); have BK560 := jA (hbox); have GW560 := zg1 hg HB GE554; have GE560 := zg1 hg HB GE554; replace HB := zS1 HB GE554 hb; have NB554_560 := zn hg BK554; replace BK554 := zB BK554 hb; have NB560_554 := jA NB554_560.out.symm; clear hb hbox hg; have hnb22 := NB560_554.out; have hnc22 := NB554_560.out; have hcz23 := zc2 BK560; obtain ⟨Ao24, co24, eo24⟩ := Kd.R_slice HO558.out; subst eo24; have hcz25 := zc2 BK554) | ((with_reducible refine jD (f := 40) rfl ?_); refine zL (some 55) Try.func40 #[.slice Ao19 t545.length co19, .agg #[.int .i64 t548, .slice Ao18 t549.length co18], .string t552, .int .i64 t553] ?_; (with_reducible refine (spec_StorePieces.calls k _ _ t545 t548 _ _ t549 t552 t553 t561 t562 t565 _ ?side1 ?side2 ?side3 ?side4 A6.out).mono ?_); (case side1 => refine (jM (e := 65) (base := w.heap.size) (ok := fun k_ => True) (n := t545.length) (c := co19) ?_).2.2; exact (zU HO547 BK560)); (case side2 => exact (jM HO547.out).2.1); (case side3 => refine (jM (e := 2) (base := w.heap.size) (ok := fun k_ => (True ∧ some k_ ≠ (.slice Ao24 t556.length co24 : Value).ownBlock)) (n := t549.length) (c := co18) ?_).2.2; exact (zU HO551 BK560)); (case side4 => exact (jM HO551.out).2.1); rintro e w26 ⟨v563, rfl, ho0, hb⟩; refine ⟨_, rfl, ?_⟩; replace HO547 := jA (jF (zU HO547 BK560) hb); have HO564 := jA (jU (Kd.R_new' (Kd.R_new' ho0 (Kd.R_lt (zU HO551 BK560))) (Kd.R_lt (zU HO558 BK560))) (jW (zb2 HB GE554 GE560))); replace HO551 := jA (Kd.R_elder' (zU HO551 BK560) (Kd.R_base ho0) hb); replace HO558 := jA (Kd.R_elder' (zU HO558 BK560) (Kd.R_base ho0) hb); replace BK554 := jA (blk_below (g := gb554) (o := .cells #[.int .i64 t548, .slice Ao18 t549.length co18] 28 (0, 0)) (zQ1 BK554 NB554_560) hb); replace BK560 := jA (blk_below (g := gb560) (o := .cells #[.int .i64 t555, .slice Ao24 t556.length co24] 28 (0, 0)) (zP0 BK560) hb); replace HB := zS2 HB GE554 GE560 hb; (try clear hb); (try clear hb2); (try clear hk); (try clear hi); (try clear ho0)) | ((with_reducible refine jL (N := 9) rfl ?_); refine zE 9 #[.int .i64 0, .slice none 0 0] 28 ?_; intro gb566 hg w27 hbox hb; replace HO547 := jA (jF (zo HO547) hb); replace HO551 := jA (jF (zo HO551) hb); replace HO558 := jA (jF (zo HO558) hb); replace HO564 := jA (jF (zo HO564) hb); have BK566 := jA (hbox); have GW566 := zg2 hg HB GE554 GE560; have GE566 := zg2 hg HB GE554 GE560; replace HB := zS2 HB GE554 GE560 hb; have NB554_566 := zn hg BK554; replace BK554 := zB BK554 hb; have NB566_554 := jA NB554_566.out.symm; have NB560_566 := zn hg BK560; replace BK560 := zB BK560 hb; have NB566_560 := jA NB560_566.out.symm; clear hb hbox hg; have hnb28 := NB566_554.out; have hnc28 := NB554_566.out; have hnb29 := NB566_560.out; have hnc29 := NB560_566.out; have hcz30 := zc2 BK566; obtain ⟨Ao31, co31, eo31⟩ := Kd.R_slice HO564.out; subst eo31; have hcz32 := zc2 BK554) | ((with_reducible refine jD (f := 28) rfl ?_); refine zL (some 61) Try.func28 #[.slice Ao19 t545.length co19, .agg #[.int .i64 t548, .slice Ao18 t549.length co18]] ?_; (with_reducible refine (impl_NetIn.calls k _ _ t545 t548 _ _ t549 t567 t568 _ ?side1 ?side2 ?side3 ?side4 A7.out).mono ?_); (case side1 => refine (jM (e := 65) (base := w.heap.size) (ok := fun k_ => True) (n := t545.length) (c := co19) ?_).2.2; exact (zU HO547 BK566)); (case side2 => exact (jM HO547.out).2.1); (case side3 => refine (jM (e := 2) (base := w.heap.size) (ok := fun k_ => ((True ∧ some k_ ≠ (.slice Ao24 t556.length co24 : Value).ownBlock) ∧ some k_ ≠ (.slice Ao31 t562.length co31 : Value).ownBlock)) (n := t549.length) (c := co18) ?_).2.2; exact (zU HO551 BK566)); (case side4 => exact (jM HO551.out).2.1); rintro e w33 ⟨rfl, hb⟩; refine ⟨_, rfl, ?_⟩; replace HO547 := jA (jF (zU HO547 BK566) hb); replace HO551 := jA (jF (zU HO551 BK566) hb); replace HO558 := jA (jF (zU HO558 BK566) hb); replace HO564 := jA (jF (zU HO564 BK566) hb); replace BK554 := jA (blk_below (g := gb554) (o := .cells #[.int .i64 t548, .slice Ao18 t549.length co18] 28 (0, 0)) (zQ1 BK554 NB554_566) hb); replace BK560 := jA (blk_below (g := gb560) (o := .cells #[.int .i64 t555, .slice Ao24 t556.length co24] 28 (0, 0)) (zQ1 BK560 NB560_566) hb); replace BK566 := jA (blk_below (g := gb566) (o := .cells #[.int .i64 t561, .slice Ao31 t562.length co31] 28 (0, 0)) (zP0 BK566) hb); replace HB := zS3 HB GE554 GE560 GE566 hb; clear hb; have hcz34 := zc2 BK554) | ((with_reducible refine jD (f := 27) rfl ?_); refine zL (some 67) Try.func27 #[.slice Ao19 t545.length co19, .agg #[.int .i64 t548, .slice Ao18 t549.length co18]] ?_; (with_reducible refine (spec_NetIn.calls k _ _ t545 t548 _ _ t549 t569 t570 _ ?side1 ?side2 ?side3 ?side4 A8.out).mono ?_); (case side1 => exact zv HO547); (case side2 => exact (jM HO547.out).2.1); (case side3 => exact zv HO551); (case side4 => exact (jM HO551.out).2.1); rintro e w35 ⟨rfl, hb⟩; refine ⟨_, rfl, ?_⟩; replace HO547 := jA (jF (zo HO547) hb); replace HO551 := jA (jF (zo HO551) hb); replace HO558 := jA (jF (zo HO558) hb); replace HO564 := jA (jF (zo HO564) hb); replace BK554 := zB BK554 hb; replace BK560 := zB BK560 hb; replace BK566 := zB BK566 hb; replace HB := zS3 HB GE554 GE560 GE566 hb; clear hb; have hcz36 := zc2 BK554) | ((with_reducible refine jD (f := 30) rfl ?_); refine zL (some 73) Try.func30 #[.slice Ao19 t545.length co19, .agg #[.int .i64 t548, .slice Ao18 t549.length co18]] ?_; (with_reducible refine (impl_IsLawful.calls k _ _ t545 t548 _ _ t549 t571 t572 _ ?side1 ?side2 ?side3 ?side4 A9.out).mono ?_); (case side1 => exact zv HO547); (case side2 => exact (jM HO547.out).2.1); (case side3 => exact zv HO551); (case side4 => exact (jM HO551.out).2.1); rintro e w37 ⟨rfl, hb⟩; refine ⟨_, rfl, ?_⟩; replace HO547 := jA (jF (zo HO547) hb); replace HO551 := jA (jF (zo HO551) hb); replace HO558 := jA (jF (zo HO558) hb); replace HO564 := jA (jF (zo HO564) hb); replace BK554 := zB BK554 hb; replace BK560 := zB BK560 hb; replace BK566 := zB BK566 hb; replace HB := zS3 HB GE554 GE560 GE566 hb; clear hb; have hcz38 := zc2 BK554) | ((with_reducible refine jD (f := 29) rfl ?_); refine zL (some 79) Try.func29 #[.slice Ao19 t545.length co19, .agg #[.int .i64 t548, .slice Ao18 t549.length co18]] ?_; (with_reducible refine (spec_IsLawful.calls k _ _ t545 t548 _ _ t549 t573 t574 _ ?side1 ?side2 ?side3 ?side4 A10.out).mono ?_); (case side1 => exact zv HO547); (case side2 => exact (jM HO547.out).2.1); (case side3 => exact zv HO551); (case side4 => exact (jM HO551.out).2.1); rintro e w39 ⟨rfl, hb⟩; refine ⟨_, rfl, ?_⟩; replace HO547 := jA (jF (zo HO547) hb); replace HO551 := jA (jF (zo HO551) hb); replace HO558 := jA (jF (zo HO558) hb); replace HO564 := jA (jF (zo HO564) hb); replace BK554 := zB BK554 hb; replace BK560 := zB BK560 hb; replace BK566 := zB BK566 hb; replace HB := zS3 HB GE554 GE560 GE566 hb; clear hb) | ((with_reducible refine jD (f := 41) rfl ?_); refine zL (some 84) Try.func41 #[.slice A0 l0.length c0] ?_; (with_reducible refine (spec_DrawLawfulLimit.calls k _ _ l0 t575 t578 t579 _ ?side1 ?side2 A11.out).mono ?_); (case side1 => exact zs HR0 HB); (case side2 => exact HC0.out); rintro e w40 ⟨v576, v580, rfl, ho0, ho1, hb⟩; refine ⟨_, rfl, ?_⟩; have HO577 := jA (jU (Kd.R_new' ho0 (Kd.R_lt (zo HO547))) (jW (zb3 HB GE554 GE560 GE566))); replace HO547 := jA (Kd.R_elder' (zo HO547) (Kd.R_base ho0) hb); have HO581 := jA (jU (Kd.R_new' (Kd.R_new' (Kd.R_new' ho1 (Kd.R_lt (zo HO551))) (Kd.R_lt (zo HO558))) (Kd.R_lt (zo HO564))) (jW (zb3 HB GE554 GE560 GE566))); replace HO551 := jA (Kd.R_elder' (zo HO551) (Kd.R_base ho1) hb); replace HO558 := jA (Kd.R_elder' (zo HO558) (Kd.R_base ho1) hb); replace HO564 := jA (Kd.R_elder' (zo HO564) (Kd.R_base ho1) hb); replace BK554 := zB BK554 hb; replace BK560 := zB BK560 hb; replace BK566 := zB BK566 hb; replace HB := zS3 HB GE554 GE560 GE566 hb; (try clear hb); (try clear hb2); (try clear hk); (try clear hi); (try clear ho0); (try clear ho1)) | ((with_reducible refine jL (N := 20) rfl ?_); refine zE 20 #[.int .i64 0, .slice none 0 0] 28 ?_; intro gb582 hg w41 hbox hb; replace HO547 := jA (jF (zo HO547) hb); replace HO551 := jA (jF (zo HO551) hb); replace HO558 := jA (jF (zo HO558) hb); replace HO564 := jA (jF (zo HO564) hb); replace HO577 := jA (jF (zo HO577) hb); replace HO581 := jA (jF (zo HO581) hb); have BK582 := jA (hbox); have GW582 := zg3 hg HB GE554 GE560 GE566; have GE582 := zg3 hg HB GE554 GE560 GE566; replace HB := zS3 HB GE554 GE560 GE566 hb; have NB554_582 := zn hg BK554; replace BK554 := zB BK554 hb; have NB582_554 := jA NB554_582.out.symm; have NB560_582 := zn hg BK560; replace BK560 := zB BK560 hb; have NB582_560 := jA NB560_582.out.symm; have NB566_582 := zn hg BK566; replace BK566 := zB BK566 hb; have NB582_566 := jA NB566_582.out.symm; clear hb hbox hg; have hnb42 := NB582_554.out; have hnc42 := NB554_582.out; have hnb43 := NB582_560.out; have hnc43 := NB560_582.out; have hnb44 := NB582_566.out; have hnc44 := NB566_582.out; have hcz45 := zc2 BK582; obtain ⟨Ao46, co46, eo46⟩ := Kd.R_slice HO581.out; subst eo46; obtain ⟨Ao47, co47, eo47⟩ := Kd.R_slice HO577.out; subst eo47) | ((with_reducible refine jD (f := 32) rfl ?_); refine zL (some 90) Try.func32 #[.slice Ao47 t575.length co47, .agg #[.int .i64 t578, .slice Ao46 t579.length co46]] ?_; (with_reducible refine (impl_LawfulLimit.calls k _ _ t575 t578 _ _ t579 t583 t584 _ ?side1 ?side2 ?side3 ?side4 A12.out).mono ?_); (case side1 => refine (jM (e := 65) (base := w.heap.size) (ok := fun k_ => (True ∧ some k_ ≠ (.slice Ao19 t545.length co19 : Value).ownBlock)) (n := t575.length) (c := co47) ?_).2.2; exact (zU HO577 BK582)); (case side2 => exact (jM HO577.out).2.1); (case side3 => refine (jM (e := 2) (base := w.heap.size) (ok := fun k_ => (((True ∧ some k_ ≠ (.slice Ao18 t549.length co18 : Value).ownBlock) ∧ some k_ ≠ (.slice Ao24 t556.length co24 : Value).ownBlock) ∧ some k_ ≠ (.slice Ao31 t562.length co31 : Value).ownBlock)) (n := t579.length) (c := co46) ?_).2.2; exact (zU HO581 BK582)); (case side4 => exact (jM HO581.out).2.1); rintro e w48 ⟨rfl, hb⟩; refine ⟨_, rfl, ?_⟩; replace HO547 := jA (jF (zU HO547 BK582) hb); replace HO551 := jA (jF (zU HO551 BK582) hb); replace HO558 := jA (jF (zU HO558 BK582) hb); replace HO564 := jA (jF (zU HO564 BK582) hb); replace HO577 := jA (jF (zU HO577 BK582) hb); replace HO581 := jA (jF (zU HO581 BK582) hb); replace BK554 := jA (blk_below (g := gb554) (o := .cells #[.int .i64 t548, .slice Ao18 t549.length co18] 28 (0, 0)) (zQ1 BK554 NB554_582) hb); replace BK560 := jA (blk_below (g := gb560) (o := .cells #[.int .i64 t555, .slice Ao24 t556.length co24] 28 (0, 0)) (zQ1 BK560 NB560_582) hb); replace BK566 := jA (blk_below (g := gb566) (o := .cells #[.int .i64 t561, .slice Ao31 t562.length co31] 28 (0, 0)) (zQ1 BK566 NB566_582) hb); replace BK582 := jA (blk_below (g := gb582) (o := .cells #[.int .i64 t578, .slice Ao46 t579.length co46] 28 (0, 0)) (zP0 BK582) hb); replace HB := zS4 HB GE554 GE560 GE566 GE582 hb; clear hb; have hcz49 := zc2 BK582) | ((with_reducible refine jD (f := 31) rfl ?_); refine zL (some 96) Try.func31 #[.slice Ao47 t575.length co47, .agg #[.int .i64 t578, .slice Ao46 t579.length co46]] ?_; (with_reducible refine (spec_LawfulLimit.calls k _ _ t575 t578 _ _ t579 t585 t586 _ ?side1 ?side2 ?side3 ?side4 A13.out).mono ?_); (case side1 => exact zv HO577); (case side2 => exact (jM HO577.out).2.1); (case side3 => exact zv HO581); (case side4 => exact (jM HO581.out).2.1); rintro e w50 ⟨rfl, hb⟩; refine ⟨_, rfl, ?_⟩; replace HO547 := jA (jF (zo HO547) hb); replace HO551 := jA (jF (zo HO551) hb); replace HO558 := jA (jF (zo HO558) hb); replace HO564 := jA (jF (zo HO564) hb); replace HO577 := jA (jF (zo HO577) hb); replace HO581 := jA (jF (zo HO581) hb); replace BK554 := zB BK554 hb; replace BK560 := zB BK560 hb; replace BK566 := zB BK566 hb; replace BK582 := zB BK582 hb; replace HB := zS4 HB GE554 GE560 GE566 GE582 hb; clear hb))
  (try simp only [Act.put, jE, jH, jI])
  go_cut [145] (fun v145 wc => ∃ (kq : Nat) (x145_13 : Bool), v145 = .bool x145_13 ∧ Aside0 (laws_FnMagazines.j0 kq t545 t552 t553 t559 t567 t571 t572 t575 t583 t584 x145_13 t548 t549 t555 t556 t578 t579 = some r) ∧ Aside0 (kq ≤ k) ∧ Aside0 (Kd.R k65 65 wc w.heap.size (fun k_ => some k_ ≠ ((.slice Ao47 t575.length co47) : Value).ownBlock) (.slice Ao19 t545.length co19) t545) ∧ Aside0 (Kd.R k65 65 wc w.heap.size (fun k_ => some k_ ≠ ((.slice Ao19 t545.length co19) : Value).ownBlock) (.slice Ao47 t575.length co47) t575) ∧ Aside0 (Kd.R (Kd.int .i64) 2 wc w.heap.size (fun k_ => some k_ ≠ ((.slice Ao24 t556.length co24) : Value).ownBlock ∧ some k_ ≠ ((.slice Ao31 t562.length co31) : Value).ownBlock ∧ some k_ ≠ ((.slice Ao46 t579.length co46) : Value).ownBlock) (.slice Ao18 t549.length co18) t549) ∧ Aside0 (Kd.R (Kd.int .i64) 2 wc w.heap.size (fun k_ => some k_ ≠ ((.slice Ao18 t549.length co18) : Value).ownBlock ∧ some k_ ≠ ((.slice Ao31 t562.length co31) : Value).ownBlock ∧ some k_ ≠ ((.slice Ao46 t579.length co46) : Value).ownBlock) (.slice Ao24 t556.length co24) t556) ∧ Aside0 (Kd.R (Kd.int .i64) 2 wc w.heap.size (fun k_ => some k_ ≠ ((.slice Ao18 t549.length co18) : Value).ownBlock ∧ some k_ ≠ ((.slice Ao24 t556.length co24) : Value).ownBlock ∧ some k_ ≠ ((.slice Ao46 t579.length co46) : Value).ownBlock) (.slice Ao31 t562.length co31) t562) ∧ Aside0 (Kd.R (Kd.int .i64) 2 wc w.heap.size (fun k_ => some k_ ≠ ((.slice Ao18 t549.length co18) : Value).ownBlock ∧ some k_ ≠ ((.slice Ao24 t556.length co24) : Value).ownBlock ∧ some k_ ≠ ((.slice Ao31 t562.length co31) : Value).ownBlock) (.slice Ao46 t579.length co46) t579) ∧ Aside0 (wc.heap[gb554]? = some (.cells #[.int .i64 t548, (.slice Ao18 t549.length co18)] 28 (0, 0))) ∧ Aside0 (wc.heap[gb560]? = some (.cells #[.int .i64 t555, (.slice Ao24 t556.length co24)] 28 (0, 0))) ∧ Aside0 (wc.heap[gb566]? = some (.cells #[.int .i64 t561, (.slice Ao31 t562.length co31)] 28 (0, 0))) ∧ Aside0 (wc.heap[gb582]? = some (.cells #[.int .i64 t578, (.slice Ao46 t579.length co46)] 28 (0, 0))) ∧ Aside0 (Below w.heap.size w wc))
  case first =>
   have H := HC14.out
   clear HC14
   by_cases c51 : t559 = t565
   ·as_aux_lemma =>
    rw [if_pos c51] at H
    have c51b0 : (t559 == t565) = true := beq_iff_eq.mpr c51
    have c51b1 : (t559 != t565) = false := bne_eq_false_iff_eq.mpr c51
    clear c51
    (first | rw [c51b0] | (simp only [i64_w, i32_w]; rw [c51b0]) | skip)
    replace H := jB.mp H
    obtain ⟨t587, A520, H⟩ := H
    try dsimp only at H
    have A52 := jA A520
    clear A520
    by_cases c53 : t587 = true
    ·as_aux_lemma =>
     subst c53
     rw [if_pos rfl] at H
     by_cases c54 : t568 = t570
     ·as_aux_lemma =>
      rw [if_pos c54] at H
      have c54b0 : (t568 == t570) = true := beq_iff_eq.mpr c54
      have c54b1 : (t568 != t570) = false := bne_eq_false_iff_eq.mpr c54
      clear c54
      by_cases c55 : t567 = t569
      ·as_aux_lemma =>
       rw [if_pos c55] at H
       have c55b0 : (t567 == t569) = true := beq_iff_eq.mpr c55
       have c55b1 : (t567 != t569) = false := bne_eq_false_iff_eq.mpr c55
       clear c55
       by_cases c56 : t572 = t574
       ·as_aux_lemma =>
        rw [if_pos c56] at H
        have c56b0 : (t572 == t574) = true := beq_iff_eq.mpr c56
        have c56b1 : (t572 != t574) = false := bne_eq_false_iff_eq.mpr c56
        clear c56
        by_cases c57 : (t571 != t573) = true
        ·rw [if_pos c57] at H
         have c57b0 : (t571 != t573) = true := c57
         (try (have c57b1 : decide (t571 = t573) = false := by simpa using c57))
         (try (have c57b2 : (t571 == t573) = false := by simpa using c57))
         (try (have c57b3 : ¬ (t571 = t573) := by simpa using c57))
         clear c57
         have H' := jA H
         clear H
         have hnb58 := NB560_554.out
         have hnc58 := NB554_560.out
         have hnb59 := NB560_566.out
         have hnc59 := NB566_560.out
         have hnb60 := NB560_582.out
         have hnc60 := NB582_560.out
         have hcz61 := zc2 BK560
         have hnb62 := NB566_554.out
         have hnc62 := NB554_566.out
         have hnb63 := NB566_582.out
         have hnc63 := NB582_566.out
         have hcz64 := zc2 BK566
         go_wp2_with (first | (go_at_call 42; (with_reducible refine (laws_likeMagazine.calls k t555 _ _ t556 t561 _ _ t562 true _ ?side1 ?side2 ?side3 ?side4 A52.out).mono ?_); (case side1 => exact zv HO558); (case side2 => exact (jM HO558.out).2.1); (case side3 => exact zv HO564); (case side4 => exact (jM HO564.out).2.1); rintro e w65 ⟨rfl, hb⟩; replace HO547 := jA (jF (zo HO547) hb); replace HO551 := jA (jF (zo HO551) hb); replace HO558 := jA (jF (zo HO558) hb); replace HO564 := jA (jF (zo HO564) hb); replace HO577 := jA (jF (zo HO577) hb); replace HO581 := jA (jF (zo HO581) hb); replace BK554 := zB BK554 hb; replace BK560 := zB BK560 hb; replace BK566 := zB BK566 hb; replace BK582 := zB BK582 hb; replace HB := zS4 HB GE554 GE560 GE566 GE582 hb; (try clear hb); (try clear hb2); (try clear hk); (try clear hi)))
         go_meet
         case rel => exact ⟨_, (true), zz, H', ⟨by first | omega | exact Nat.le_refl _⟩, ⟨by (with_reducible repeat (first | apply jT | apply jS | apply jR)); exact Kd.R_mono HO547.out (fun _ hk => hk.2)⟩, ⟨by (with_reducible repeat (first | apply jT | apply jS | apply jR)); exact Kd.R_mono HO577.out (fun _ hk => hk.2)⟩, ⟨by (with_reducible repeat (first | apply jT | apply jS | apply jR)); exact Kd.R_mono HO551.out (fun _ hk => ⟨hk.1.1.2, ⟨hk.1.2, hk.2⟩⟩)⟩, ⟨by (with_reducible repeat (first | apply jT | apply jS | apply jR)); exact Kd.R_mono HO558.out (fun _ hk => ⟨hk.1.1.2, ⟨hk.1.2, hk.2⟩⟩)⟩, ⟨by (with_reducible repeat (first | apply jT | apply jS | apply jR)); exact Kd.R_mono HO564.out (fun _ hk => ⟨hk.1.1.2, ⟨hk.1.2, hk.2⟩⟩)⟩, ⟨by (with_reducible repeat (first | apply jT | apply jS | apply jR)); exact Kd.R_mono HO581.out (fun _ hk => ⟨hk.1.1.2, ⟨hk.1.2, hk.2⟩⟩)⟩, ⟨zk BK554⟩, ⟨zk BK560⟩, ⟨zk BK566⟩, ⟨zk BK582⟩, ⟨zb4 HB GE554 GE560 GE566 GE582⟩⟩
        ·as_aux_lemma =>
         rw [if_neg c57] at H
         have c57b0 : (t571 != t573) = false := by simpa using c57
         (try (have c57b1 : decide (t571 = t573) = true := by simpa using c57))
         (try (have c57b2 : (t571 == t573) = true := by simpa using c57))
         clear c57
         by_cases c66 : t584 = t586
         ·as_aux_lemma =>
          rw [if_pos c66] at H
          have c66b0 : (t584 == t586) = true := beq_iff_eq.mpr c66
          have c66b1 : (t584 != t586) = false := bne_eq_false_iff_eq.mpr c66
          clear c66
          by_cases c67 : t583 = t585
          ·as_aux_lemma =>
           rw [if_pos c67] at H
           have c67b0 : (t583 == t585) = true := beq_iff_eq.mpr c67
           have c67b1 : (t583 != t585) = false := bne_eq_false_iff_eq.mpr c67
           clear c67
           replace H := jB.mp H
           obtain ⟨t588, A680, H⟩ := H
           try dsimp only at H
           have A68 := jA A680
           clear A680
           have H' := jA H
           clear H
           have hnb69 := NB560_554.out
           have hnc69 := NB554_560.out
           have hnb70 := NB560_566.out
           have hnc70 := NB566_560.out
           have hnb71 := NB560_582.out
           have hnc71 := NB582_560.out
           have hcz72 := zc2 BK560
           have hnb73 := NB566_554.out
           have hnc73 := NB554_566.out
           have hnb74 := NB566_582.out
           have hnc74 := NB582_566.out
           have hcz75 := zc2 BK566
           go_wp2_with (first | (go_at_call 42; (with_reducible refine (laws_likeMagazine.calls k t555 _ _ t556 t561 _ _ t562 true _ ?side1 ?side2 ?side3 ?side4 A52.out).mono ?_); (case side1 => exact zv HO558); (case side2 => exact (jM HO558.out).2.1); (case side3 => exact zv HO564); (case side4 => exact (jM HO564.out).2.1); rintro e w76 ⟨rfl, hb⟩; replace HO547 := jA (jF (zo HO547) hb); replace HO551 := jA (jF (zo HO551) hb); replace HO558 := jA (jF (zo HO558) hb); replace HO564 := jA (jF (zo HO564) hb); replace HO577 := jA (jF (zo HO577) hb); replace HO581 := jA (jF (zo HO581) hb); replace BK554 := zB BK554 hb; replace BK560 := zB BK560 hb; replace BK566 := zB BK566 hb; replace BK582 := zB BK582 hb; replace HB := zS4 HB GE554 GE560 GE566 GE582 hb; (try clear hb); (try clear hb2); (try clear hk); (try clear hi); have hnb77 := NB554_582.out; have hnc77 := NB582_554.out; have hcz78 := zc2 BK554) | (go_at_call 26; (with_reducible refine (impl_IsMagazine.calls k _ _ t545 t548 _ _ t549 t588 _ ?side1 ?side2 ?side3 ?side4 A68.out).mono ?_); (case side1 => exact zv HO547); (case side2 => exact (jM HO547.out).2.1); (case side3 => exact zv HO551); (case side4 => exact (jM HO551.out).2.1); rintro e w79 ⟨rfl, hb⟩; replace HO547 := jA (jF (zo HO547) hb); replace HO551 := jA (jF (zo HO551) hb); replace HO558 := jA (jF (zo HO558) hb); replace HO564 := jA (jF (zo HO564) hb); replace HO577 := jA (jF (zo HO577) hb); replace HO581 := jA (jF (zo HO581) hb); replace BK554 := zB BK554 hb; replace BK560 := zB BK560 hb; replace BK566 := zB BK566 hb; replace BK582 := zB BK582 hb; replace HB := zS4 HB GE554 GE560 GE566 GE582 hb; (try clear hb); (try clear hb2); (try clear hk); (try clear hi)))
           go_meet
           case rel => exact ⟨_, ((t588 != (t570 == 0))), zz, H', ⟨by first | omega | exact Nat.le_refl _⟩, ⟨by (with_reducible repeat (first | apply jT | apply jS | apply jR)); exact Kd.R_mono HO547.out (fun _ hk => hk.2)⟩, ⟨by (with_reducible repeat (first | apply jT | apply jS | apply jR)); exact Kd.R_mono HO577.out (fun _ hk => hk.2)⟩, ⟨by (with_reducible repeat (first | apply jT | apply jS | apply jR)); exact Kd.R_mono HO551.out (fun _ hk => ⟨hk.1.1.2, ⟨hk.1.2, hk.2⟩⟩)⟩, ⟨by (with_reducible repeat (first | apply jT | apply jS | apply jR)); exact Kd.R_mono HO558.out (fun _ hk => ⟨hk.1.1.2, ⟨hk.1.2, hk.2⟩⟩)⟩, ⟨by (with_reducible repeat (first | apply jT | apply jS | apply jR)); exact Kd.R_mono HO564.out (fun _ hk => ⟨hk.1.1.2, ⟨hk.1.2, hk.2⟩⟩)⟩, ⟨by (with_reducible repeat (first | apply jT | apply jS | apply jR)); exact Kd.R_mono HO581.out (fun _ hk => ⟨hk.1.1.2, ⟨hk.1.2, hk.2⟩⟩)⟩, ⟨zk BK554⟩, ⟨zk BK560⟩, ⟨zk BK566⟩, ⟨zk BK582⟩, ⟨zb4 HB GE554 GE560 GE566 GE582⟩⟩
          ·rw [if_neg c67] at H
           have c67b0 : (t583 == t585) = false := beq_eq_false_iff_ne.mpr c67
           have c67b1 : (t583 != t585) = true := bne_iff_ne.mpr c67
           have H' := jA H
           clear H
           have hnb80 := NB560_554.out
           have hnc80 := NB554_560.out
           have hnb81 := NB560_566.out
           have hnc81 := NB566_560.out
           have hnb82 := NB560_582.out
           have hnc82 := NB582_560.out
           have hcz83 := zc2 BK560
           have hnb84 := NB566_554.out
           have hnc84 := NB554_566.out
           have hnb85 := NB566_582.out
           have hnc85 := NB582_566.out
           have hcz86 := zc2 BK566
           go_wp2_with (first | (go_at_call 42; (with_reducible refine (laws_likeMagazine.calls k t555 _ _ t556 t561 _ _ t562 true _ ?side1 ?side2 ?side3 ?side4 A52.out).mono ?_); (case side1 => exact zv HO558); (case side2 => exact (jM HO558.out).2.1); (case side3 => exact zv HO564); (case side4 => exact (jM HO564.out).2.1); rintro e w87 ⟨rfl, hb⟩; replace HO547 := jA (jF (zo HO547) hb); replace HO551 := jA (jF (zo HO551) hb); replace HO558 := jA (jF (zo HO558) hb); replace HO564 := jA (jF (zo HO564) hb); replace HO577 := jA (jF (zo HO577) hb); replace HO581 := jA (jF (zo HO581) hb); replace BK554 := zB BK554 hb; replace BK560 := zB BK560 hb; replace BK566 := zB BK566 hb; replace BK582 := zB BK582 hb; replace HB := zS4 HB GE554 GE560 GE566 GE582 hb; (try clear hb); (try clear hb2); (try clear hk); (try clear hi)))
           go_meet
           case rel => exact ⟨_, (true), zz, H', ⟨by first | omega | exact Nat.le_refl _⟩, ⟨by (with_reducible repeat (first | apply jT | apply jS | apply jR)); exact Kd.R_mono HO547.out (fun _ hk => hk.2)⟩, ⟨by (with_reducible repeat (first | apply jT | apply jS | apply jR)); exact Kd.R_mono HO577.out (fun _ hk => hk.2)⟩, ⟨by (with_reducible repeat (first | apply jT | apply jS | apply jR)); exact Kd.R_mono HO551.out (fun _ hk => ⟨hk.1.1.2, ⟨hk.1.2, hk.2⟩⟩)⟩, ⟨by (with_reducible repeat (first | apply jT | apply jS | apply jR)); exact Kd.R_mono HO558.out (fun _ hk => ⟨hk.1.1.2, ⟨hk.1.2, hk.2⟩⟩)⟩, ⟨by (with_reducible repeat (first | apply jT | apply jS | apply jR)); exact Kd.R_mono HO564.out (fun _ hk => ⟨hk.1.1.2, ⟨hk.1.2, hk.2⟩⟩)⟩, ⟨by (with_reducible repeat (first | apply jT | apply jS | apply jR)); exact Kd.R_mono HO581.out (fun _ hk => ⟨hk.1.1.2, ⟨hk.1.2, hk.2⟩⟩)⟩, ⟨zk BK554⟩, ⟨zk BK560⟩, ⟨zk BK566⟩, ⟨zk BK582⟩, ⟨zb4 HB GE554 GE560 GE566 GE582⟩⟩
         ·rw [if_neg c66] at H
          have c66b0 : (t584 == t586) = false := beq_eq_false_iff_ne.mpr c66
          have c66b1 : (t584 != t586) = true := bne_iff_ne.mpr c66
          have H' := jA H
          clear H
          have hnb88 := NB560_554.out
          have hnc88 := NB554_560.out
          have hnb89 := NB560_566.out
          have hnc89 := NB566_560.out
          have hnb90 := NB560_582.out
          have hnc90 := NB582_560.out
          have hcz91 := zc2 BK560
          have hnb92 := NB566_554.out
          have hnc92 := NB554_566.out
          have hnb93 := NB566_582.out
          have hnc93 := NB582_566.out
          have hcz94 := zc2 BK566
          go_wp2_with (first | (go_at_call 42; (with_reducible refine (laws_likeMagazine.calls k t555 _ _ t556 t561 _ _ t562 true _ ?side1 ?side2 ?side3 ?side4 A52.out).mono ?_); (case side1 => exact zv HO558); (case side2 => exact (jM HO558.out).2.1); (case side3 => exact zv HO564); (case side4 => exact (jM HO564.out).2.1); rintro e w95 ⟨rfl, hb⟩; replace HO547 := jA (jF (zo HO547) hb); replace HO551 := jA (jF (zo HO551) hb); replace HO558 := jA (jF (zo HO558) hb); replace HO564 := jA (jF (zo HO564) hb); replace HO577 := jA (jF (zo HO577) hb); replace HO581 := jA (jF (zo HO581) hb); replace BK554 := zB BK554 hb; replace BK560 := zB BK560 hb; replace BK566 := zB BK566 hb; replace BK582 := zB BK582 hb; replace HB := zS4 HB GE554 GE560 GE566 GE582 hb; (try clear hb); (try clear hb2); (try clear hk); (try clear hi)))
          go_meet
          case rel => exact ⟨_, (true), zz, H', ⟨by first | omega | exact Nat.le_refl _⟩, ⟨by (with_reducible repeat (first | apply jT | apply jS | apply jR)); exact Kd.R_mono HO547.out (fun _ hk => hk.2)⟩, ⟨by (with_reducible repeat (first | apply jT | apply jS | apply jR)); exact Kd.R_mono HO577.out (fun _ hk => hk.2)⟩, ⟨by (with_reducible repeat (first | apply jT | apply jS | apply jR)); exact Kd.R_mono HO551.out (fun _ hk => ⟨hk.1.1.2, ⟨hk.1.2, hk.2⟩⟩)⟩, ⟨by (with_reducible repeat (first | apply jT | apply jS | apply jR)); exact Kd.R_mono HO558.out (fun _ hk => ⟨hk.1.1.2, ⟨hk.1.2, hk.2⟩⟩)⟩, ⟨by (with_reducible repeat (first | apply jT | apply jS | apply jR)); exact Kd.R_mono HO564.out (fun _ hk => ⟨hk.1.1.2, ⟨hk.1.2, hk.2⟩⟩)⟩, ⟨by (with_reducible repeat (first | apply jT | apply jS | apply jR)); exact Kd.R_mono HO581.out (fun _ hk => ⟨hk.1.1.2, ⟨hk.1.2, hk.2⟩⟩)⟩, ⟨zk BK554⟩, ⟨zk BK560⟩, ⟨zk BK566⟩, ⟨zk BK582⟩, ⟨zb4 HB GE554 GE560 GE566 GE582⟩⟩
       ·rw [if_neg c56] at H
        have c56b0 : (t572 == t574) = false := beq_eq_false_iff_ne.mpr c56
        have c56b1 : (t572 != t574) = true := bne_iff_ne.mpr c56
        have H' := jA H
        clear H
        have hnb96 := NB560_554.out
        have hnc96 := NB554_560.out
        have hnb97 := NB560_566.out
        have hnc97 := NB566_560.out
        have hnb98 := NB560_582.out
        have hnc98 := NB582_560.out
        have hcz99 := zc2 BK560
        have hnb100 := NB566_554.out
        have hnc100 := NB554_566.out
        have hnb101 := NB566_582.out
        have hnc101 := NB582_566.out
        have hcz102 := zc2 BK566
        go_wp2_with (first | (go_at_call 42; (with_reducible refine (laws_likeMagazine.calls k t555 _ _ t556 t561 _ _ t562 true _ ?side1 ?side2 ?side3 ?side4 A52.out).mono ?_); (case side1 => exact zv HO558); (case side2 => exact (jM HO558.out).2.1); (case side3 => exact zv HO564); (case side4 => exact (jM HO564.out).2.1); rintro e w103 ⟨rfl, hb⟩; replace HO547 := jA (jF (zo HO547) hb); replace HO551 := jA (jF (zo HO551) hb); replace HO558 := jA (jF (zo HO558) hb); replace HO564 := jA (jF (zo HO564) hb); replace HO577 := jA (jF (zo HO577) hb); replace HO581 := jA (jF (zo HO581) hb); replace BK554 := zB BK554 hb; replace BK560 := zB BK560 hb; replace BK566 := zB BK566 hb; replace BK582 := zB BK582 hb; replace HB := zS4 HB GE554 GE560 GE566 GE582 hb; (try clear hb); (try clear hb2); (try clear hk); (try clear hi)))
        go_meet
        case rel => exact ⟨_, (true), zz, H', ⟨by first | omega | exact Nat.le_refl _⟩, ⟨by (with_reducible repeat (first | apply jT | apply jS | apply jR)); exact Kd.R_mono HO547.out (fun _ hk => hk.2)⟩, ⟨by (with_reducible repeat (first | apply jT | apply jS | apply jR)); exact Kd.R_mono HO577.out (fun _ hk => hk.2)⟩, ⟨by (with_reducible repeat (first | apply jT | apply jS | apply jR)); exact Kd.R_mono HO551.out (fun _ hk => ⟨hk.1.1.2, ⟨hk.1.2, hk.2⟩⟩)⟩, ⟨by (with_reducible repeat (first | apply jT | apply jS | apply jR)); exact Kd.R_mono HO558.out (fun _ hk => ⟨hk.1.1.2, ⟨hk.1.2, hk.2⟩⟩)⟩, ⟨by (with_reducible repeat (first | apply jT | apply jS | apply jR)); exact Kd.R_mono HO564.out (fun _ hk => ⟨hk.1.1.2, ⟨hk.1.2, hk.2⟩⟩)⟩, ⟨by (with_reducible repeat (first | apply jT | apply jS | apply jR)); exact Kd.R_mono HO581.out (fun _ hk => ⟨hk.1.1.2, ⟨hk.1.2, hk.2⟩⟩)⟩, ⟨zk BK554⟩, ⟨zk BK560⟩, ⟨zk BK566⟩, ⟨zk BK582⟩, ⟨zb4 HB GE554 GE560 GE566 GE582⟩⟩
      ·rw [if_neg c55] at H
       have c55b0 : (t567 == t569) = false := beq_eq_false_iff_ne.mpr c55
       have c55b1 : (t567 != t569) = true := bne_iff_ne.mpr c55
       have H' := jA H
       clear H
       have hnb104 := NB560_554.out
       have hnc104 := NB554_560.out
       have hnb105 := NB560_566.out
       have hnc105 := NB566_560.out
       have hnb106 := NB560_582.out
       have hnc106 := NB582_560.out
       have hcz107 := zc2 BK560
       have hnb108 := NB566_554.out
       have hnc108 := NB554_566.out
       have hnb109 := NB566_582.out
       have hnc109 := NB582_566.out
       have hcz110 := zc2 BK566
       go_wp2_with (first | (go_at_call 42; (with_reducible refine (laws_likeMagazine.calls k t555 _ _ t556 t561 _ _ t562 true _ ?side1 ?side2 ?side3 ?side4 A52.out).mono ?_); (case side1 => exact zv HO558); (case side2 => exact (jM HO558.out).2.1); (case side3 => exact zv HO564); (case side4 => exact (jM HO564.out).2.1); rintro e w111 ⟨rfl, hb⟩; replace HO547 := jA (jF (zo HO547) hb); replace HO551 := jA (jF (zo HO551) hb); replace HO558 := jA (jF (zo HO558) hb); replace HO564 := jA (jF (zo HO564) hb); replace HO577 := jA (jF (zo HO577) hb); replace HO581 := jA (jF (zo HO581) hb); replace BK554 := zB BK554 hb; replace BK560 := zB BK560 hb; replace BK566 := zB BK566 hb; replace BK582 := zB BK582 hb; replace HB := zS4 HB GE554 GE560 GE566 GE582 hb; (try clear hb); (try clear hb2); (try clear hk); (try clear hi)))
       go_meet
       case rel => exact ⟨_, (true), zz, H', ⟨by first | omega | exact Nat.le_refl _⟩, ⟨by (with_reducible repeat (first | apply jT | apply jS | apply jR)); exact Kd.R_mono HO547.out (fun _ hk => hk.2)⟩, ⟨by (with_reducible repeat (first | apply jT | apply jS | apply jR)); exact Kd.R_mono HO577.out (fun _ hk => hk.2)⟩, ⟨by (with_reducible repeat (first | apply jT | apply jS | apply jR)); exact Kd.R_mono HO551.out (fun _ hk => ⟨hk.1.1.2, ⟨hk.1.2, hk.2⟩⟩)⟩, ⟨by (with_reducible repeat (first | apply jT | apply jS | apply jR)); exact Kd.R_mono HO558.out (fun _ hk => ⟨hk.1.1.2, ⟨hk.1.2, hk.2⟩⟩)⟩, ⟨by (with_reducible repeat (first | apply jT | apply jS | apply jR)); exact Kd.R_mono HO564.out (fun _ hk => ⟨hk.1.1.2, ⟨hk.1.2, hk.2⟩⟩)⟩, ⟨by (with_reducible repeat (first | apply jT | apply jS | apply jR)); exact Kd.R_mono HO581.out (fun _ hk => ⟨hk.1.1.2, ⟨hk.1.2, hk.2⟩⟩)⟩, ⟨zk BK554⟩, ⟨zk BK560⟩, ⟨zk BK566⟩, ⟨zk BK582⟩, ⟨zb4 HB GE554 GE560 GE566 GE582⟩⟩
     ·rw [if_neg c54] at H
      have c54b0 : (t568 == t570) = false := beq_eq_false_iff_ne.mpr c54
      have c54b1 : (t568 != t570) = true := bne_iff_ne.mpr c54
      have H' := jA H
      clear H
      have hnb112 := NB560_554.out
      have hnc112 := NB554_560.out
      have hnb113 := NB560_566.out
      have hnc113 := NB566_560.out
      have hnb114 := NB560_582.out
      have hnc114 := NB582_560.out
      have hcz115 := zc2 BK560
      have hnb116 := NB566_554.out
      have hnc116 := NB554_566.out
      have hnb117 := NB566_582.out
      have hnc117 := NB582_566.out
      have hcz118 := zc2 BK566
      go_wp2_with (first | (go_at_call 42; (with_reducible refine (laws_likeMagazine.calls k t555 _ _ t556 t561 _ _ t562 true _ ?side1 ?side2 ?side3 ?side4 A52.out).mono ?_); (case side1 => exact zv HO558); (case side2 => exact (jM HO558.out).2.1); (case side3 => exact zv HO564); (case side4 => exact (jM HO564.out).2.1); rintro e w119 ⟨rfl, hb⟩; replace HO547 := jA (jF (zo HO547) hb); replace HO551 := jA (jF (zo HO551) hb); replace HO558 := jA (jF (zo HO558) hb); replace HO564 := jA (jF (zo HO564) hb); replace HO577 := jA (jF (zo HO577) hb); replace HO581 := jA (jF (zo HO581) hb); replace BK554 := zB BK554 hb; replace BK560 := zB BK560 hb; replace BK566 := zB BK566 hb; replace BK582 := zB BK582 hb; replace HB := zS4 HB GE554 GE560 GE566 GE582 hb; (try clear hb); (try clear hb2); (try clear hk); (try clear hi)))
      go_meet
      case rel => exact ⟨_, (true), zz, H', ⟨by first | omega | exact Nat.le_refl _⟩, ⟨by (with_reducible repeat (first | apply jT | apply jS | apply jR)); exact Kd.R_mono HO547.out (fun _ hk => hk.2)⟩, ⟨by (with_reducible repeat (first | apply jT | apply jS | apply jR)); exact Kd.R_mono HO577.out (fun _ hk => hk.2)⟩, ⟨by (with_reducible repeat (first | apply jT | apply jS | apply jR)); exact Kd.R_mono HO551.out (fun _ hk => ⟨hk.1.1.2, ⟨hk.1.2, hk.2⟩⟩)⟩, ⟨by (with_reducible repeat (first | apply jT | apply jS | apply jR)); exact Kd.R_mono HO558.out (fun _ hk => ⟨hk.1.1.2, ⟨hk.1.2, hk.2⟩⟩)⟩, ⟨by (with_reducible repeat (first | apply jT | apply jS | apply jR)); exact Kd.R_mono HO564.out (fun _ hk => ⟨hk.1.1.2, ⟨hk.1.2, hk.2⟩⟩)⟩, ⟨by (with_reducible repeat (first | apply jT | apply jS | apply jR)); exact Kd.R_mono HO581.out (fun _ hk => ⟨hk.1.1.2, ⟨hk.1.2, hk.2⟩⟩)⟩, ⟨zk BK554⟩, ⟨zk BK560⟩, ⟨zk BK566⟩, ⟨zk BK582⟩, ⟨zb4 HB GE554 GE560 GE566 GE582⟩⟩
    ·replace c53 := Bool.eq_false_iff.mpr c53
     subst c53
     rw [if_neg zfalse] at H
     have H' := jA H
     clear H
     have hnb120 := NB560_554.out
     have hnc120 := NB554_560.out
     have hnb121 := NB560_566.out
     have hnc121 := NB566_560.out
     have hnb122 := NB560_582.out
     have hnc122 := NB582_560.out
     have hcz123 := zc2 BK560
     have hnb124 := NB566_554.out
     have hnc124 := NB554_566.out
     have hnb125 := NB566_582.out
     have hnc125 := NB582_566.out
     have hcz126 := zc2 BK566
     go_wp2_with (first | (go_at_call 42; (with_reducible refine (laws_likeMagazine.calls k t555 _ _ t556 t561 _ _ t562 false _ ?side1 ?side2 ?side3 ?side4 A52.out).mono ?_); (case side1 => exact zv HO558); (case side2 => exact (jM HO558.out).2.1); (case side3 => exact zv HO564); (case side4 => exact (jM HO564.out).2.1); rintro e w127 ⟨rfl, hb⟩; replace HO547 := jA (jF (zo HO547) hb); replace HO551 := jA (jF (zo HO551) hb); replace HO558 := jA (jF (zo HO558) hb); replace HO564 := jA (jF (zo HO564) hb); replace HO577 := jA (jF (zo HO577) hb); replace HO581 := jA (jF (zo HO581) hb); replace BK554 := zB BK554 hb; replace BK560 := zB BK560 hb; replace BK566 := zB BK566 hb; replace BK582 := zB BK582 hb; replace HB := zS4 HB GE554 GE560 GE566 GE582 hb; (try clear hb); (try clear hb2); (try clear hk); (try clear hi)))
     go_meet
     case rel => exact ⟨_, (true), zz, H', ⟨by first | omega | exact Nat.le_refl _⟩, ⟨by (with_reducible repeat (first | apply jT | apply jS | apply jR)); exact Kd.R_mono HO547.out (fun _ hk => hk.2)⟩, ⟨by (with_reducible repeat (first | apply jT | apply jS | apply jR)); exact Kd.R_mono HO577.out (fun _ hk => hk.2)⟩, ⟨by (with_reducible repeat (first | apply jT | apply jS | apply jR)); exact Kd.R_mono HO551.out (fun _ hk => ⟨hk.1.1.2, ⟨hk.1.2, hk.2⟩⟩)⟩, ⟨by (with_reducible repeat (first | apply jT | apply jS | apply jR)); exact Kd.R_mono HO558.out (fun _ hk => ⟨hk.1.1.2, ⟨hk.1.2, hk.2⟩⟩)⟩, ⟨by (with_reducible repeat (first | apply jT | apply jS | apply jR)); exact Kd.R_mono HO564.out (fun _ hk => ⟨hk.1.1.2, ⟨hk.1.2, hk.2⟩⟩)⟩, ⟨by (with_reducible repeat (first | apply jT | apply jS | apply jR)); exact Kd.R_mono HO581.out (fun _ hk => ⟨hk.1.1.2, ⟨hk.1.2, hk.2⟩⟩)⟩, ⟨zk BK554⟩, ⟨zk BK560⟩, ⟨zk BK566⟩, ⟨zk BK582⟩, ⟨zb4 HB GE554 GE560 GE566 GE582⟩⟩
   ·rw [if_neg c51] at H
    have c51b0 : (t559 == t565) = false := beq_eq_false_iff_ne.mpr c51
    have c51b1 : (t559 != t565) = true := bne_iff_ne.mpr c51
    (first | rw [c51b0] | (simp only [i64_w, i32_w]; rw [c51b0]) | skip)
    have H' := jA H
    clear H
    go_wp2
    go_meet
    case rel => exact ⟨_, (true), zz, H', ⟨by first | omega | exact Nat.le_refl _⟩, ⟨by (with_reducible repeat (first | apply jT | apply jS | apply jR)); exact Kd.R_mono HO547.out (fun _ hk => hk.2)⟩, ⟨by (with_reducible repeat (first | apply jT | apply jS | apply jR)); exact Kd.R_mono HO577.out (fun _ hk => hk.2)⟩, ⟨by (with_reducible repeat (first | apply jT | apply jS | apply jR)); exact Kd.R_mono HO551.out (fun _ hk => ⟨hk.1.1.2, ⟨hk.1.2, hk.2⟩⟩)⟩, ⟨by (with_reducible repeat (first | apply jT | apply jS | apply jR)); exact Kd.R_mono HO558.out (fun _ hk => ⟨hk.1.1.2, ⟨hk.1.2, hk.2⟩⟩)⟩, ⟨by (with_reducible repeat (first | apply jT | apply jS | apply jR)); exact Kd.R_mono HO564.out (fun _ hk => ⟨hk.1.1.2, ⟨hk.1.2, hk.2⟩⟩)⟩, ⟨by (with_reducible repeat (first | apply jT | apply jS | apply jR)); exact Kd.R_mono HO581.out (fun _ hk => ⟨hk.1.1.2, ⟨hk.1.2, hk.2⟩⟩)⟩, ⟨zk BK554⟩, ⟨zk BK560⟩, ⟨zk BK566⟩, ⟨zk BK582⟩, ⟨zb4 HB GE554 GE560 GE566 GE582⟩⟩
  case rest =>
   clear HC14
   try clear c1
   try clear c2
   try clear p2
   try clear c3
   try clear c4
   try clear c5
   try clear c6
   try clear c7
   try clear c8
   try clear c9
   try clear c10
   try clear c11
   try clear c12
   try clear c22
   try clear c27
   try clear c28
   try clear c29
   try clear c30
   try clear c31
   try clear c32
   try clear c37
   try clear c38
   try clear c39
   try clear c40
   try clear c41
   try clear c42
   try clear c43
   try clear c44
   try clear c51
   try clear c51b0
   try clear c51b1
   try clear c53
   try clear c54
   try clear c54b0
   try clear c54b1
   try clear c55
   try clear c55b0
   try clear c55b1
   try clear c56
   try clear c56b0
   try clear c56b1
   try clear c57
   try clear c57b0
   try clear c57b1
   try clear c57b2
   try clear c58
   try clear c59
   try clear c60
   try clear c62
   try clear c63
   try clear c66
   try clear c66b0
   try clear c66b1
   try clear c67
   try clear c67b0
   try clear c67b1
   try clear c69
   try clear c70
   try clear c71
   try clear c73
   try clear c74
   try clear c77
   try clear c80
   try clear c81
   try clear c82
   try clear c84
   try clear c85
   try clear c88
   try clear c89
   try clear c90
   try clear c92
   try clear c93
   try clear c96
   try clear c97
   try clear c98
   try clear c100
   try clear c101
   try clear c104
   try clear c105
   try clear c106
   try clear c108
   try clear c109
   try clear c112
   try clear c113
   try clear c114
   try clear c116
   try clear c117
   try clear c120
   try clear c121
   try clear c122
   try clear c124
   try clear c125
   try clear hcz102
   try clear hcz107
   try clear hcz110
   try clear hcz115
   try clear hcz118
   try clear hcz123
   try clear hcz126
   try clear hcz17
   try clear hcz23
   try clear hcz25
   try clear hcz30
   try clear hcz32
   try clear hcz34
   try clear hcz36
   try clear hcz38
   try clear hcz45
   try clear hcz49
   try clear hcz61
   try clear hcz64
   try clear hcz72
   try clear hcz75
   try clear hcz78
   try clear hcz83
   try clear hcz86
   try clear hcz91
   try clear hcz94
   try clear hcz99
   obtain ⟨kq, x145_13, rfl, HA, HJ13, HO_3, HO_19, HO_555001, HO_561001, HO_567001, HO_583001, BK554, BK560, BK566, BK582, HB⟩ := hcut
   cases kq with
   | zero => exact absurd HA.out (by simp [laws_FnMagazines.j0])
   | succ kj13 =>
    have H := HA.out
    clear HA
    simp only [laws_FnMagazines.j0] at H
    by_cases c128 : x145_13 = true
    ·subst c128
     rw [if_pos rfl] at H
     obtain rfl := jK H
     go_wp2
     go_ret
     exact ⟨ze, zb4 HB GE554 GE560 GE566 GE582⟩
    ·as_aux_lemma =>
     replace c128 := Bool.eq_false_iff.mpr c128
     subst c128
     rw [if_neg zfalse] at H
     have HC129 := jA H
     clear H
     go_upto_region 15 with (fail)
     go_cut [156] (fun v156 wc => ∃ (kq : Nat) (x156_128 : Bool), v156 = .bool x156_128 ∧ Aside0 (laws_FnMagazines.j1 kq t545 t552 t553 t559 t575 t583 t584 x156_128 t548 t549 t555 t556 t578 t579 = some r) ∧ Aside0 (kq ≤ kj13) ∧ Aside0 (Kd.R k65 65 wc w.heap.size (fun k_ => some k_ ≠ ((.slice Ao47 t575.length co47) : Value).ownBlock) (.slice Ao19 t545.length co19) t545) ∧ Aside0 (Kd.R k65 65 wc w.heap.size (fun k_ => some k_ ≠ ((.slice Ao19 t545.length co19) : Value).ownBlock) (.slice Ao47 t575.length co47) t575) ∧ Aside0 (Kd.R (Kd.int .i64) 2 wc w.heap.size (fun k_ => some k_ ≠ ((.slice Ao24 t556.length co24) : Value).ownBlock ∧ some k_ ≠ ((.slice Ao31 t562.length co31) : Value).ownBlock ∧ some k_ ≠ ((.slice Ao46 t579.length co46) : Value).ownBlock) (.slice Ao18 t549.length co18) t549) ∧ Aside0 (Kd.R (Kd.int .i64) 2 wc w.heap.size (fun k_ => some k_ ≠ ((.slice Ao18 t549.length co18) : Value).ownBlock ∧ some k_ ≠ ((.slice Ao31 t562.length co31) : Value).ownBlock ∧ some k_ ≠ ((.slice Ao46 t579.length co46) : Value).ownBlock) (.slice Ao24 t556.length co24) t556) ∧ Aside0 (Kd.R (Kd.int .i64) 2 wc w.heap.size (fun k_ => some k_ ≠ ((.slice Ao18 t549.length co18) : Value).ownBlock ∧ some k_ ≠ ((.slice Ao24 t556.length co24) : Value).ownBlock ∧ some k_ ≠ ((.slice Ao46 t579.length co46) : Value).ownBlock) (.slice Ao31 t562.length co31) t562) ∧ Aside0 (Kd.R (Kd.int .i64) 2 wc w.heap.size (fun k_ => some k_ ≠ ((.slice Ao18 t549.length co18) : Value).ownBlock ∧ some k_ ≠ ((.slice Ao24 t556.length co24) : Value).ownBlock ∧ some k_ ≠ ((.slice Ao31 t562.length co31) : Value).ownBlock) (.slice Ao46 t579.length co46) t579) ∧ Aside0 (wc.heap[gb554]? = some (.cells #[.int .i64 t548, (.slice Ao18 t549.length co18)] 28 (0, 0))) ∧ Aside0 (wc.heap[gb560]? = some (.cells #[.int .i64 t555, (.slice Ao24 t556.length co24)] 28 (0, 0))) ∧ Aside0 (wc.heap[gb566]? = some (.cells #[.int .i64 t561, (.slice Ao31 t562.length co31)] 28 (0, 0))) ∧ Aside0 (wc.heap[gb582]? = some (.cells #[.int .i64 t578, (.slice Ao46 t579.length co46)] 28 (0, 0))) ∧ Aside0 (Below w.heap.size w wc))
     case first =>
      have H := HC129.out
      clear HC129
      by_cases c130 : t572 = 0
      ·as_aux_lemma =>
       rw [if_pos c130] at H
       have c130b0 : (t572 == 0) = true := beq_iff_eq.mpr c130
       have c130b1 : (t572 != 0) = false := bne_eq_false_iff_eq.mpr c130
       clear c130
       (first | rw [c130b0] | (simp only [i64_w, i32_w]; rw [c130b0]) | skip)
       by_cases c131 : t571 = true
       ·subst c131
        rw [if_pos rfl] at H
        have H' := jA H
        clear H
        have hnb132 := NB554_560.out
        have hnc132 := NB560_554.out
        have hnb133 := NB554_566.out
        have hnc133 := NB566_554.out
        have hnb134 := NB554_582.out
        have hnc134 := NB582_554.out
        have hcz135 := zc2 BK554
        go_wp2
        go_meet
        case rel => exact ⟨_, (decide (t567 > t548)), zz, H', ⟨by have := HJ13.out; first | omega | exact Nat.le_refl _⟩, ⟨zo HO_3⟩, ⟨zo HO_19⟩, ⟨zo HO_555001⟩, ⟨zo HO_561001⟩, ⟨zo HO_567001⟩, ⟨zo HO_583001⟩, ⟨zk BK554⟩, ⟨zk BK560⟩, ⟨zk BK566⟩, ⟨zk BK582⟩, ⟨zb4 HB GE554 GE560 GE566 GE582⟩⟩
       ·replace c131 := Bool.eq_false_iff.mpr c131
        subst c131
        rw [if_neg zfalse] at H
        have H' := jA H
        clear H
        go_wp2
        go_meet
        case rel => exact ⟨_, (false), zz, H', ⟨by have := HJ13.out; first | omega | exact Nat.le_refl _⟩, ⟨zo HO_3⟩, ⟨zo HO_19⟩, ⟨zo HO_555001⟩, ⟨zo HO_561001⟩, ⟨zo HO_567001⟩, ⟨zo HO_583001⟩, ⟨zk BK554⟩, ⟨zk BK560⟩, ⟨zk BK566⟩, ⟨zk BK582⟩, ⟨zb4 HB GE554 GE560 GE566 GE582⟩⟩
      ·rw [if_neg c130] at H
       have c130b0 : (t572 == 0) = false := beq_eq_false_iff_ne.mpr c130
       have c130b1 : (t572 != 0) = true := bne_iff_ne.mpr c130
       (first | rw [c130b0] | (simp only [i64_w, i32_w]; rw [c130b0]) | skip)
       have H' := jA H
       clear H
       go_wp2
       go_meet
       case rel => exact ⟨_, (false), zz, H', ⟨by have := HJ13.out; first | omega | exact Nat.le_refl _⟩, ⟨zo HO_3⟩, ⟨zo HO_19⟩, ⟨zo HO_555001⟩, ⟨zo HO_561001⟩, ⟨zo HO_567001⟩, ⟨zo HO_583001⟩, ⟨zk BK554⟩, ⟨zk BK560⟩, ⟨zk BK566⟩, ⟨zk BK582⟩, ⟨zb4 HB GE554 GE560 GE566 GE582⟩⟩
     case rest =>
      clear HC129
      try clear c1
      try clear c2
      try clear p2
      try clear c3
      try clear c4
      try clear c5
      try clear c6
      try clear c7
      try clear c8
      try clear c9
      try clear c10
      try clear c11
      try clear c12
      try clear c13
      try clear c22
      try clear c27
      try clear c28
      try clear c29
      try clear c30
      try clear c31
      try clear c32
      try clear c37
      try clear c38
      try clear c39
      try clear c40
      try clear c41
      try clear c42
      try clear c43
      try clear c44
      try clear c51
      try clear c51b0
      try clear c51b1
      try clear c53
      try clear c54
      try clear c54b0
      try clear c54b1
      try clear c55
      try clear c55b0
      try clear c55b1
      try clear c56
      try clear c56b0
      try clear c56b1
      try clear c57
      try clear c57b0
      try clear c57b1
      try clear c57b2
      try clear c58
      try clear c59
      try clear c60
      try clear c62
      try clear c63
      try clear c66
      try clear c66b0
      try clear c66b1
      try clear c67
      try clear c67b0
      try clear c67b1
      try clear c69
      try clear c70
      try clear c71
      try clear c73
      try clear c74
      try clear c77
      try clear c80
      try clear c81
      try clear c82
      try clear c84
      try clear c85
      try clear c88
      try clear c89
      try clear c90
      try clear c92
      try clear c93
      try clear c96
      try clear c97
      try clear c98
      try clear c100
      try clear c101
      try clear c104
      try clear c105
      try clear c106
      try clear c108
      try clear c109
      try clear c112
      try clear c113
      try clear c114
      try clear c116
      try clear c117
      try clear c120
      try clear c121
      try clear c122
      try clear c124
      try clear c125
      try clear c128
      try clear c130
      try clear c130b0
      try clear c130b1
      try clear c131
      try clear c132
      try clear c133
      try clear c134
      try clear hcz102
      try clear hcz107
      try clear hcz110
      try clear hcz115
      try clear hcz118
      try clear hcz123
      try clear hcz126
      try clear hcz135
      try clear hcz17
      try clear hcz23
      try clear hcz25
      try clear hcz30
      try clear hcz32
      try clear hcz34
      try clear hcz36
      try clear hcz38
      try clear hcz45
      try clear hcz49
      try clear hcz61
      try clear hcz64
      try clear hcz72
      try clear hcz75
      try clear hcz78
      try clear hcz83
      try clear hcz86
      try clear hcz91
      try clear hcz94
      try clear hcz99
      try clear p2
      obtain ⟨kq, x156_128, rfl, HA, HJ128, HO_3, HO_19, HO_555001, HO_561001, HO_567001, HO_583001, BK554, BK560, BK566, BK582, HB⟩ := hcut
      cases kq with
      | zero => exact absurd HA.out (by simp [laws_FnMagazines.j1])
      | succ kj128 =>
       have H := HA.out
       clear HA
       simp only [laws_FnMagazines.j1] at H
       by_cases c136 : x156_128 = true
       ·subst c136
        rw [if_pos rfl] at H
        obtain rfl := jK H
        go_wp2
        go_ret
        exact ⟨ze, zb4 HB GE554 GE560 GE566 GE582⟩
       ·as_aux_lemma =>
        replace c136 := Bool.eq_false_iff.mpr c136
        subst c136
        rw [if_neg zfalse] at H
        have HC137 := jA H
        clear H
        go_upto_if 158 with (fail)
        go_cut [] (fun wc => ∃ (kq : Nat), Aside0 (laws_FnMagazines.j3 kq t545 t552 t553 t559 t548 t549 t555 t556 = some r) ∧ Aside0 (kq ≤ kj128) ∧ Aside0 (Kd.R k65 65 wc w.heap.size (fun _ => True) (.slice Ao19 t545.length co19) t545) ∧ Aside0 (Kd.R (Kd.int .i64) 2 wc w.heap.size (fun k_ => some k_ ≠ ((.slice Ao24 t556.length co24) : Value).ownBlock ∧ some k_ ≠ ((.slice Ao31 t562.length co31) : Value).ownBlock ∧ some k_ ≠ ((.slice Ao46 t579.length co46) : Value).ownBlock) (.slice Ao18 t549.length co18) t549) ∧ Aside0 (Kd.R (Kd.int .i64) 2 wc w.heap.size (fun k_ => some k_ ≠ ((.slice Ao18 t549.length co18) : Value).ownBlock ∧ some k_ ≠ ((.slice Ao31 t562.length co31) : Value).ownBlock ∧ some k_ ≠ ((.slice Ao46 t579.length co46) : Value).ownBlock) (.slice Ao24 t556.length co24) t556) ∧ Aside0 (Kd.R (Kd.int .i64) 2 wc w.heap.size (fun k_ => some k_ ≠ ((.slice Ao18 t549.length co18) : Value).ownBlock ∧ some k_ ≠ ((.slice Ao24 t556.length co24) : Value).ownBlock ∧ some k_ ≠ ((.slice Ao46 t579.length co46) : Value).ownBlock) (.slice Ao31 t562.length co31) t562) ∧ Aside0 (Kd.R (Kd.int .i64) 2 wc w.heap.size (fun k_ => some k_ ≠ ((.slice Ao18 t549.length co18) : Value).ownBlock ∧ some k_ ≠ ((.slice Ao24 t556.length co24) : Value).ownBlock ∧ some k_ ≠ ((.slice Ao31 t562.length co31) : Value).ownBlock) (.slice Ao46 t579.length co46) t579) ∧ Aside0 (wc.heap[gb554]? = some (.cells #[.int .i64 t548, (.slice Ao18 t549.length co18)] 28 (0, 0))) ∧ Aside0 (wc.heap[gb560]? = some (.cells #[.int .i64 t555, (.slice Ao24 t556.length co24)] 28 (0, 0))) ∧ Aside0 (wc.heap[gb566]? = some (.cells #[.int .i64 t561, (.slice Ao31 t562.length co31)] 28 (0, 0))) ∧ Aside0 (wc.heap[gb582]? = some (.cells #[.int .i64 t578, (.slice Ao46 t579.length co46)] 28 (0, 0))) ∧ Aside0 (Below w.heap.size w wc))
        case first =>
         have H := HC137.out
         clear HC137
         by_cases c138 : t584 = 0
         ·as_aux_lemma =>
          rw [if_pos c138] at H
          have c138b0 : (t584 == 0) = true := beq_iff_eq.mpr c138
          have c138b1 : (t584 != 0) = false := bne_eq_false_iff_eq.mpr c138
          clear c138
          (first | rw [c138b0] | (simp only [i64_w, i32_w]; rw [c138b0]) | skip)
          replace H := jB.mp H
          obtain ⟨⟨t589, t590⟩, A1390, H⟩ := H
          try dsimp only at H
          have A139 := jA A1390
          clear A1390
          have HC140 := jA H
          clear H
          have hnb141 := NB582_554.out
          have hnc141 := NB554_582.out
          have hnb142 := NB582_560.out
          have hnc142 := NB560_582.out
          have hnb143 := NB582_566.out
          have hnc143 := NB566_582.out
          have hcz144 := zc2 BK582
          go_upto_region 19 with (first | ((with_reducible refine jD (f := 30) rfl ?_); refine zL (some 165) Try.func30 #[.slice Ao47 t575.length co47, .agg #[.int .i64 t583, .slice Ao46 t579.length co46]] ?_; (with_reducible refine (impl_IsLawful.calls kj128 _ _ t575 t583 _ _ t579 t589 t590 _ ?side1 ?side2 ?side3 ?side4 A139.out).mono ?_); (case side1 => exact zv HO_19); (case side2 => exact (jM HO_19.out).2.1); (case side3 => exact zv HO_583001); (case side4 => exact (jM HO_583001.out).2.1); rintro e w145 ⟨rfl, hb⟩; refine ⟨_, rfl, ?_⟩; replace HO_3 := jA (jF (zo HO_3) hb); replace HO_19 := jA (jF (zo HO_19) hb); replace HO_555001 := jA (jF (zo HO_555001) hb); replace HO_561001 := jA (jF (zo HO_561001) hb); replace HO_567001 := jA (jF (zo HO_567001) hb); replace HO_583001 := jA (jF (zo HO_583001) hb); replace BK554 := zB BK554 hb; replace BK560 := zB BK560 hb; replace BK566 := zB BK566 hb; replace BK582 := zB BK582 hb; replace HB := zS4 HB GE554 GE560 GE566 GE582 hb; clear hb))
          (try simp only [Act.put, jE, jH, jI])
          go_cut [173] (fun v173 wc => ∃ (kq : Nat) (x173_139 : Bool), v173 = .bool x173_139 ∧ Aside0 (laws_FnMagazines.j2 kq t545 t552 t553 t559 t575 t583 x173_139 t548 t549 t555 t556 t578 t579 = some r) ∧ Aside0 (kq ≤ kj128) ∧ Aside0 (Kd.R k65 65 wc w.heap.size (fun k_ => some k_ ≠ ((.slice Ao47 t575.length co47) : Value).ownBlock) (.slice Ao19 t545.length co19) t545) ∧ Aside0 (Kd.R k65 65 wc w.heap.size (fun k_ => some k_ ≠ ((.slice Ao19 t545.length co19) : Value).ownBlock) (.slice Ao47 t575.length co47) t575) ∧ Aside0 (Kd.R (Kd.int .i64) 2 wc w.heap.size (fun k_ => some k_ ≠ ((.slice Ao24 t556.length co24) : Value).ownBlock ∧ some k_ ≠ ((.slice Ao31 t562.length co31) : Value).ownBlock ∧ some k_ ≠ ((.slice Ao46 t579.length co46) : Value).ownBlock) (.slice Ao18 t549.length co18) t549) ∧ Aside0 (Kd.R (Kd.int .i64) 2 wc w.heap.size (fun k_ => some k_ ≠ ((.slice Ao18 t549.length co18) : Value).ownBlock ∧ some k_ ≠ ((.slice Ao31 t562.length co31) : Value).ownBlock ∧ some k_ ≠ ((.slice Ao46 t579.length co46) : Value).ownBlock) (.slice Ao24 t556.length co24) t556) ∧ Aside0 (Kd.R (Kd.int .i64) 2 wc w.heap.size (fun k_ => some k_ ≠ ((.slice Ao18 t549.length co18) : Value).ownBlock ∧ some k_ ≠ ((.slice Ao24 t556.length co24) : Value).ownBlock ∧ some k_ ≠ ((.slice Ao46 t579.length co46) : Value).ownBlock) (.slice Ao31 t562.length co31) t562) ∧ Aside0 (Kd.R (Kd.int .i64) 2 wc w.heap.size (fun k_ => some k_ ≠ ((.slice Ao18 t549.length co18) : Value).ownBlock ∧ some k_ ≠ ((.slice Ao24 t556.length co24) : Value).ownBlock ∧ some k_ ≠ ((.slice Ao31 t562.length co31) : Value).ownBlock) (.slice Ao46 t579.length co46) t579) ∧ Aside0 (wc.heap[gb554]? = some (.cells #[.int .i64 t548, (.slice Ao18 t549.length co18)] 28 (0, 0))) ∧ Aside0 (wc.heap[gb560]? = some (.cells #[.int .i64 t555, (.slice Ao24 t556.length co24)] 28 (0, 0))) ∧ Aside0 (wc.heap[gb566]? = some (.cells #[.int .i64 t561, (.slice Ao31 t562.length co31)] 28 (0, 0))) ∧ Aside0 (wc.heap[gb582]? = some (.cells #[.int .i64 t578, (.slice Ao46 t579.length co46)] 28 (0, 0))) ∧ Aside0 (Below w.heap.size w wc))
          case first =>
           have H := HC140.out
           clear HC140
           by_cases c146 : t590 = 0
           ·rw [if_pos c146] at H
            have c146b0 : (t590 == 0) = true := beq_iff_eq.mpr c146
            have c146b1 : (t590 != 0) = false := bne_eq_false_iff_eq.mpr c146
            clear c146
            (first | rw [c146b0] | (simp only [i64_w, i32_w]; rw [c146b0]) | skip)
            have H' := jA H
            clear H
            go_wp2
            go_meet
            case rel => exact ⟨_, (!t589), zz, H', ⟨by have := HJ13.out; have := HJ128.out; first | omega | exact Nat.le_refl _⟩, ⟨zo HO_3⟩, ⟨zo HO_19⟩, ⟨zo HO_555001⟩, ⟨zo HO_561001⟩, ⟨zo HO_567001⟩, ⟨zo HO_583001⟩, ⟨zk BK554⟩, ⟨zk BK560⟩, ⟨zk BK566⟩, ⟨zk BK582⟩, ⟨zb4 HB GE554 GE560 GE566 GE582⟩⟩
           ·rw [if_neg c146] at H
            have c146b0 : (t590 == 0) = false := beq_eq_false_iff_ne.mpr c146
            have c146b1 : (t590 != 0) = true := bne_iff_ne.mpr c146
            (first | rw [c146b0] | (simp only [i64_w, i32_w]; rw [c146b0]) | skip)
            have H' := jA H
            clear H
            go_wp2
            go_meet
            case rel => exact ⟨_, (true), zz, H', ⟨by have := HJ13.out; have := HJ128.out; first | omega | exact Nat.le_refl _⟩, ⟨zo HO_3⟩, ⟨zo HO_19⟩, ⟨zo HO_555001⟩, ⟨zo HO_561001⟩, ⟨zo HO_567001⟩, ⟨zo HO_583001⟩, ⟨zk BK554⟩, ⟨zk BK560⟩, ⟨zk BK566⟩, ⟨zk BK582⟩, ⟨zb4 HB GE554 GE560 GE566 GE582⟩⟩
          case rest =>
           clear HC140
           try clear c1
           try clear c2
           try clear p2
           try clear c3
           try clear c4
           try clear c5
           try clear c6
           try clear c7
           try clear c8
           try clear c9
           try clear c10
           try clear c11
           try clear c12
           try clear c13
           try clear c14
           try clear c22
           try clear c27
           try clear c28
           try clear c29
           try clear c30
           try clear c31
           try clear c32
           try clear c37
           try clear c38
           try clear c39
           try clear c40
           try clear c41
           try clear c42
           try clear c43
           try clear c44
           try clear c51
           try clear c51b0
           try clear c51b1
           try clear c53
           try clear c54
           try clear c54b0
           try clear c54b1
           try clear c55
           try clear c55b0
           try clear c55b1
           try clear c56
           try clear c56b0
           try clear c56b1
           try clear c57
           try clear c57b0
           try clear c57b1
           try clear c57b2
           try clear c58
           try clear c59
           try clear c60
           try clear c62
           try clear c63
           try clear c66
           try clear c66b0
           try clear c66b1
           try clear c67
           try clear c67b0
           try clear c67b1
           try clear c69
           try clear c70
           try clear c71
           try clear c73
           try clear c74
           try clear c77
           try clear c80
           try clear c81
           try clear c82
           try clear c84
           try clear c85
           try clear c88
           try clear c89
           try clear c90
           try clear c92
           try clear c93
           try clear c96
           try clear c97
           try clear c98
           try clear c100
           try clear c101
           try clear c104
           try clear c105
           try clear c106
           try clear c108
           try clear c109
           try clear c112
           try clear c113
           try clear c114
           try clear c116
           try clear c117
           try clear c120
           try clear c121
           try clear c122
           try clear c124
           try clear c125
           try clear c128
           try clear c130
           try clear c130b0
           try clear c130b1
           try clear c131
           try clear c132
           try clear c133
           try clear c134
           try clear c136
           try clear c138
           try clear c138b0
           try clear c138b1
           try clear c141
           try clear c142
           try clear c143
           try clear c146
           try clear c146b0
           try clear c146b1
           try clear hcz102
           try clear hcz107
           try clear hcz110
           try clear hcz115
           try clear hcz118
           try clear hcz123
           try clear hcz126
           try clear hcz135
           try clear hcz144
           try clear hcz17
           try clear hcz23
           try clear hcz25
           try clear hcz30
           try clear hcz32
           try clear hcz34
           try clear hcz36
           try clear hcz38
           try clear hcz45
           try clear hcz49
           try clear hcz61
           try clear hcz64
           try clear hcz72
           try clear hcz75
           try clear hcz78
           try clear hcz83
           try clear hcz86
           try clear hcz91
           try clear hcz94
           try clear hcz99
           try clear p2
           obtain ⟨kq, x173_139, rfl, HA, HJ139, HO_3, HO_19, HO_555001, HO_561001, HO_567001, HO_583001, BK554, BK560, BK566, BK582, HB⟩ := hcut
           cases kq with
           | zero => exact absurd HA.out (by simp [laws_FnMagazines.j2])
           | succ kj139 =>
            have H := HA.out
            clear HA
            simp only [laws_FnMagazines.j2] at H
            by_cases c147 : x173_139 = true
            ·subst c147
             rw [if_pos rfl] at H
             obtain rfl := jK H
             go_wp2
             go_ret
             exact ⟨ze, zb4 HB GE554 GE560 GE566 GE582⟩
            ·as_aux_lemma =>
             replace c147 := Bool.eq_false_iff.mpr c147
             subst c147
             rw [if_neg zfalse] at H
             by_cases c148 : t583 > 0
             ·as_aux_lemma =>
              rw [if_pos c148] at H
              have c148b0 : decide (0 < t583) = true := jJ c148
              clear c148
              replace H := jB.mp H
              obtain ⟨⟨t591, t592⟩, A1490, H⟩ := H
              try dsimp only at H
              have A149 := jA A1490
              clear A1490
              by_cases c150 : t592 = 0
              ·as_aux_lemma =>
               rw [if_pos c150] at H
               have c150b0 : (t592 == 0) = true := beq_iff_eq.mpr c150
               have c150b1 : (t592 != 0) = false := bne_eq_false_iff_eq.mpr c150
               clear c150
               by_cases c151 : t591 = true
               ·subst c151
                rw [if_pos rfl] at H
                obtain rfl := jK H
                have hnb152 := NB582_554.out
                have hnc152 := NB554_582.out
                have hnb153 := NB582_560.out
                have hnc153 := NB560_582.out
                have hnb154 := NB582_566.out
                have hnc154 := NB566_582.out
                have hcz155 := zc2 BK582
                go_wp2_with (first | ((with_reducible refine jD (f := 30) rfl ?_); refine zL (some 183) Try.func30 #[.slice Ao47 t575.length co47, .agg #[.int .i64 (wrap64 (t583 - 1)), .slice Ao46 t579.length co46]] ?_; (with_reducible refine (impl_IsLawful.calls kj139 _ _ t575 (wrap64 (t583 - 1)) _ _ t579 true t592 _ ?side1 ?side2 ?side3 ?side4 A149.out).mono ?_); (case side1 => exact zv HO_19); (case side2 => exact (jM HO_19.out).2.1); (case side3 => exact zv HO_583001); (case side4 => exact (jM HO_583001.out).2.1); rintro e w156 ⟨rfl, hb⟩; refine ⟨_, rfl, ?_⟩; replace HO_3 := jA (jF (zo HO_3) hb); replace HO_19 := jA (jF (zo HO_19) hb); replace HO_555001 := jA (jF (zo HO_555001) hb); replace HO_561001 := jA (jF (zo HO_561001) hb); replace HO_567001 := jA (jF (zo HO_567001) hb); replace HO_583001 := jA (jF (zo HO_583001) hb); replace BK554 := zB BK554 hb; replace BK560 := zB BK560 hb; replace BK566 := zB BK566 hb; replace BK582 := zB BK582 hb; replace HB := zS4 HB GE554 GE560 GE566 GE582 hb; clear hb))
                go_ret
                exact ⟨ze, zb4 HB GE554 GE560 GE566 GE582⟩
               ·replace c151 := Bool.eq_false_iff.mpr c151
                subst c151
                rw [if_neg zfalse] at H
                have H' := jA H
                clear H
                have hnb157 := NB582_554.out
                have hnc157 := NB554_582.out
                have hnb158 := NB582_560.out
                have hnc158 := NB560_582.out
                have hnb159 := NB582_566.out
                have hnc159 := NB566_582.out
                have hcz160 := zc2 BK582
                go_wp2_with (first | ((with_reducible refine jD (f := 30) rfl ?_); refine zL (some 183) Try.func30 #[.slice Ao47 t575.length co47, .agg #[.int .i64 (wrap64 (t583 - 1)), .slice Ao46 t579.length co46]] ?_; (with_reducible refine (impl_IsLawful.calls kj139 _ _ t575 (wrap64 (t583 - 1)) _ _ t579 false t592 _ ?side1 ?side2 ?side3 ?side4 A149.out).mono ?_); (case side1 => exact zv HO_19); (case side2 => exact (jM HO_19.out).2.1); (case side3 => exact zv HO_583001); (case side4 => exact (jM HO_583001.out).2.1); rintro e w161 ⟨rfl, hb⟩; refine ⟨_, rfl, ?_⟩; replace HO_3 := jA (jF (zo HO_3) hb); replace HO_19 := jA (jF (zo HO_19) hb); replace HO_555001 := jA (jF (zo HO_555001) hb); replace HO_561001 := jA (jF (zo HO_561001) hb); replace HO_567001 := jA (jF (zo HO_567001) hb); replace HO_583001 := jA (jF (zo HO_583001) hb); replace BK554 := zB BK554 hb; replace BK560 := zB BK560 hb; replace BK566 := zB BK566 hb; replace BK582 := zB BK582 hb; replace HB := zS4 HB GE554 GE560 GE566 GE582 hb; clear hb))
                go_meet
                case rel => exact ⟨_, H', ⟨by have := HJ13.out; have := HJ128.out; have := HJ139.out; first | omega | exact Nat.le_refl _⟩, ⟨by (with_reducible repeat (first | apply jT | apply jS | apply jR)); exact Kd.R_mono HO_3.out (fun _ hk => trivial)⟩, ⟨zo HO_555001⟩, ⟨zo HO_561001⟩, ⟨zo HO_567001⟩, ⟨zo HO_583001⟩, ⟨zk BK554⟩, ⟨zk BK560⟩, ⟨zk BK566⟩, ⟨zk BK582⟩, ⟨zb4 HB GE554 GE560 GE566 GE582⟩⟩
              ·rw [if_neg c150] at H
               have c150b0 : (t592 == 0) = false := beq_eq_false_iff_ne.mpr c150
               have c150b1 : (t592 != 0) = true := bne_iff_ne.mpr c150
               obtain rfl := jK H
               have hnb162 := NB582_554.out
               have hnc162 := NB554_582.out
               have hnb163 := NB582_560.out
               have hnc163 := NB560_582.out
               have hnb164 := NB582_566.out
               have hnc164 := NB566_582.out
               have hcz165 := zc2 BK582
               go_wp2_with (first | ((with_reducible refine jD (f := 30) rfl ?_); refine zL (some 183) Try.func30 #[.slice Ao47 t575.length co47, .agg #[.int .i64 (wrap64 (t583 - 1)), .slice Ao46 t579.length co46]] ?_; (with_reducible refine (impl_IsLawful.calls kj139 _ _ t575 (wrap64 (t583 - 1)) _ _ t579 t591 t592 _ ?side1 ?side2 ?side3 ?side4 A149.out).mono ?_); (case side1 => exact zv HO_19); (case side2 => exact (jM HO_19.out).2.1); (case side3 => exact zv HO_583001); (case side4 => exact (jM HO_583001.out).2.1); rintro e w166 ⟨rfl, hb⟩; refine ⟨_, rfl, ?_⟩; replace HO_3 := jA (jF (zo HO_3) hb); replace HO_19 := jA (jF (zo HO_19) hb); replace HO_555001 := jA (jF (zo HO_555001) hb); replace HO_561001 := jA (jF (zo HO_561001) hb); replace HO_567001 := jA (jF (zo HO_567001) hb); replace HO_583001 := jA (jF (zo HO_583001) hb); replace BK554 := zB BK554 hb; replace BK560 := zB BK560 hb; replace BK566 := zB BK566 hb; replace BK582 := zB BK582 hb; replace HB := zS4 HB GE554 GE560 GE566 GE582 hb; clear hb))
               go_ret
               exact ⟨ze, zb4 HB GE554 GE560 GE566 GE582⟩
             ·rw [if_neg c148] at H
              have c148b0 : decide (0 < t583) = false := jQ c148
              clear c148
              have H' := jA H
              clear H
              go_wp2
              go_meet
              case rel => exact ⟨_, H', ⟨by have := HJ13.out; have := HJ128.out; have := HJ139.out; first | omega | exact Nat.le_refl _⟩, ⟨by (with_reducible repeat (first | apply jT | apply jS | apply jR)); exact Kd.R_mono HO_3.out (fun _ hk => trivial)⟩, ⟨zo HO_555001⟩, ⟨zo HO_561001⟩, ⟨zo HO_567001⟩, ⟨zo HO_583001⟩, ⟨zk BK554⟩, ⟨zk BK560⟩, ⟨zk BK566⟩, ⟨zk BK582⟩, ⟨zb4 HB GE554 GE560 GE566 GE582⟩⟩
         ·rw [if_neg c138] at H
          have c138b0 : (t584 == 0) = false := beq_eq_false_iff_ne.mpr c138
          have c138b1 : (t584 != 0) = true := bne_iff_ne.mpr c138
          (first | rw [c138b0] | (simp only [i64_w, i32_w]; rw [c138b0]) | skip)
          have H' := jA H
          clear H
          go_wp2
          go_meet
          case rel => exact ⟨_, H', ⟨by have := HJ13.out; have := HJ128.out; first | omega | exact Nat.le_refl _⟩, ⟨by (with_reducible repeat (first | apply jT | apply jS | apply jR)); exact Kd.R_mono HO_3.out (fun _ hk => trivial)⟩, ⟨zo HO_555001⟩, ⟨zo HO_561001⟩, ⟨zo HO_567001⟩, ⟨zo HO_583001⟩, ⟨zk BK554⟩, ⟨zk BK560⟩, ⟨zk BK566⟩, ⟨zk BK582⟩, ⟨zb4 HB GE554 GE560 GE566 GE582⟩⟩
        case rest =>
         clear HC137
         try clear c1
         try clear c2
         try clear p2
         try clear c3
         try clear c4
         try clear c5
         try clear c6
         try clear p6
         try clear c7
         try clear c8
         try clear c9
         try clear c10
         try clear c11
         try clear c12
         try clear c13
         try clear c14
         try clear c15
         try clear c16
         try clear c22
         try clear c27
         try clear c28
         try clear c29
         try clear c30
         try clear c31
         try clear c32
         try clear c37
         try clear c38
         try clear c39
         try clear c40
         try clear c41
         try clear c42
         try clear c43
         try clear c44
         try clear c51
         try clear c51b0
         try clear c51b1
         try clear c53
         try clear c54
         try clear c54b0
         try clear c54b1
         try clear c55
         try clear c55b0
         try clear c55b1
         try clear c56
         try clear c56b0
         try clear c56b1
         try clear c57
         try clear c57b0
         try clear c57b1
         try clear c57b2
         try clear c58
         try clear c59
         try clear c60
         try clear c62
         try clear c63
         try clear p64
         try clear c66
         try clear c66b0
         try clear c66b1
         try clear c67
         try clear c67b0
         try clear c67b1
         try clear c69
         try clear c70
         try clear c71
         try clear c73
         try clear c74
         try clear c77
         try clear c80
         try clear c81
         try clear c82
         try clear c84
         try clear c85
         try clear c88
         try clear c89
         try clear c90
         try clear c92
         try clear c93
         try clear c96
         try clear c97
         try clear c98
         try clear c100
         try clear c101
         try clear c104
         try clear c105
         try clear c106
         try clear c108
         try clear c109
         try clear c112
         try clear c113
         try clear c114
         try clear c116
         try clear c117
         try clear c120
         try clear c121
         try clear c122
         try clear c124
         try clear c125
         try clear c128
         try clear c130
         try clear c130b0
         try clear c130b1
         try clear c131
         try clear c132
         try clear c133
         try clear c134
         try clear c136
         try clear c138
         try clear c138b0
         try clear c138b1
         try clear c141
         try clear c142
         try clear c143
         try clear c146
         try clear c146b0
         try clear c146b1
         try clear c147
         try clear c148
         try clear c148b0
         try clear c150
         try clear c150b0
         try clear c150b1
         try clear c151
         try clear c152
         try clear c153
         try clear c154
         try clear c157
         try clear c158
         try clear c159
         try clear c162
         try clear c163
         try clear c164
         try clear hcz102
         try clear hcz107
         try clear hcz110
         try clear hcz115
         try clear hcz118
         try clear hcz123
         try clear hcz126
         try clear hcz135
         try clear hcz144
         try clear hcz155
         try clear hcz160
         try clear hcz165
         try clear hcz17
         try clear hcz23
         try clear hcz25
         try clear hcz30
         try clear hcz32
         try clear hcz34
         try clear hcz36
         try clear hcz38
         try clear hcz45
         try clear hcz49
         try clear hcz61
         try clear hcz64
         try clear hcz72
         try clear hcz75
         try clear hcz78
         try clear hcz83
         try clear hcz86
         try clear hcz91
         try clear hcz94
         try clear hcz99
         try clear p2
         obtain ⟨kq, HA, HJ136, HO_3, HO_555001, HO_561001, HO_567001, HO_583001, BK554, BK560, BK566, BK582, HB⟩ := hcut
         cases kq with
         | zero => exact absurd HA.out (by simp [laws_FnMagazines.j3])
         | succ kj136 =>
          have H := HA.out
          clear HA
          simp only [laws_FnMagazines.j3] at H
          by_cases c167 : t559 = 0
          ·as_aux_lemma =>
           rw [if_pos c167] at H
           have c167b0 : (t559 == 0) = true := beq_iff_eq.mpr c167
           have c167b1 : (t559 != 0) = false := bne_eq_false_iff_eq.mpr c167
           clear c167
           replace H := jB.mp H
           obtain ⟨⟨t593, t594, t597⟩, A1680, H⟩ := H
           try dsimp only at H
           have A168 := jA A1680
           clear A1680
           replace H := jB.mp H
           obtain ⟨⟨t599, t600⟩, A1690, H⟩ := H
           try dsimp only at H
           have A169 := jA A1690
           clear A1690
           by_cases c170 : t597 = 0
           ·as_aux_lemma =>
            rw [if_pos c170] at H
            have c170b0 : (t597 == 0) = true := beq_iff_eq.mpr c170
            have c170b1 : (t597 != 0) = false := bne_eq_false_iff_eq.mpr c170
            clear c170
            replace H := jB.mp H
            obtain ⟨t601, A1710, H⟩ := H
            try dsimp only at H
            have A171 := jA A1710
            clear A1710
            by_cases c172 : t601 = true
            ·as_aux_lemma =>
             subst c172
             rw [if_pos rfl] at H
             by_cases c173 : t600 = 0
             ·rw [if_pos c173] at H
              have c173b0 : (t600 == 0) = true := beq_iff_eq.mpr c173
              have c173b1 : (t600 != 0) = false := bne_eq_false_iff_eq.mpr c173
              clear c173
              obtain rfl := jK H
              have hnb174 := NB560_554.out
              have hnc174 := NB554_560.out
              have hnb175 := NB560_566.out
              have hnc175 := NB566_560.out
              have hnb176 := NB560_582.out
              have hnc176 := NB582_560.out
              have hcz177 := zc2 BK560
              go_wp2_with (first | ((with_reducible refine jD (f := 36) rfl ?_); refine zL (some 198) Try.func36 #[.slice Ao19 t545.length co19, .agg #[.int .i64 t555, .slice Ao24 t556.length co24], .string t552, .int .i64 t553] ?_; (with_reducible refine (impl_TakePieces.calls kj136 _ _ t545 t555 _ _ t556 t552 t553 t593 t594 t597 _ ?side1 ?side2 ?side3 ?side4 A168.out).mono ?_); (case side1 => exact zv HO_3); (case side2 => exact (jM HO_3.out).2.1); (case side3 => exact zv HO_561001); (case side4 => exact (jM HO_561001.out).2.1); rintro e w178 ⟨v595, rfl, ho0, hb⟩; refine ⟨_, rfl, ?_⟩; replace HO_3 := jA (jF (zo HO_3) hb); have HO596 := jA (jU (Kd.R_new' (Kd.R_new' (Kd.R_new' (Kd.R_new' ho0 (Kd.R_lt (zo HO_555001))) (Kd.R_lt (zo HO_561001))) (Kd.R_lt (zo HO_567001))) (Kd.R_lt (zo HO_583001))) (jW (zb4 HB GE554 GE560 GE566 GE582))); replace HO_555001 := jA (Kd.R_elder' (zo HO_555001) (Kd.R_base ho0) hb); replace HO_561001 := jA (Kd.R_elder' (zo HO_561001) (Kd.R_base ho0) hb); replace HO_567001 := jA (Kd.R_elder' (zo HO_567001) (Kd.R_base ho0) hb); replace HO_583001 := jA (Kd.R_elder' (zo HO_583001) (Kd.R_base ho0) hb); replace BK554 := zB BK554 hb; replace BK560 := zB BK560 hb; replace BK566 := zB BK566 hb; replace BK582 := zB BK582 hb; replace HB := zS4 HB GE554 GE560 GE566 GE582 hb; (try clear hb); (try clear hb2); (try clear hk); (try clear hi); (try clear ho0)) | ((with_reducible refine jL (N := 29) rfl ?_); refine zE 29 #[.int .i64 0, .slice none 0 0] 28 ?_; intro gb598 hg w179 hbox hb; replace HO_3 := jA (jF (zo HO_3) hb); replace HO_555001 := jA (jF (zo HO_555001) hb); replace HO_561001 := jA (jF (zo HO_561001) hb); replace HO_567001 := jA (jF (zo HO_567001) hb); replace HO_583001 := jA (jF (zo HO_583001) hb); replace HO596 := jA (jF (zo HO596) hb); have BK598 := jA (hbox); have GW598 := zg4 hg HB GE554 GE560 GE566 GE582; have GE598 := zg4 hg HB GE554 GE560 GE566 GE582; replace HB := zS4 HB GE554 GE560 GE566 GE582 hb; have NB554_598 := zn hg BK554; replace BK554 := zB BK554 hb; have NB598_554 := jA NB554_598.out.symm; have NB560_598 := zn hg BK560; replace BK560 := zB BK560 hb; have NB598_560 := jA NB560_598.out.symm; have NB566_598 := zn hg BK566; replace BK566 := zB BK566 hb; have NB598_566 := jA NB566_598.out.symm; have NB582_598 := zn hg BK582; replace BK582 := zB BK582 hb; have NB598_582 := jA NB582_598.out.symm; clear hb hbox hg; have hnb180 := NB598_554.out; have hnc180 := NB554_598.out; have hnb181 := NB598_560.out; have hnc181 := NB560_598.out; have hnb182 := NB598_566.out; have hnc182 := NB566_598.out; have hnb183 := NB598_582.out; have hnc183 := NB582_598.out; have hcz184 := zc2 BK598; obtain ⟨Ao185, co185, eo185⟩ := Kd.R_slice HO596.out; subst eo185; have hcz186 := zc2 BK560) | ((with_reducible refine jD (f := 30) rfl ?_); refine zL (some 204) Try.func30 #[.slice Ao19 t545.length co19, .agg #[.int .i64 t555, .slice Ao24 t556.length co24]] ?_; (with_reducible refine (impl_IsLawful.calls kj136 _ _ t545 t555 _ _ t556 t599 t600 _ ?side1 ?side2 ?side3 ?side4 A169.out).mono ?_); (case side1 => refine (jM (e := 65) (base := w.heap.size) (ok := fun k_ => True) (n := t545.length) (c := co19) ?_).2.2; exact (zU HO_3 BK598)); (case side2 => exact (jM HO_3.out).2.1); (case side3 => refine (jM (e := 2) (base := w.heap.size) (ok := fun k_ => ((some k_ ≠ (.slice Ao18 t549.length co18 : Value).ownBlock ∧ (some k_ ≠ (.slice Ao31 t562.length co31 : Value).ownBlock ∧ some k_ ≠ (.slice Ao46 t579.length co46 : Value).ownBlock)) ∧ some k_ ≠ (.slice Ao185 t594.length co185 : Value).ownBlock)) (n := t556.length) (c := co24) ?_).2.2; exact (zU HO_561001 BK598)); (case side4 => exact (jM HO_561001.out).2.1); rintro e w187 ⟨rfl, hb⟩; refine ⟨_, rfl, ?_⟩; replace HO_3 := jA (jF (zU HO_3 BK598) hb); replace HO_555001 := jA (jF (zU HO_555001 BK598) hb); replace HO_561001 := jA (jF (zU HO_561001 BK598) hb); replace HO_567001 := jA (jF (zU HO_567001 BK598) hb); replace HO_583001 := jA (jF (zU HO_583001 BK598) hb); replace HO596 := jA (jF (zU HO596 BK598) hb); replace BK554 := jA (blk_below (g := gb554) (o := .cells #[.int .i64 t548, .slice Ao18 t549.length co18] 28 (0, 0)) (zQ1 BK554 NB554_598) hb); replace BK560 := jA (blk_below (g := gb560) (o := .cells #[.int .i64 t555, .slice Ao24 t556.length co24] 28 (0, 0)) (zQ1 BK560 NB560_598) hb); replace BK566 := jA (blk_below (g := gb566) (o := .cells #[.int .i64 t561, .slice Ao31 t562.length co31] 28 (0, 0)) (zQ1 BK566 NB566_598) hb); replace BK582 := jA (blk_below (g := gb582) (o := .cells #[.int .i64 t578, .slice Ao46 t579.length co46] 28 (0, 0)) (zQ1 BK582 NB582_598) hb); replace BK598 := jA (blk_below (g := gb598) (o := .cells #[.int .i64 t593, .slice Ao185 t594.length co185] 28 (0, 0)) (zP0 BK598) hb); replace HB := zS5 HB GE554 GE560 GE566 GE582 GE598 hb; clear hb; have hcz188 := zc2 BK598; have hnb189 := NB554_566.out; have hnc189 := NB566_554.out; have hnb190 := NB554_582.out; have hnc190 := NB582_554.out; have hcz191 := zc2 BK554) | (go_at_call 42; (with_reducible refine (laws_likeMagazine.calls kj136 t593 _ _ t594 t548 _ _ t549 true _ ?side1 ?side2 ?side3 ?side4 A171.out).mono ?_); (case side1 => exact zv HO596); (case side2 => exact (jM HO596.out).2.1); (case side3 => exact zv HO_555001); (case side4 => exact (jM HO_555001.out).2.1); rintro e w192 ⟨rfl, hb⟩; replace HO_3 := jA (jF (zo HO_3) hb); replace HO_555001 := jA (jF (zo HO_555001) hb); replace HO_561001 := jA (jF (zo HO_561001) hb); replace HO_567001 := jA (jF (zo HO_567001) hb); replace HO_583001 := jA (jF (zo HO_583001) hb); replace HO596 := jA (jF (zo HO596) hb); replace BK554 := zB BK554 hb; replace BK560 := zB BK560 hb; replace BK566 := zB BK566 hb; replace BK582 := zB BK582 hb; replace BK598 := zB BK598 hb; replace HB := zS5 HB GE554 GE560 GE566 GE582 GE598 hb; (try clear hb); (try clear hb2); (try clear hk); (try clear hi)))
              go_ret
              exact ⟨ze, zb5 HB GE554 GE560 GE566 GE582 GE598⟩
             ·rw [if_neg c173] at H
              have c173b0 : (t600 == 0) = false := beq_eq_false_iff_ne.mpr c173
              have c173b1 : (t600 != 0) = true := bne_iff_ne.mpr c173
              obtain rfl := jK H
              have hnb193 := NB560_554.out
              have hnc193 := NB554_560.out
              have hnb194 := NB560_566.out
              have hnc194 := NB566_560.out
              have hnb195 := NB560_582.out
              have hnc195 := NB582_560.out
              have hcz196 := zc2 BK560
              go_wp2_with (first | ((with_reducible refine jD (f := 36) rfl ?_); refine zL (some 198) Try.func36 #[.slice Ao19 t545.length co19, .agg #[.int .i64 t555, .slice Ao24 t556.length co24], .string t552, .int .i64 t553] ?_; (with_reducible refine (impl_TakePieces.calls kj136 _ _ t545 t555 _ _ t556 t552 t553 t593 t594 t597 _ ?side1 ?side2 ?side3 ?side4 A168.out).mono ?_); (case side1 => exact zv HO_3); (case side2 => exact (jM HO_3.out).2.1); (case side3 => exact zv HO_561001); (case side4 => exact (jM HO_561001.out).2.1); rintro e w197 ⟨v595, rfl, ho0, hb⟩; refine ⟨_, rfl, ?_⟩; replace HO_3 := jA (jF (zo HO_3) hb); have HO596 := jA (jU (Kd.R_new' (Kd.R_new' (Kd.R_new' (Kd.R_new' ho0 (Kd.R_lt (zo HO_555001))) (Kd.R_lt (zo HO_561001))) (Kd.R_lt (zo HO_567001))) (Kd.R_lt (zo HO_583001))) (jW (zb4 HB GE554 GE560 GE566 GE582))); replace HO_555001 := jA (Kd.R_elder' (zo HO_555001) (Kd.R_base ho0) hb); replace HO_561001 := jA (Kd.R_elder' (zo HO_561001) (Kd.R_base ho0) hb); replace HO_567001 := jA (Kd.R_elder' (zo HO_567001) (Kd.R_base ho0) hb); replace HO_583001 := jA (Kd.R_elder' (zo HO_583001) (Kd.R_base ho0) hb); replace BK554 := zB BK554 hb; replace BK560 := zB BK560 hb; replace BK566 := zB BK566 hb; replace BK582 := zB BK582 hb; replace HB := zS4 HB GE554 GE560 GE566 GE582 hb; (try clear hb); (try clear hb2); (try clear hk); (try clear hi); (try clear ho0)) | ((with_reducible refine jL (N := 29) rfl ?_); refine zE 29 #[.int .i64 0, .slice none 0 0] 28 ?_; intro gb598 hg w198 hbox hb; replace HO_3 := jA (jF (zo HO_3) hb); replace HO_555001 := jA (jF (zo HO_555001) hb); replace HO_561001 := jA (jF (zo HO_561001) hb); replace HO_567001 := jA (jF (zo HO_567001) hb); replace HO_583001 := jA (jF (zo HO_583001) hb); replace HO596 := jA (jF (zo HO596) hb); have BK598 := jA (hbox); have GW598 := zg4 hg HB GE554 GE560 GE566 GE582; have GE598 := zg4 hg HB GE554 GE560 GE566 GE582; replace HB := zS4 HB GE554 GE560 GE566 GE582 hb; have NB554_598 := zn hg BK554; replace BK554 := zB BK554 hb; have NB598_554 := jA NB554_598.out.symm; have NB560_598 := zn hg BK560; replace BK560 := zB BK560 hb; have NB598_560 := jA NB560_598.out.symm; have NB566_598 := zn hg BK566; replace BK566 := zB BK566 hb; have NB598_566 := jA NB566_598.out.symm; have NB582_598 := zn hg BK582; replace BK582 := zB BK582 hb; have NB598_582 := jA NB582_598.out.symm; clear hb hbox hg; have hnb199 := NB598_554.out; have hnc199 := NB554_598.out; have hnb200 := NB598_560.out; have hnc200 := NB560_598.out; have hnb201 := NB598_566.out; have hnc201 := NB566_598.out; have hnb202 := NB598_582.out; have hnc202 := NB582_598.out; have hcz203 := zc2 BK598; obtain ⟨Ao204, co204, eo204⟩ := Kd.R_slice HO596.out; subst eo204; have hcz205 := zc2 BK560) | ((with_reducible refine jD (f := 30) rfl ?_); refine zL (some 204) Try.func30 #[.slice Ao19 t545.length co19, .agg #[.int .i64 t555, .slice Ao24 t556.length co24]] ?_; (with_reducible refine (impl_IsLawful.calls kj136 _ _ t545 t555 _ _ t556 t599 t600 _ ?side1 ?side2 ?side3 ?side4 A169.out).mono ?_); (case side1 => refine (jM (e := 65) (base := w.heap.size) (ok := fun k_ => True) (n := t545.length) (c := co19) ?_).2.2; exact (zU HO_3 BK598)); (case side2 => exact (jM HO_3.out).2.1); (case side3 => refine (jM (e := 2) (base := w.heap.size) (ok := fun k_ => ((some k_ ≠ (.slice Ao18 t549.length co18 : Value).ownBlock ∧ (some k_ ≠ (.slice Ao31 t562.length co31 : Value).ownBlock ∧ some k_ ≠ (.slice Ao46 t579.length co46 : Value).ownBlock)) ∧ some k_ ≠ (.slice Ao204 t594.length co204 : Value).ownBlock)) (n := t556.length) (c := co24) ?_).2.2; exact (zU HO_561001 BK598)); (case side4 => exact (jM HO_561001.out).2.1); rintro e w206 ⟨rfl, hb⟩; refine ⟨_, rfl, ?_⟩; replace HO_3 := jA (jF (zU HO_3 BK598) hb); replace HO_555001 := jA (jF (zU HO_555001 BK598) hb); replace HO_561001 := jA (jF (zU HO_561001 BK598) hb); replace HO_567001 := jA (jF (zU HO_567001 BK598) hb); replace HO_583001 := jA (jF (zU HO_583001 BK598) hb); replace HO596 := jA (jF (zU HO596 BK598) hb); replace BK554 := jA (blk_below (g := gb554) (o := .cells #[.int .i64 t548, .slice Ao18 t549.length co18] 28 (0, 0)) (zQ1 BK554 NB554_598) hb); replace BK560 := jA (blk_below (g := gb560) (o := .cells #[.int .i64 t555, .slice Ao24 t556.length co24] 28 (0, 0)) (zQ1 BK560 NB560_598) hb); replace BK566 := jA (blk_below (g := gb566) (o := .cells #[.int .i64 t561, .slice Ao31 t562.length co31] 28 (0, 0)) (zQ1 BK566 NB566_598) hb); replace BK582 := jA (blk_below (g := gb582) (o := .cells #[.int .i64 t578, .slice Ao46 t579.length co46] 28 (0, 0)) (zQ1 BK582 NB582_598) hb); replace BK598 := jA (blk_below (g := gb598) (o := .cells #[.int .i64 t593, .slice Ao204 t594.length co204] 28 (0, 0)) (zP0 BK598) hb); replace HB := zS5 HB GE554 GE560 GE566 GE582 GE598 hb; clear hb; have hcz207 := zc2 BK598; have hnb208 := NB554_566.out; have hnc208 := NB566_554.out; have hnb209 := NB554_582.out; have hnc209 := NB582_554.out; have hcz210 := zc2 BK554) | (go_at_call 42; (with_reducible refine (laws_likeMagazine.calls kj136 t593 _ _ t594 t548 _ _ t549 true _ ?side1 ?side2 ?side3 ?side4 A171.out).mono ?_); (case side1 => exact zv HO596); (case side2 => exact (jM HO596.out).2.1); (case side3 => exact zv HO_555001); (case side4 => exact (jM HO_555001.out).2.1); rintro e w211 ⟨rfl, hb⟩; replace HO_3 := jA (jF (zo HO_3) hb); replace HO_555001 := jA (jF (zo HO_555001) hb); replace HO_561001 := jA (jF (zo HO_561001) hb); replace HO_567001 := jA (jF (zo HO_567001) hb); replace HO_583001 := jA (jF (zo HO_583001) hb); replace HO596 := jA (jF (zo HO596) hb); replace BK554 := zB BK554 hb; replace BK560 := zB BK560 hb; replace BK566 := zB BK566 hb; replace BK582 := zB BK582 hb; replace BK598 := zB BK598 hb; replace HB := zS5 HB GE554 GE560 GE566 GE582 GE598 hb; (try clear hb); (try clear hb2); (try clear hk); (try clear hi)))
              go_ret
              exact ⟨ze, zb5 HB GE554 GE560 GE566 GE582 GE598⟩
            ·replace c172 := Bool.eq_false_iff.mpr c172
             subst c172
             rw [if_neg zfalse] at H
             obtain rfl := jK H
             have hnb212 := NB560_554.out
             have hnc212 := NB554_560.out
             have hnb213 := NB560_566.out
             have hnc213 := NB566_560.out
             have hnb214 := NB560_582.out
             have hnc214 := NB582_560.out
             have hcz215 := zc2 BK560
             go_wp2_with (first | ((with_reducible refine jD (f := 36) rfl ?_); refine zL (some 198) Try.func36 #[.slice Ao19 t545.length co19, .agg #[.int .i64 t555, .slice Ao24 t556.length co24], .string t552, .int .i64 t553] ?_; (with_reducible refine (impl_TakePieces.calls kj136 _ _ t545 t555 _ _ t556 t552 t553 t593 t594 t597 _ ?side1 ?side2 ?side3 ?side4 A168.out).mono ?_); (case side1 => exact zv HO_3); (case side2 => exact (jM HO_3.out).2.1); (case side3 => exact zv HO_561001); (case side4 => exact (jM HO_561001.out).2.1); rintro e w216 ⟨v595, rfl, ho0, hb⟩; refine ⟨_, rfl, ?_⟩; replace HO_3 := jA (jF (zo HO_3) hb); have HO596 := jA (jU (Kd.R_new' (Kd.R_new' (Kd.R_new' (Kd.R_new' ho0 (Kd.R_lt (zo HO_555001))) (Kd.R_lt (zo HO_561001))) (Kd.R_lt (zo HO_567001))) (Kd.R_lt (zo HO_583001))) (jW (zb4 HB GE554 GE560 GE566 GE582))); replace HO_555001 := jA (Kd.R_elder' (zo HO_555001) (Kd.R_base ho0) hb); replace HO_561001 := jA (Kd.R_elder' (zo HO_561001) (Kd.R_base ho0) hb); replace HO_567001 := jA (Kd.R_elder' (zo HO_567001) (Kd.R_base ho0) hb); replace HO_583001 := jA (Kd.R_elder' (zo HO_583001) (Kd.R_base ho0) hb); replace BK554 := zB BK554 hb; replace BK560 := zB BK560 hb; replace BK566 := zB BK566 hb; replace BK582 := zB BK582 hb; replace HB := zS4 HB GE554 GE560 GE566 GE582 hb; (try clear hb); (try clear hb2); (try clear hk); (try clear hi); (try clear ho0)) | ((with_reducible refine jL (N := 29) rfl ?_); refine zE 29 #[.int .i64 0, .slice none 0 0] 28 ?_; intro gb598 hg w217 hbox hb; replace HO_3 := jA (jF (zo HO_3) hb); replace HO_555001 := jA (jF (zo HO_555001) hb); replace HO_561001 := jA (jF (zo HO_561001) hb); replace HO_567001 := jA (jF (zo HO_567001) hb); replace HO_583001 := jA (jF (zo HO_583001) hb); replace HO596 := jA (jF (zo HO596) hb); have BK598 := jA (hbox); have GW598 := zg4 hg HB GE554 GE560 GE566 GE582; have GE598 := zg4 hg HB GE554 GE560 GE566 GE582; replace HB := zS4 HB GE554 GE560 GE566 GE582 hb; have NB554_598 := zn hg BK554; replace BK554 := zB BK554 hb; have NB598_554 := jA NB554_598.out.symm; have NB560_598 := zn hg BK560; replace BK560 := zB BK560 hb; have NB598_560 := jA NB560_598.out.symm; have NB566_598 := zn hg BK566; replace BK566 := zB BK566 hb; have NB598_566 := jA NB566_598.out.symm; have NB582_598 := zn hg BK582; replace BK582 := zB BK582 hb; have NB598_582 := jA NB582_598.out.symm; clear hb hbox hg; have hnb218 := NB598_554.out; have hnc218 := NB554_598.out; have hnb219 := NB598_560.out; have hnc219 := NB560_598.out; have hnb220 := NB598_566.out; have hnc220 := NB566_598.out; have hnb221 := NB598_582.out; have hnc221 := NB582_598.out; have hcz222 := zc2 BK598; obtain ⟨Ao223, co223, eo223⟩ := Kd.R_slice HO596.out; subst eo223; have hcz224 := zc2 BK560) | ((with_reducible refine jD (f := 30) rfl ?_); refine zL (some 204) Try.func30 #[.slice Ao19 t545.length co19, .agg #[.int .i64 t555, .slice Ao24 t556.length co24]] ?_; (with_reducible refine (impl_IsLawful.calls kj136 _ _ t545 t555 _ _ t556 t599 t600 _ ?side1 ?side2 ?side3 ?side4 A169.out).mono ?_); (case side1 => refine (jM (e := 65) (base := w.heap.size) (ok := fun k_ => True) (n := t545.length) (c := co19) ?_).2.2; exact (zU HO_3 BK598)); (case side2 => exact (jM HO_3.out).2.1); (case side3 => refine (jM (e := 2) (base := w.heap.size) (ok := fun k_ => ((some k_ ≠ (.slice Ao18 t549.length co18 : Value).ownBlock ∧ (some k_ ≠ (.slice Ao31 t562.length co31 : Value).ownBlock ∧ some k_ ≠ (.slice Ao46 t579.length co46 : Value).ownBlock)) ∧ some k_ ≠ (.slice Ao223 t594.length co223 : Value).ownBlock)) (n := t556.length) (c := co24) ?_).2.2; exact (zU HO_561001 BK598)); (case side4 => exact (jM HO_561001.out).2.1); rintro e w225 ⟨rfl, hb⟩; refine ⟨_, rfl, ?_⟩; replace HO_3 := jA (jF (zU HO_3 BK598) hb); replace HO_555001 := jA (jF (zU HO_555001 BK598) hb); replace HO_561001 := jA (jF (zU HO_561001 BK598) hb); replace HO_567001 := jA (jF (zU HO_567001 BK598) hb); replace HO_583001 := jA (jF (zU HO_583001 BK598) hb); replace HO596 := jA (jF (zU HO596 BK598) hb); replace BK554 := jA (blk_below (g := gb554) (o := .cells #[.int .i64 t548, .slice Ao18 t549.length co18] 28 (0, 0)) (zQ1 BK554 NB554_598) hb); replace BK560 := jA (blk_below (g := gb560) (o := .cells #[.int .i64 t555, .slice Ao24 t556.length co24] 28 (0, 0)) (zQ1 BK560 NB560_598) hb); replace BK566 := jA (blk_below (g := gb566) (o := .cells #[.int .i64 t561, .slice Ao31 t562.length co31] 28 (0, 0)) (zQ1 BK566 NB566_598) hb); replace BK582 := jA (blk_below (g := gb582) (o := .cells #[.int .i64 t578, .slice Ao46 t579.length co46] 28 (0, 0)) (zQ1 BK582 NB582_598) hb); replace BK598 := jA (blk_below (g := gb598) (o := .cells #[.int .i64 t593, .slice Ao223 t594.length co223] 28 (0, 0)) (zP0 BK598) hb); replace HB := zS5 HB GE554 GE560 GE566 GE582 GE598 hb; clear hb; have hcz226 := zc2 BK598; have hnb227 := NB554_566.out; have hnc227 := NB566_554.out; have hnb228 := NB554_582.out; have hnc228 := NB582_554.out; have hcz229 := zc2 BK554) | (go_at_call 42; (with_reducible refine (laws_likeMagazine.calls kj136 t593 _ _ t594 t548 _ _ t549 false _ ?side1 ?side2 ?side3 ?side4 A171.out).mono ?_); (case side1 => exact zv HO596); (case side2 => exact (jM HO596.out).2.1); (case side3 => exact zv HO_555001); (case side4 => exact (jM HO_555001.out).2.1); rintro e w230 ⟨rfl, hb⟩; replace HO_3 := jA (jF (zo HO_3) hb); replace HO_555001 := jA (jF (zo HO_555001) hb); replace HO_561001 := jA (jF (zo HO_561001) hb); replace HO_567001 := jA (jF (zo HO_567001) hb); replace HO_583001 := jA (jF (zo HO_583001) hb); replace HO596 := jA (jF (zo HO596) hb); replace BK554 := zB BK554 hb; replace BK560 := zB BK560 hb; replace BK566 := zB BK566 hb; replace BK582 := zB BK582 hb; replace BK598 := zB BK598 hb; replace HB := zS5 HB GE554 GE560 GE566 GE582 GE598 hb; (try clear hb); (try clear hb2); (try clear hk); (try clear hi)))
             go_ret
             exact ⟨ze, zb5 HB GE554 GE560 GE566 GE582 GE598⟩
           ·rw [if_neg c170] at H
            have c170b0 : (t597 == 0) = false := beq_eq_false_iff_ne.mpr c170
            have c170b1 : (t597 != 0) = true := bne_iff_ne.mpr c170
            obtain rfl := jK H
            have hnb231 := NB560_554.out
            have hnc231 := NB554_560.out
            have hnb232 := NB560_566.out
            have hnc232 := NB566_560.out
            have hnb233 := NB560_582.out
            have hnc233 := NB582_560.out
            have hcz234 := zc2 BK560
            go_wp2_with (first | ((with_reducible refine jD (f := 36) rfl ?_); refine zL (some 198) Try.func36 #[.slice Ao19 t545.length co19, .agg #[.int .i64 t555, .slice Ao24 t556.length co24], .string t552, .int .i64 t553] ?_; (with_reducible refine (impl_TakePieces.calls kj136 _ _ t545 t555 _ _ t556 t552 t553 t593 t594 t597 _ ?side1 ?side2 ?side3 ?side4 A168.out).mono ?_); (case side1 => exact zv HO_3); (case side2 => exact (jM HO_3.out).2.1); (case side3 => exact zv HO_561001); (case side4 => exact (jM HO_561001.out).2.1); rintro e w235 ⟨v595, rfl, ho0, hb⟩; refine ⟨_, rfl, ?_⟩; replace HO_3 := jA (jF (zo HO_3) hb); have HO596 := jA (jU (Kd.R_new' (Kd.R_new' (Kd.R_new' (Kd.R_new' ho0 (Kd.R_lt (zo HO_555001))) (Kd.R_lt (zo HO_561001))) (Kd.R_lt (zo HO_567001))) (Kd.R_lt (zo HO_583001))) (jW (zb4 HB GE554 GE560 GE566 GE582))); replace HO_555001 := jA (Kd.R_elder' (zo HO_555001) (Kd.R_base ho0) hb); replace HO_561001 := jA (Kd.R_elder' (zo HO_561001) (Kd.R_base ho0) hb); replace HO_567001 := jA (Kd.R_elder' (zo HO_567001) (Kd.R_base ho0) hb); replace HO_583001 := jA (Kd.R_elder' (zo HO_583001) (Kd.R_base ho0) hb); replace BK554 := zB BK554 hb; replace BK560 := zB BK560 hb; replace BK566 := zB BK566 hb; replace BK582 := zB BK582 hb; replace HB := zS4 HB GE554 GE560 GE566 GE582 hb; (try clear hb); (try clear hb2); (try clear hk); (try clear hi); (try clear ho0)) | ((with_reducible refine jL (N := 29) rfl ?_); refine zE 29 #[.int .i64 0, .slice none 0 0] 28 ?_; intro gb598 hg w236 hbox hb; replace HO_3 := jA (jF (zo HO_3) hb); replace HO_555001 := jA (jF (zo HO_555001) hb); replace HO_561001 := jA (jF (zo HO_561001) hb); replace HO_567001 := jA (jF (zo HO_567001) hb); replace HO_583001 := jA (jF (zo HO_583001) hb); replace HO596 := jA (jF (zo HO596) hb); have BK598 := jA (hbox); have GW598 := zg4 hg HB GE554 GE560 GE566 GE582; have GE598 := zg4 hg HB GE554 GE560 GE566 GE582; replace HB := zS4 HB GE554 GE560 GE566 GE582 hb; have NB554_598 := zn hg BK554; replace BK554 := zB BK554 hb; have NB598_554 := jA NB554_598.out.symm; have NB560_598 := zn hg BK560; replace BK560 := zB BK560 hb; have NB598_560 := jA NB560_598.out.symm; have NB566_598 := zn hg BK566; replace BK566 := zB BK566 hb; have NB598_566 := jA NB566_598.out.symm; have NB582_598 := zn hg BK582; replace BK582 := zB BK582 hb; have NB598_582 := jA NB582_598.out.symm; clear hb hbox hg; have hnb237 := NB598_554.out; have hnc237 := NB554_598.out; have hnb238 := NB598_560.out; have hnc238 := NB560_598.out; have hnb239 := NB598_566.out; have hnc239 := NB566_598.out; have hnb240 := NB598_582.out; have hnc240 := NB582_598.out; have hcz241 := zc2 BK598; obtain ⟨Ao242, co242, eo242⟩ := Kd.R_slice HO596.out; subst eo242; have hcz243 := zc2 BK560) | ((with_reducible refine jD (f := 30) rfl ?_); refine zL (some 204) Try.func30 #[.slice Ao19 t545.length co19, .agg #[.int .i64 t555, .slice Ao24 t556.length co24]] ?_; (with_reducible refine (impl_IsLawful.calls kj136 _ _ t545 t555 _ _ t556 t599 t600 _ ?side1 ?side2 ?side3 ?side4 A169.out).mono ?_); (case side1 => refine (jM (e := 65) (base := w.heap.size) (ok := fun k_ => True) (n := t545.length) (c := co19) ?_).2.2; exact (zU HO_3 BK598)); (case side2 => exact (jM HO_3.out).2.1); (case side3 => refine (jM (e := 2) (base := w.heap.size) (ok := fun k_ => ((some k_ ≠ (.slice Ao18 t549.length co18 : Value).ownBlock ∧ (some k_ ≠ (.slice Ao31 t562.length co31 : Value).ownBlock ∧ some k_ ≠ (.slice Ao46 t579.length co46 : Value).ownBlock)) ∧ some k_ ≠ (.slice Ao242 t594.length co242 : Value).ownBlock)) (n := t556.length) (c := co24) ?_).2.2; exact (zU HO_561001 BK598)); (case side4 => exact (jM HO_561001.out).2.1); rintro e w244 ⟨rfl, hb⟩; refine ⟨_, rfl, ?_⟩; replace HO_3 := jA (jF (zU HO_3 BK598) hb); replace HO_555001 := jA (jF (zU HO_555001 BK598) hb); replace HO_561001 := jA (jF (zU HO_561001 BK598) hb); replace HO_567001 := jA (jF (zU HO_567001 BK598) hb); replace HO_583001 := jA (jF (zU HO_583001 BK598) hb); replace HO596 := jA (jF (zU HO596 BK598) hb); replace BK554 := jA (blk_below (g := gb554) (o := .cells #[.int .i64 t548, .slice Ao18 t549.length co18] 28 (0, 0)) (zQ1 BK554 NB554_598) hb); replace BK560 := jA (blk_below (g := gb560) (o := .cells #[.int .i64 t555, .slice Ao24 t556.length co24] 28 (0, 0)) (zQ1 BK560 NB560_598) hb); replace BK566 := jA (blk_below (g := gb566) (o := .cells #[.int .i64 t561, .slice Ao31 t562.length co31] 28 (0, 0)) (zQ1 BK566 NB566_598) hb); replace BK582 := jA (blk_below (g := gb582) (o := .cells #[.int .i64 t578, .slice Ao46 t579.length co46] 28 (0, 0)) (zQ1 BK582 NB582_598) hb); replace BK598 := jA (blk_below (g := gb598) (o := .cells #[.int .i64 t593, .slice Ao242 t594.length co242] 28 (0, 0)) (zP0 BK598) hb); replace HB := zS5 HB GE554 GE560 GE566 GE582 GE598 hb; clear hb))
            go_ret
            exact ⟨ze, zb5 HB GE554 GE560 GE566 GE582 GE598⟩
          ·rw [if_neg c167] at H
           have c167b0 : (t559 == 0) = false := beq_eq_false_iff_ne.mpr c167
           have c167b1 : (t559 != 0) = true := bne_iff_ne.mpr c167
           obtain rfl := jK H
           go_wp2
           go_ret
           exact ⟨ze, zb4 HB GE554 GE560 GE566 GE582⟩

/-- THE ONE PURE STATEMENT of laws_FnMagazines: yours. -/
def laws_FnMagazines.Pure : Prop := ∀ (l0 : List Int), l0.length ≤ maxLen → l0.length * 1 ≤ 140737488351232 → (∀ x ∈ l0, (Lit.int .u8 x).wf = true) → ∃ k, laws_FnMagazines.f k l0 = some true
theorem laws_FnMagazines.walk (P : laws_FnMagazines.Pure) (a0 : Option Addr) (len0 cap0 : Nat) (z0 : List Int) (w : World) (w0 : (a0 = none ∧ len0 = 0 ∧ cap0 = 0 ∧ z0 = []) ∨ ∃ x, a0 = some x ∧ len0 ≤ cap0 ∧ cap0 ≤ maxLen ∧ z0.length = cap0 ∧ (∀ i, i < z0.length → w.cell? (x.add i) = some (.int .u8 (z0.getD i 0))) ∧ ∀ n ∈ z0, (Lit.int .u8 n).wf = true) (y0 : len0 * 1 ≤ 140737488351232) :
  Calls Try.prog 10 #[.slice a0 len0 cap0] w fun e w' => e = .returned (.bool true) ∧ Below w.heap.size w w' := by
 obtain ⟨l0, rfl, hr0, hm0, hw0, hc0⟩ := ReadsInt.ofRowC w0
 obtain ⟨k, h⟩ := P l0 hm0 y0 hw0
 refine (laws_FnMagazines.calls k _ _ l0 true w (Kd.C_of_reads (d := (0 : Int)) (h1 := fun _ => rfl) hr0) hc0 h).mono ?_
 rintro e w' ⟨rfl, hd⟩
 exact ⟨rfl, hd⟩

end Go.Proofs.Ytdgglhfnlljmeaa.PFnMagazines
