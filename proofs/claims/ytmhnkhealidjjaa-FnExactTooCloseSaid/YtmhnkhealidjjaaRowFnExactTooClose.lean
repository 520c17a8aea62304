/- The law FnExactTooClose: for all arguments it returns true, and each argument reads afterwards as before: the row, from the walk and from the statement over numbers and lists. -/
import Derived.Test.YtmhnkhealidjjaaRows
import Derived.Test.YtmhnkhealidjjaaXFnExactTooClose
import Derived.Test.YtmhnkhealidjjaaPureFnExactTooClose
import Derived.WalkKit
import Derived.ProofKit
import Derived.OpenShut
import Derived.ShutString
import Derived.ChangeOld
import Derived.Below
import Derived.SizedLaws
namespace Go.Proofs.Ytmhnkhealidjjaa.fnExactTooClose
open Go.ChangeShapes Go.WideShapes Go.ChangeAt Go.RowKit Go.Proofs.YtmhnkhealidjjaaX Go.Proofs.YtmhnkhealidjjaaW.PrintWords
open Go.ChangeMaps (open_string shut_string)
set_option linter.unusedVariables false
set_option linter.unusedSimpArgs false
theorem own : ownKnob Try.prog.godebug = none := by kernel_rfl
theorem laidOut : laidOutB Try.prog = true := by kernel_rfl
theorem elem65 {H : Type} {enc : TypeId × Value → H} {w : World} {base : Nat} {spare : Nat → Bool} {held : Bool} (n : Nat) (cs : List Value) (y : DataW H × List MemPlace) (h : DataW.trod enc Try.prog w base spare held n 65 cs = some y) (hl : cs.length = Try.prog.cellsOf 65) : ∃ x, PFnExactTooClose.k65.K w x cs ∧ True := by
  obtain ⟨ys, m, _, _, _, hyl, hf⟩ := DataW.trod_struct Try.underlying65 h
  have hc : Try.prog.cellsOf 65 = 3 := by kernel_rfl
  rw [hc] at hl
  replace hyl : ys.length = 3 := hyl
  match cs, hl with
  | [v0, v1, v2], _ =>
    have h0 : DataW.trod enc Try.prog w base spare held m 2 (([v0, v1, v2].drop 0).take (Try.prog.cellsOf 2)) = ys[0]? := hf 0 _ rfl
    have c0 : Try.prog.cellsOf 2 = 1 := by kernel_rfl
    have e0 : ys[0]? = some (ys[0]'(by omega)) := List.getElem?_eq_getElem (by omega)
    have h1 : DataW.trod enc Try.prog w base spare held m 2 (([v0, v1, v2].drop 1).take (Try.prog.cellsOf 2)) = ys[1]? := hf 1 _ rfl
    have c1 : Try.prog.cellsOf 2 = 1 := by kernel_rfl
    have e1 : ys[1]? = some (ys[1]'(by omega)) := List.getElem?_eq_getElem (by omega)
    have h2 : DataW.trod enc Try.prog w base spare held m 2 (([v0, v1, v2].drop 2).take (Try.prog.cellsOf 2)) = ys[2]? := hf 2 _ rfl
    have c2 : Try.prog.cellsOf 2 = 1 := by kernel_rfl
    have e2 : ys[2]? = some (ys[2]'(by omega)) := List.getElem?_eq_getElem (by omega)
    obtain ⟨z0, hz0, _, _⟩ := DataW.trod_int Try.underlying2 (h0.trans e0)
    rw [c0] at hz0
    simp at hz0
    subst hz0
    obtain ⟨z1, hz1, _, _⟩ := DataW.trod_int Try.underlying2 (h1.trans e1)
    rw [c1] at hz1
    simp at hz1
    subst hz1
    obtain ⟨z2, hz2, _, _⟩ := DataW.trod_int Try.underlying2 (h2.trans e2)
    rw [c2] at hz2
    simp at hz2
    subst hz2
    exact ⟨⟨z0, z1, z2⟩, PFnExactTooClose.k65_mk w _, trivial⟩
set_option maxRecDepth 100000 in
theorem lifted (os : Os) (started : os.Started) (H : Type) (enc : TypeId × Value → H) :
    ReturnsInHanded {} Try.checked os 13 .any (Rows.fnExactTooCloseSpec.pre6 enc Try.prog Try.f13 Rows.fnExactTooCloseRow.domain false) (Rows.fnExactTooCloseSpec.post enc Try.prog Try.f13 false true false false) := by
  refine returnsInHanded_of_change_sized (C := Try.checked) own started (by kernel_rfl) Try.func13
    (ChangeSpec.witness6 (enc := enc) (C := Try.checked) false ⟨#[], #[.slice none 0 0, .int .i64 0], []⟩ 8 (by kernel_rfl) (by kernel_rfl) (by kernel_rfl) (by kernel_rfl)) ?_
  intro W base args ds gs before hval0 hW hcnd hsz0 _
  have hval : ∀ (j : Nat) t v, Try.f13.params[j]? = some t → args[j]? = some v → Value.okWide Try.prog W .any base t v := hval0
  have hW' := hW
  obtain ⟨p, q, hA0, hV, rfl, hfz, hnd⟩ := hW
  have hA : DataW.TrodAll enc Try.prog W 0 (fun _ => true) true Try.f13.params.toList args.toList ds p := hA0
  have hsz : (DataW.weightsEach Try.prog (Try.f13.params.toList ++ Rows.fnExactTooCloseSpec.plain.varTypes Try.prog) (ds ++ gs)).all (· ≤ reachBytes) = true := hsz0
  rw [Try.params13] at hA hval hsz
  obtain ⟨v0, vs0, d0, ds0, p0, q0, hargs, rfl, rfl, h0, r0⟩ := trodAll_cons hA
  obtain ⟨v1, vs1, d1, ds1, p1, q1, rfl, rfl, rfl, h1, r1⟩ := trodAll_cons r0
  obtain ⟨rfl, rfl, rfl⟩ := trodAll_nil r1
  obtain rfl : args = #[v0, v1] := by cases args; simp_all
  obtain ⟨rfl, rfl⟩ := trodVars_none hV
  obtain ⟨A0, len0, cap0, rfl⟩ := okWide_slice Try.underlying25 (hval 0 25 v0 rfl rfl)
  have k0 := h0
  have lt0 : ∀ x ∈ p0, x.block < W.heap.size := by obtain ⟨m, hm⟩ := k0; exact DataW.trod_lt m _ _ _ hm
  obtain ⟨l0, hl0, hc0, hr0, g0⟩ := open_row (dk := PFnExactTooClose.k65) (G := fun x => True) Try.underlying25 (by kernel_rfl) (.inl rfl) (elem65) h0
  subst hl0
  obtain ⟨a1, rfl, rfl, rfl, w1⟩ := open_int Try.underlying2 (hval 1 2 v1 rfl rfl) h1
  clear hA0 hval0 hsz0 hsz
  refine (PFnExactTooClose.laws_FnExactTooClose.walk Pure.FnExactTooClose A0 cap0 l0 a1 W hr0 hc0 w1).mono fun e W' ⟨he, bel⟩ => ?_
  subst he
  exact ⟨_, rfl, _, _, _, [], _, [], hW', trodAll_mk1 (shut_bool Try.underlying4 _), (trodAll_cons_mk (Below.trod laidOut (by kernel_rfl) (of_decide_eq_true (by kernel_rfl)) k0 bel lt0) (trodAll_cons_mk (shut_int Try.underlying2 w1) trodAll_mk0)), rfl, bel.frame _, fun h => by cases h⟩
theorem over : Rows.fnExactTooCloseRow.holds Try.pinned (OpenSpec.ofChange Rows.fnExactTooCloseSpec) :=
  OpenClaim.holds_of_wide 13 Try.f13 rfl rfl rfl rfl rfl rfl rfl ⟨rfl, rfl, rfl, rfl, rfl⟩ rfl rfl rfl rfl rfl (by kernel_rfl) Try.func13 (by kernel_rfl)
    (of_decide_eq_true (by kernel_rfl)) (by unfold Func.isWrapper; first | (rw [if_pos (by decide +kernel)]; kernel_rfl) | (rw [if_neg (by decide +kernel)]; exact ⟨rfl, rfl⟩))
    (fun os started H enc _ => lifted os started H enc)
theorem proved : Rows.FnExactTooCloseSaid := over
#print axioms proved
end Go.Proofs.Ytmhnkhealidjjaa.fnExactTooClose
namespace Go.Proofs.Ytmhnkhealidjjaa
/-- The row, under a short name, for the claim. -/
theorem fnExactTooClose_holds : Rows.FnExactTooCloseSaid := fnExactTooClose.proved
end Go.Proofs.Ytmhnkhealidjjaa
