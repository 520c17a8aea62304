/- The law FnExactFirstLoading: for all arguments it returns true, and each argument reads afterwards as before: the row, from the walk and from the statement over numbers and lists. -/
import Derived.Test.YtjnfimhckeihhaaRows
import Derived.Test.YtjnfimhckeihhaaXFnExactFirstLoading
import Derived.Test.YtjnfimhckeihhaaPureFnExactFirstLoading
import Derived.WalkKit
import Derived.ProofKit
import Derived.OpenShut
import Derived.ShutString
import Derived.ChangeOld
import Derived.Below
import Derived.SizedLaws
namespace Go.Proofs.Ytjnfimhckeihhaa.fnExactFirstLoading
open Go.ChangeShapes Go.WideShapes Go.ChangeAt Go.RowKit Go.Proofs.YtjnfimhckeihhaaX Go.Proofs.YtjnfimhckeihhaaW.PrintWords
open Go.ChangeMaps (open_string shut_string)
set_option linter.unusedVariables false
set_option linter.unusedSimpArgs false
theorem own : ownKnob Try.prog.godebug = none := by kernel_rfl
theorem laidOut : laidOutB Try.prog = true := by kernel_rfl
theorem elem58 {H : Type} {enc : TypeId × Value → H} {w : World} {base : Nat} {spare : Nat → Bool} {held : Bool} (n : Nat) (cs : List Value) (y : DataW H × List MemPlace) (h : DataW.trod enc Try.prog w base spare held n 58 cs = some y) (hl : cs.length = Try.prog.cellsOf 58) : ∃ x, PFnExactFirstLoading.k58.K w x cs ∧ True := by
  obtain ⟨ys, m, _, _, _, hyl, hf⟩ := DataW.trod_struct Try.underlying58 h
  have hc : Try.prog.cellsOf 58 = 2 := by kernel_rfl
  rw [hc] at hl
  replace hyl : ys.length = 2 := hyl
  match cs, hl with
  | [v0, v1], _ =>
    have h0 : DataW.trod enc Try.prog w base spare held m 2 (([v0, v1].drop 0).take (Try.prog.cellsOf 2)) = ys[0]? := hf 0 _ rfl
    have c0 : Try.prog.cellsOf 2 = 1 := by kernel_rfl
    have e0 : ys[0]? = some (ys[0]'(by omega)) := List.getElem?_eq_getElem (by omega)
    have h1 : DataW.trod enc Try.prog w base spare held m 2 (([v0, v1].drop 1).take (Try.prog.cellsOf 2)) = ys[1]? := hf 1 _ rfl
    have c1 : Try.prog.cellsOf 2 = 1 := by kernel_rfl
    have e1 : ys[1]? = some (ys[1]'(by omega)) := List.getElem?_eq_getElem (by omega)
    obtain ⟨z0, hz0, _, _⟩ := DataW.trod_int Try.underlying2 (h0.trans e0)
    rw [c0] at hz0
    simp at hz0
    subst hz0
    obtain ⟨z1, hz1, _, _⟩ := DataW.trod_int Try.underlying2 (h1.trans e1)
    rw [c1] at hz1
    simp at hz1
    subst hz1
    exact ⟨⟨z0, z1⟩, PFnExactFirstLoading.k58_mk w _, trivial⟩
set_option maxRecDepth 100000 in
theorem lifted (os : Os) (started : os.Started) (H : Type) (enc : TypeId × Value → H) :
    ReturnsInHanded {} Try.checked os 10 .any (Rows.fnExactFirstLoadingSpec.pre6 enc Try.prog Try.f10 Rows.fnExactFirstLoadingRow.domain false) (Rows.fnExactFirstLoadingSpec.post enc Try.prog Try.f10 false true false false) := by
  refine returnsInHanded_of_change_sized (C := Try.checked) own started (by kernel_rfl) Try.func10
    (ChangeSpec.witness6 (enc := enc) (C := Try.checked) false ⟨#[], #[.slice none 0 0, .int .i64 0], []⟩ 8 (by kernel_rfl) (by kernel_rfl) (by kernel_rfl) (by kernel_rfl)) ?_
  intro W base args ds gs before hval0 hW hcnd hsz0 _
  have hval : ∀ (j : Nat) t v, Try.f10.params[j]? = some t → args[j]? = some v → Value.okWide Try.prog W .any base t v := hval0
  have hW' := hW
  obtain ⟨p, q, hA0, hV, rfl, hfz, hnd⟩ := hW
  have hA : DataW.TrodAll enc Try.prog W 0 (fun _ => true) true Try.f10.params.toList args.toList ds p := hA0
  have hsz : (DataW.weightsEach Try.prog (Try.f10.params.toList ++ Rows.fnExactFirstLoadingSpec.plain.varTypes Try.prog) (ds ++ gs)).all (· ≤ reachBytes) = true := hsz0
  rw [Try.params10] at hA hval hsz
  obtain ⟨v0, vs0, d0, ds0, p0, q0, hargs, rfl, rfl, h0, r0⟩ := trodAll_cons hA
  obtain ⟨v1, vs1, d1, ds1, p1, q1, rfl, rfl, rfl, h1, r1⟩ := trodAll_cons r0
  obtain ⟨rfl, rfl, rfl⟩ := trodAll_nil r1
  obtain rfl : args = #[v0, v1] := by cases args; simp_all
  obtain ⟨rfl, rfl⟩ := trodVars_none hV
  obtain ⟨A0, len0, cap0, rfl⟩ := okWide_slice Try.underlying22 (hval 0 22 v0 rfl rfl)
  have k0 := h0
  have lt0 : ∀ x ∈ p0, x.block < W.heap.size := by obtain ⟨m, hm⟩ := k0; exact DataW.trod_lt m _ _ _ hm
  obtain ⟨l0, hl0, hc0, hr0, g0⟩ := open_row (dk := PFnExactFirstLoading.k58) (G := fun x => True) Try.underlying22 (by kernel_rfl) (.inl rfl) (elem58) h0
  subst hl0
  obtain ⟨a1, rfl, rfl, rfl, w1⟩ := open_int Try.underlying2 (hval 1 2 v1 rfl rfl) h1
  clear hA0 hval0 hsz0 hsz
  refine (PFnExactFirstLoading.laws_FnExactFirstLoading.walk Pure.FnExactFirstLoading A0 cap0 l0 a1 W hr0 hc0 w1).mono fun e W' ⟨he, bel⟩ => ?_
  subst he
  exact ⟨_, rfl, _, _, _, [], _, [], hW', trodAll_mk1 (shut_bool Try.underlying4 _), (trodAll_cons_mk (Below.trod laidOut (by kernel_rfl) (of_decide_eq_true (by kernel_rfl)) k0 bel lt0) (trodAll_cons_mk (shut_int Try.underlying2 w1) trodAll_mk0)), rfl, bel.frame _, fun h => by cases h⟩
theorem over : Rows.fnExactFirstLoadingRow.holds Try.pinned (OpenSpec.ofChange Rows.fnExactFirstLoadingSpec) :=
  OpenClaim.holds_of_wide 10 Try.f10 rfl rfl rfl rfl rfl rfl rfl ⟨rfl, rfl, rfl, rfl, rfl⟩ rfl rfl rfl rfl rfl (by kernel_rfl) Try.func10 (by kernel_rfl)
    (of_decide_eq_true (by kernel_rfl)) (by unfold Func.isWrapper; first | (rw [if_pos (by decide +kernel)]; kernel_rfl) | (rw [if_neg (by decide +kernel)]; exact ⟨rfl, rfl⟩))
    (fun os started H enc _ => lifted os started H enc)
theorem proved : Rows.FnExactFirstLoadingSaid := over
#print axioms proved
end Go.Proofs.Ytjnfimhckeihhaa.fnExactFirstLoading
namespace Go.Proofs.Ytjnfimhckeihhaa
/-- The row, under a short name, for the claim. -/
theorem fnExactFirstLoading_holds : Rows.FnExactFirstLoadingSaid := fnExactFirstLoading.proved
end Go.Proofs.Ytjnfimhckeihhaa
