/- The law FnExactAddTry: for all arguments it returns true, and each argument reads afterwards as before: the row, from the walk and from the statement over numbers and lists. -/
import Derived.Test.YthnpffomoaeeoaaRows
import Derived.Test.YthnpffomoaeeoaaXFnExactAddTry
import Derived.Test.YthnpffomoaeeoaaPureFnExactAddTry
import Derived.WalkKit
import Derived.ProofKit
import Derived.OpenShut
import Derived.ShutString
import Derived.ChangeOld
import Derived.Below
import Derived.SizedLaws
namespace Go.Proofs.Ythnpffomoaeeoaa.fnExactAddTry
open Go.ChangeShapes Go.WideShapes Go.ChangeAt Go.RowKit Go.Proofs.YthnpffomoaeeoaaX Go.Proofs.YthnpffomoaeeoaaW.PrintWords
open Go.ChangeMaps (open_string shut_string)
set_option linter.unusedVariables false
set_option linter.unusedSimpArgs false
theorem own : ownKnob Try.prog.godebug = none := by kernel_rfl
theorem laidOut : laidOutB Try.prog = true := by kernel_rfl
theorem elem33 {H : Type} {enc : TypeId × Value → H} {w : World} {base : Nat} {spare : Nat → Bool} {held : Bool} (n : Nat) (cs : List Value) (y : DataW H × List MemPlace) (h : DataW.trod enc Try.prog w base spare held n 33 cs = some y) (hl : cs.length = Try.prog.cellsOf 33) : ∃ x, PFnExactAddTry.k33.K w x cs ∧ True := by
  obtain ⟨ys, m, _, _, _, hyl, hf⟩ := DataW.trod_struct Try.underlying33 h
  have hc : Try.prog.cellsOf 33 = 3 := by kernel_rfl
  rw [hc] at hl
  replace hyl : ys.length = 3 := hyl
  match cs, hl with
  | [v0, v1, v2], _ =>
    have h0 : DataW.trod enc Try.prog w base spare held m 2 (([v0, v1, v2].drop 0).take (Try.prog.cellsOf 2)) = ys[0]? := hf 0 _ rfl
    have c0 : Try.prog.cellsOf 2 = 1 := by kernel_rfl
    have e0 : ys[0]? = some (ys[0]'(by omega)) := List.getElem?_eq_getElem (by omega)
    have h1 : DataW.trod enc Try.prog w base spare held m 2 (([v0, v1, v2].drop 1).take (Try.prog.cellsOf 2)) = ys[1]? := hf 1 _ rfl
    have c1 : Try.prog.cellsOf 2 = 1 := by kernel_rfl
    have e1 : ys[1]? = some (ys[1]'(by omega)) := List.getElem?_eq_getElem (by omega)
    have h2 : DataW.trod enc Try.prog w base spare held m 4 (([v0, v1, v2].drop 2).take (Try.prog.cellsOf 4)) = ys[2]? := hf 2 _ rfl
    have c2 : Try.prog.cellsOf 4 = 1 := by kernel_rfl
    have e2 : ys[2]? = some (ys[2]'(by omega)) := List.getElem?_eq_getElem (by omega)
    obtain ⟨z0, hz0, _, _⟩ := DataW.trod_int Try.underlying2 (h0.trans e0)
    rw [c0] at hz0
    simp at hz0
    subst hz0
    obtain ⟨z1, hz1, _, _⟩ := DataW.trod_int Try.underlying2 (h1.trans e1)
    rw [c1] at hz1
    simp at hz1
    subst hz1
    obtain ⟨z2, hz2, _⟩ := DataW.trod_bool Try.underlying4 (h2.trans e2)
    rw [c2] at hz2
    simp at hz2
    subst hz2
    exact ⟨⟨z0, z1, z2⟩, PFnExactAddTry.k33_mk w _, trivial⟩
theorem byval33 {H : Type} {enc : TypeId × Value → H} {w : World} {base b0 : Nat} {r : Reach} {spare : Nat → Bool} {held : Bool} {v : Value} {d : DataW H} {ps : List MemPlace} (hv : Value.okWide Try.prog w r b0 33 v) (h : DataW.Trod enc Try.prog w base spare held 33 v d ps) :
    ∃ (a0 : Int) (a1 : Int) (a2 : Bool), v = .agg #[.int .i64 a0, .int .i64 a1, .bool a2] ∧ (Lit.int .i64 a0).wf = true ∧ (Lit.int .i64 a1).wf = true := by
  obtain ⟨cs, rfl, hsz⟩ := okWide_struct Try.underlying33 hv
  have hc : Try.prog.cellsOf 33 = 3 := by kernel_rfl
  rw [hc] at hsz
  obtain ⟨l⟩ := cs
  match l, hsz with
  | [v0, v1, v2], _ =>
    obtain ⟨fuel, hf0⟩ := h
    obtain ⟨ys, m, _, _, _, hyl, hf⟩ := DataW.trod_struct Try.underlying33 hf0
    replace hyl : ys.length = 3 := hyl
    have h0 : DataW.trod enc Try.prog w base spare held m 2 (((Value.agg ⟨[v0, v1, v2]⟩).cells.toList.drop 0).take (Try.prog.cellsOf 2)) = ys[0]? := hf 0 _ rfl
    have c0 : Try.prog.cellsOf 2 = 1 := by kernel_rfl
    have e0 : ys[0]? = some (ys[0]'(by omega)) := List.getElem?_eq_getElem (by omega)
    have h1 : DataW.trod enc Try.prog w base spare held m 2 (((Value.agg ⟨[v0, v1, v2]⟩).cells.toList.drop 1).take (Try.prog.cellsOf 2)) = ys[1]? := hf 1 _ rfl
    have c1 : Try.prog.cellsOf 2 = 1 := by kernel_rfl
    have e1 : ys[1]? = some (ys[1]'(by omega)) := List.getElem?_eq_getElem (by omega)
    have h2 : DataW.trod enc Try.prog w base spare held m 4 (((Value.agg ⟨[v0, v1, v2]⟩).cells.toList.drop 2).take (Try.prog.cellsOf 4)) = ys[2]? := hf 2 _ rfl
    have c2 : Try.prog.cellsOf 4 = 1 := by kernel_rfl
    have e2 : ys[2]? = some (ys[2]'(by omega)) := List.getElem?_eq_getElem (by omega)
    obtain ⟨z0, hz0, _, hw0⟩ := DataW.trod_int Try.underlying2 (h0.trans e0)
    rw [c0] at hz0
    simp [Value.cells] at hz0
    subst hz0
    obtain ⟨z1, hz1, _, hw1⟩ := DataW.trod_int Try.underlying2 (h1.trans e1)
    rw [c1] at hz1
    simp [Value.cells] at hz1
    subst hz1
    obtain ⟨z2, hz2, _⟩ := DataW.trod_bool Try.underlying4 (h2.trans e2)
    rw [c2] at hz2
    simp [Value.cells] at hz2
    subst hz2
    exact ⟨z0, z1, z2, rfl, hw0, hw1⟩
set_option maxRecDepth 100000 in
theorem lifted (os : Os) (started : os.Started) (H : Type) (enc : TypeId × Value → H) :
    ReturnsInHanded {} Try.checked os 6 .any (Rows.fnExactAddTrySpec.pre6 enc Try.prog Try.f6 Rows.fnExactAddTryRow.domain false) (Rows.fnExactAddTrySpec.post enc Try.prog Try.f6 false true false false) := by
  refine returnsInHanded_of_change_sized (C := Try.checked) own started (by kernel_rfl) Try.func6
    (ChangeSpec.witness6 (enc := enc) (C := Try.checked) false ⟨#[], #[.slice none 0 0, .agg #[.int .i64 0, .int .i64 0, .bool false]], []⟩ 8 (by kernel_rfl) (by kernel_rfl) (by kernel_rfl) (by kernel_rfl)) ?_
  intro W base args ds gs before hval0 hW hcnd hsz0 _
  have hval : ∀ (j : Nat) t v, Try.f6.params[j]? = some t → args[j]? = some v → Value.okWide Try.prog W .any base t v := hval0
  have hW' := hW
  obtain ⟨p, q, hA0, hV, rfl, hfz, hnd⟩ := hW
  have hA : DataW.TrodAll enc Try.prog W 0 (fun _ => true) true Try.f6.params.toList args.toList ds p := hA0
  have hsz : (DataW.weightsEach Try.prog (Try.f6.params.toList ++ Rows.fnExactAddTrySpec.plain.varTypes Try.prog) (ds ++ gs)).all (· ≤ reachBytes) = true := hsz0
  rw [Try.params6] at hA hval hsz
  obtain ⟨v0, vs0, d0, ds0, p0, q0, hargs, rfl, rfl, h0, r0⟩ := trodAll_cons hA
  obtain ⟨v1, vs1, d1, ds1, p1, q1, rfl, rfl, rfl, h1, r1⟩ := trodAll_cons r0
  obtain ⟨rfl, rfl, rfl⟩ := trodAll_nil r1
  obtain rfl : args = #[v0, v1] := by cases args; simp_all
  obtain ⟨rfl, rfl⟩ := trodVars_none hV
  obtain ⟨A0, len0, cap0, rfl⟩ := okWide_slice Try.underlying22 (hval 0 22 v0 rfl rfl)
  have k0 := h0
  have lt0 : ∀ x ∈ p0, x.block < W.heap.size := by obtain ⟨m, hm⟩ := k0; exact DataW.trod_lt m _ _ _ hm
  obtain ⟨l0, hl0, hc0, hr0, _⟩ := open_row (dk := PFnExactAddTry.k33) (G := fun _ => True) Try.underlying22 (by kernel_rfl) (.inl rfl) (elem33) h0
  subst hl0
  have k1 := h1
  have lt1 : ∀ x ∈ p1, x.block < W.heap.size := by obtain ⟨m, hm⟩ := k1; exact DataW.trod_lt m _ _ _ hm
  obtain ⟨a1_0, a1_1, a1_2, rfl, wa1_0, wa1_1⟩ := byval33 (hval 1 33 v1 rfl rfl) h1
  clear hA0 hval0 hsz0 hsz
  refine (PFnExactAddTry.laws_FnExactAddTry.walk Pure.FnExactAddTry A0 cap0 l0 a1_0 a1_1 a1_2 W hr0 hc0 wa1_0 wa1_1).mono fun e W' ⟨he, bel⟩ => ?_
  subst he
  exact ⟨_, rfl, _, _, _, [], _, [], hW', trodAll_mk1 (shut_bool Try.underlying4 _), (trodAll_cons_mk (Below.trod laidOut (by kernel_rfl) (of_decide_eq_true (by kernel_rfl)) k0 bel lt0) (trodAll_cons_mk (Below.trod laidOut (by kernel_rfl) (of_decide_eq_true (by kernel_rfl)) k1 bel lt1) trodAll_mk0)), rfl, bel.frame _, fun h => by cases h⟩
theorem over : Rows.fnExactAddTryRow.holds Try.pinned (OpenSpec.ofChange Rows.fnExactAddTrySpec) :=
  OpenClaim.holds_of_wide 6 Try.f6 rfl rfl rfl rfl rfl rfl rfl ⟨rfl, rfl, rfl, rfl, rfl⟩ rfl rfl rfl rfl rfl (by kernel_rfl) Try.func6 (by kernel_rfl)
    (of_decide_eq_true (by kernel_rfl)) (by unfold Func.isWrapper; first | (rw [if_pos (by decide +kernel)]; kernel_rfl) | (rw [if_neg (by decide +kernel)]; exact ⟨rfl, rfl⟩))
    (fun os started H enc _ => lifted os started H enc)
theorem proved : Rows.FnExactAddTrySaid := over
#print axioms proved
end Go.Proofs.Ythnpffomoaeeoaa.fnExactAddTry
namespace Go.Proofs.Ythnpffomoaeeoaa
/-- The row, under a short name, for the claim. -/
theorem fnExactAddTry_holds : Rows.FnExactAddTrySaid := fnExactAddTry.proved
end Go.Proofs.Ythnpffomoaeeoaa
