/- The law FnExactShortestInputs: for all arguments it returns true, and each argument reads afterwards as before: the row, from the walk and from the statement over numbers and lists. -/
import Derived.Test.YthieppjmjgijfaaRows
import Derived.Test.YthieppjmjgijfaaXFnExactShortestInputs
import Derived.Test.YthieppjmjgijfaaPureFnExactShortestInputs
import Derived.WalkKit
import Derived.ProofKit
import Derived.OpenShut
import Derived.ShutString
import Derived.ChangeOld
import Derived.Below
import Derived.SizedLaws
namespace Go.Proofs.Ythieppjmjgijfaa.fnExactShortestInputs
open Go.ChangeShapes Go.WideShapes Go.ChangeAt Go.RowKit Go.Proofs.YthieppjmjgijfaaX Go.Proofs.YthieppjmjgijfaaW.PrintWords
open Go.ChangeMaps (open_string shut_string)
set_option linter.unusedVariables false
set_option linter.unusedSimpArgs false
theorem own : ownKnob Try.prog.godebug = none := by kernel_rfl
theorem laidOut : laidOutB Try.prog = true := by kernel_rfl
set_option maxRecDepth 100000 in
theorem byval28 {H : Type} {enc : TypeId × Value → H} {w : World} {base b0 : Nat} {r : Reach} {spare : Nat → Bool} {held : Bool} {v : Value} {d : DataW H} {ps : List MemPlace} (hv : Value.okWide Try.prog w r b0 28 v) (h : DataW.Trod enc Try.prog w base spare held 28 v d ps) :
    ∃ (a0 : Bool) (a1 : Bool) (a2 : Bool) (a3 : Bool) (a4 : Bool) (a5 : Int), v = .agg #[.bool a0, .bool a1, .bool a2, .bool a3, .bool a4, .int .i64 a5] ∧ (Lit.int .i64 a5).wf = true := by
  obtain ⟨cs, rfl, hsz⟩ := okWide_struct Try.underlying28 hv
  have hc : Try.prog.cellsOf 28 = 6 := by kernel_rfl
  rw [hc] at hsz
  obtain ⟨l⟩ := cs
  match l, hsz with
  | [v0, v1, v2, v3, v4, v5], _ =>
    obtain ⟨fuel, hf0⟩ := h
    obtain ⟨ys, m, _, _, _, hyl, hf⟩ := DataW.trod_struct Try.underlying28 hf0
    replace hyl : ys.length = 6 := hyl
    have h0 : DataW.trod enc Try.prog w base spare held m 4 (((Value.agg ⟨[v0, v1, v2, v3, v4, v5]⟩).cells.toList.drop 0).take (Try.prog.cellsOf 4)) = ys[0]? := hf 0 _ rfl
    have c0 : Try.prog.cellsOf 4 = 1 := by kernel_rfl
    have e0 : ys[0]? = some (ys[0]'(by omega)) := List.getElem?_eq_getElem (by omega)
    have h1 : DataW.trod enc Try.prog w base spare held m 4 (((Value.agg ⟨[v0, v1, v2, v3, v4, v5]⟩).cells.toList.drop 1).take (Try.prog.cellsOf 4)) = ys[1]? := hf 1 _ rfl
    have c1 : Try.prog.cellsOf 4 = 1 := by kernel_rfl
    have e1 : ys[1]? = some (ys[1]'(by omega)) := List.getElem?_eq_getElem (by omega)
    have h2 : DataW.trod enc Try.prog w base spare held m 4 (((Value.agg ⟨[v0, v1, v2, v3, v4, v5]⟩).cells.toList.drop 2).take (Try.prog.cellsOf 4)) = ys[2]? := hf 2 _ rfl
    have c2 : Try.prog.cellsOf 4 = 1 := by kernel_rfl
    have e2 : ys[2]? = some (ys[2]'(by omega)) := List.getElem?_eq_getElem (by omega)
    have h3 : DataW.trod enc Try.prog w base spare held m 4 (((Value.agg ⟨[v0, v1, v2, v3, v4, v5]⟩).cells.toList.drop 3).take (Try.prog.cellsOf 4)) = ys[3]? := hf 3 _ rfl
    have c3 : Try.prog.cellsOf 4 = 1 := by kernel_rfl
    have e3 : ys[3]? = some (ys[3]'(by omega)) := List.getElem?_eq_getElem (by omega)
    have h4 : DataW.trod enc Try.prog w base spare held m 4 (((Value.agg ⟨[v0, v1, v2, v3, v4, v5]⟩).cells.toList.drop 4).take (Try.prog.cellsOf 4)) = ys[4]? := hf 4 _ rfl
    have c4 : Try.prog.cellsOf 4 = 1 := by kernel_rfl
    have e4 : ys[4]? = some (ys[4]'(by omega)) := List.getElem?_eq_getElem (by omega)
    have h5 : DataW.trod enc Try.prog w base spare held m 2 (((Value.agg ⟨[v0, v1, v2, v3, v4, v5]⟩).cells.toList.drop 5).take (Try.prog.cellsOf 2)) = ys[5]? := hf 5 _ rfl
    have c5 : Try.prog.cellsOf 2 = 1 := by kernel_rfl
    have e5 : ys[5]? = some (ys[5]'(by omega)) := List.getElem?_eq_getElem (by omega)
    obtain ⟨z0, hz0, _⟩ := DataW.trod_bool Try.underlying4 (h0.trans e0)
    rw [c0] at hz0
    simp [Value.cells] at hz0
    subst hz0
    obtain ⟨z1, hz1, _⟩ := DataW.trod_bool Try.underlying4 (h1.trans e1)
    rw [c1] at hz1
    simp [Value.cells] at hz1
    subst hz1
    obtain ⟨z2, hz2, _⟩ := DataW.trod_bool Try.underlying4 (h2.trans e2)
    rw [c2] at hz2
    simp [Value.cells] at hz2
    subst hz2
    obtain ⟨z3, hz3, _⟩ := DataW.trod_bool Try.underlying4 (h3.trans e3)
    rw [c3] at hz3
    simp [Value.cells] at hz3
    subst hz3
    obtain ⟨z4, hz4, _⟩ := DataW.trod_bool Try.underlying4 (h4.trans e4)
    rw [c4] at hz4
    simp [Value.cells] at hz4
    subst hz4
    obtain ⟨z5, hz5, _, hw5⟩ := DataW.trod_int Try.underlying2 (h5.trans e5)
    rw [c5] at hz5
    simp [Value.cells] at hz5
    subst hz5
    exact ⟨z0, z1, z2, z3, z4, z5, rfl, hw5⟩
theorem elem2 {H : Type} {enc : TypeId × Value → H} {w : World} {base : Nat} {spare : Nat → Bool} {held : Bool} (n : Nat) (cs : List Value) (y : DataW H × List MemPlace) (h : DataW.trod enc Try.prog w base spare held n 2 cs = some y) (_hl : cs.length = Try.prog.cellsOf 2) : ∃ x, (Kd.int .i64).K w x cs ∧ True := by
  obtain ⟨z, hz, _, _⟩ := DataW.trod_int Try.underlying2 h
  exact ⟨z, hz, trivial⟩
set_option maxRecDepth 100000 in
theorem lifted (os : Os) (started : os.Started) (H : Type) (enc : TypeId × Value → H) :
    ReturnsInHanded {} Try.checked os 9 .any (Rows.fnExactShortestInputsSpec.pre6 enc Try.prog Try.f9 Rows.fnExactShortestInputsRow.domain false) (Rows.fnExactShortestInputsSpec.post enc Try.prog Try.f9 false true false false) := by
  refine returnsInHanded_of_change_sized (C := Try.checked) own started (by kernel_rfl) Try.func9
    (ChangeSpec.witness6 (enc := enc) (C := Try.checked) false ⟨#[], #[.agg #[.bool false, .bool false, .bool false, .bool false, .bool false, .int .i64 0], .slice none 0 0, .int .i64 0], []⟩ 8 (by kernel_rfl) (by kernel_rfl) (by kernel_rfl) (by kernel_rfl)) ?_
  intro W base args ds gs before hval0 hW hcnd hsz0 _
  have hval : ∀ (j : Nat) t v, Try.f9.params[j]? = some t → args[j]? = some v → Value.okWide Try.prog W .any base t v := hval0
  have hW' := hW
  obtain ⟨p, q, hA0, hV, rfl, hfz, hnd⟩ := hW
  have hA : DataW.TrodAll enc Try.prog W 0 (fun _ => true) true Try.f9.params.toList args.toList ds p := hA0
  have hsz : (DataW.weightsEach Try.prog (Try.f9.params.toList ++ Rows.fnExactShortestInputsSpec.plain.varTypes Try.prog) (ds ++ gs)).all (· ≤ reachBytes) = true := hsz0
  rw [Try.params9] at hA hval hsz
  obtain ⟨v0, vs0, d0, ds0, p0, q0, hargs, rfl, rfl, h0, r0⟩ := trodAll_cons hA
  obtain ⟨v1, vs1, d1, ds1, p1, q1, rfl, rfl, rfl, h1, r1⟩ := trodAll_cons r0
  obtain ⟨v2, vs2, d2, ds2, p2, q2, rfl, rfl, rfl, h2, r2⟩ := trodAll_cons r1
  obtain ⟨rfl, rfl, rfl⟩ := trodAll_nil r2
  obtain rfl : args = #[v0, v1, v2] := by cases args; simp_all
  obtain ⟨rfl, rfl⟩ := trodVars_none hV
  have k0 := h0
  have lt0 : ∀ x ∈ p0, x.block < W.heap.size := by obtain ⟨m, hm⟩ := k0; exact DataW.trod_lt m _ _ _ hm
  obtain ⟨a0_0, a0_1, a0_2, a0_3, a0_4, a0_5, rfl, wa0_5⟩ := byval28 (hval 0 28 v0 rfl rfl) h0
  obtain ⟨A1, len1, cap1, rfl⟩ := okWide_slice Try.underlying35 (hval 1 35 v1 rfl rfl)
  have k1 := h1
  have lt1 : ∀ x ∈ p1, x.block < W.heap.size := by obtain ⟨m, hm⟩ := k1; exact DataW.trod_lt m _ _ _ hm
  obtain ⟨l1, hl1, hc1, hr1, g1⟩ := open_row (dk := (Kd.int .i64)) (G := fun x => True) Try.underlying35 (by kernel_rfl) (.inl rfl) (elem2) h1
  subst hl1
  obtain ⟨a2, rfl, rfl, rfl, w2⟩ := open_int Try.underlying2 (hval 2 2 v2 rfl rfl) h2
  clear hA0 hval0 hsz0 hsz
  refine (PFnExactShortestInputs.laws_FnExactShortestInputs.walk Pure.FnExactShortestInputs a0_0 a0_1 a0_2 a0_3 a0_4 a0_5 A1 cap1 l1 a2 W hr1 hc1 wa0_5 w2).mono fun e W' ⟨he, bel⟩ => ?_
  subst he
  exact ⟨_, rfl, _, _, _, [], _, [], hW', trodAll_mk1 (shut_bool Try.underlying4 _), (trodAll_cons_mk (Below.trod laidOut (by kernel_rfl) (of_decide_eq_true (by kernel_rfl)) k0 bel lt0) (trodAll_cons_mk (Below.trod laidOut (by kernel_rfl) (of_decide_eq_true (by kernel_rfl)) k1 bel lt1) (trodAll_cons_mk (shut_int Try.underlying2 w2) trodAll_mk0))), rfl, bel.frame _, fun h => by cases h⟩
theorem over : Rows.fnExactShortestInputsRow.holds Try.pinned (OpenSpec.ofChange Rows.fnExactShortestInputsSpec) :=
  OpenClaim.holds_of_wide 9 Try.f9 rfl rfl rfl rfl rfl rfl rfl ⟨rfl, rfl, rfl, rfl, rfl⟩ rfl rfl rfl rfl rfl (by kernel_rfl) Try.func9 (by kernel_rfl)
    (of_decide_eq_true (by kernel_rfl)) (by unfold Func.isWrapper; first | (rw [if_pos (by decide +kernel)]; kernel_rfl) | (rw [if_neg (by decide +kernel)]; exact ⟨rfl, rfl⟩))
    (fun os started H enc _ => lifted os started H enc)
theorem proved : Rows.FnExactShortestInputsSaid := over
#print axioms proved
end Go.Proofs.Ythieppjmjgijfaa.fnExactShortestInputs
namespace Go.Proofs.Ythieppjmjgijfaa
/-- The row, under a short name, for the claim. -/
theorem fnExactShortestInputs_holds : Rows.FnExactShortestInputsSaid := fnExactShortestInputs.proved
end Go.Proofs.Ythieppjmjgijfaa
