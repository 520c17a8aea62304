/- The law FnExactPaperText: for all arguments it returns true, and each argument reads afterwards as before: the row, from the walk and from the statement over numbers and lists. -/
import Derived.Test.YtnhaacgkjebikaaRows
import Derived.Test.YtnhaacgkjebikaaXFnExactPaperText
import Derived.Test.YtnhaacgkjebikaaPureFnExactPaperText
import Derived.WalkKit
import Derived.ProofKit
import Derived.OpenShut
import Derived.ShutString
import Derived.ChangeOld
import Derived.Below
import Derived.SizedLaws
namespace Go.Proofs.Ytnhaacgkjebikaa.fnExactPaperText
open Go.ChangeShapes Go.WideShapes Go.ChangeAt Go.RowKit Go.Proofs.YtnhaacgkjebikaaX Go.Proofs.YtnhaacgkjebikaaW.PrintWords
open Go.ChangeMaps (open_string shut_string)
set_option linter.unusedVariables false
set_option linter.unusedSimpArgs false
theorem own : ownKnob Try.prog.godebug = none := by kernel_rfl
theorem laidOut : laidOutB Try.prog = true := by kernel_rfl
theorem elem46 {H : Type} {enc : TypeId × Value → H} {w : World} {base : Nat} {spare : Nat → Bool} {held : Bool} (n : Nat) (cs : List Value) (y : DataW H × List MemPlace) (h : DataW.trod enc Try.prog w base spare held n 46 cs = some y) (hl : cs.length = Try.prog.cellsOf 46) : ∃ x, PFnExactPaperText.k46.K w x cs ∧ x.f0.size ≤ maxLen := by
  obtain ⟨ys, m, _, _, _, hyl, hf⟩ := DataW.trod_struct Try.underlying46 h
  have hc : Try.prog.cellsOf 46 = 2 := by kernel_rfl
  rw [hc] at hl
  replace hyl : ys.length = 2 := hyl
  match cs, hl with
  | [v0, v1], _ =>
    have h0 : DataW.trod enc Try.prog w base spare held m 9 (([v0, v1].drop 0).take (Try.prog.cellsOf 9)) = ys[0]? := hf 0 _ rfl
    have c0 : Try.prog.cellsOf 9 = 1 := by kernel_rfl
    have e0 : ys[0]? = some (ys[0]'(by omega)) := List.getElem?_eq_getElem (by omega)
    have h1 : DataW.trod enc Try.prog w base spare held m 2 (([v0, v1].drop 1).take (Try.prog.cellsOf 2)) = ys[1]? := hf 1 _ rfl
    have c1 : Try.prog.cellsOf 2 = 1 := by kernel_rfl
    have e1 : ys[1]? = some (ys[1]'(by omega)) := List.getElem?_eq_getElem (by omega)
    obtain ⟨z0, hz0, _, hw0⟩ := DataW.trod_string Try.underlying9 (h0.trans e0)
    rw [c0] at hz0
    simp at hz0
    subst hz0
    obtain ⟨z1, hz1, _, _⟩ := DataW.trod_int Try.underlying2 (h1.trans e1)
    rw [c1] at hz1
    simp at hz1
    subst hz1
    exact ⟨⟨z0, z1⟩, PFnExactPaperText.k46_mk w _, hw0⟩
set_option maxRecDepth 100000 in
theorem byval24 {H : Type} {enc : TypeId × Value → H} {w : World} {b0 : Nat} {r : Reach} {spare : Nat → Bool} {held : Bool} {v : Value} {d : DataW H} {ps : List MemPlace} (hv : Value.okWide Try.prog w r b0 24 v) (h : DataW.Trod enc Try.prog w 0 spare held 24 v d ps) :
    ∃ (a0 : ByteArray) (a1 : Int) (A2 : Option Addr) (c2 : Nat) (l2 : List PFnExactPaperText.S46), v = .agg #[.string a0, .int .i64 a1, .slice A2 l2.length c2] ∧ (a0.size ≤ maxLen) ∧ ((Lit.int .i64 a1).wf = true) ∧ (l2.length ≤ c2 ∧ Kd.C PFnExactPaperText.k46 w A2 l2.length l2 ∧ ∀ x ∈ l2, x.f0.size ≤ maxLen) := by
  obtain ⟨cs, rfl, hsz⟩ := okWide_struct Try.underlying24 hv
  have hc : Try.prog.cellsOf 24 = 3 := by kernel_rfl
  rw [hc] at hsz
  obtain ⟨l⟩ := cs
  match l, hsz with
  | [v0, v1, v2], _ =>
    obtain ⟨fuel, hf0⟩ := h
    obtain ⟨ys, m, _, _, _, hyl, hf⟩ := DataW.trod_struct Try.underlying24 hf0
    replace hyl : ys.length = 3 := hyl
    have h0 : DataW.trod enc Try.prog w 0 spare held m 9 (((Value.agg ⟨[v0, v1, v2]⟩).cells.toList.drop 0).take (Try.prog.cellsOf 9)) = ys[0]? := hf 0 _ rfl
    have c0 : Try.prog.cellsOf 9 = 1 := by kernel_rfl
    have e0 : ys[0]? = some (ys[0]'(by omega)) := List.getElem?_eq_getElem (by omega)
    have g0 : DataW.trod enc Try.prog w 0 spare held m 9 [v0] = some (ys[0]'(by omega)) := by
      have z_ := h0.trans e0
      rw [c0] at z_
      simpa [Value.cells] using z_
    have h1 : DataW.trod enc Try.prog w 0 spare held m 2 (((Value.agg ⟨[v0, v1, v2]⟩).cells.toList.drop 1).take (Try.prog.cellsOf 2)) = ys[1]? := hf 1 _ rfl
    have c1 : Try.prog.cellsOf 2 = 1 := by kernel_rfl
    have e1 : ys[1]? = some (ys[1]'(by omega)) := List.getElem?_eq_getElem (by omega)
    have g1 : DataW.trod enc Try.prog w 0 spare held m 2 [v1] = some (ys[1]'(by omega)) := by
      have z_ := h1.trans e1
      rw [c1] at z_
      simpa [Value.cells] using z_
    have h2 : DataW.trod enc Try.prog w 0 spare held m 22 (((Value.agg ⟨[v0, v1, v2]⟩).cells.toList.drop 2).take (Try.prog.cellsOf 22)) = ys[2]? := hf 2 _ rfl
    have c2 : Try.prog.cellsOf 22 = 1 := by kernel_rfl
    have e2 : ys[2]? = some (ys[2]'(by omega)) := List.getElem?_eq_getElem (by omega)
    have g2 : DataW.trod enc Try.prog w 0 spare held m 22 [v2] = some (ys[2]'(by omega)) := by
      have z_ := h2.trans e2
      rw [c2] at z_
      simpa [Value.cells] using z_
    obtain ⟨z0, hz0, _, hw0⟩ := DataW.trod_string Try.underlying9 g0
    simp at hz0
    subst hz0
    obtain ⟨z1, hz1, _, hw1⟩ := DataW.trod_int Try.underlying2 g1
    simp at hz1
    subst hz1
    obtain ⟨A2, cp2, l2, hv2, hl2, hC2, hG2⟩ := open_field (dk := PFnExactPaperText.k46) (G := fun x => x.f0.size ≤ maxLen) Try.underlying22 (by kernel_rfl) (.inl rfl) (elem46) g2
    subst hv2
    exact ⟨z0, z1, A2, cp2, l2, rfl, hw0, hw1, ⟨hl2, hC2, hG2⟩⟩
set_option maxRecDepth 100000 in
theorem lifted (os : Os) (started : os.Started) (H : Type) (enc : TypeId × Value → H) :
    ReturnsInHanded {} Try.checked os 4 .any (Rows.fnExactPaperTextSpec.pre6 enc Try.prog Try.f4 Rows.fnExactPaperTextRow.domain false) (Rows.fnExactPaperTextSpec.post enc Try.prog Try.f4 false true false false) := by
  refine returnsInHanded_of_change_sized (C := Try.checked) own started (by kernel_rfl) Try.func4
    (ChangeSpec.witness6 (enc := enc) (C := Try.checked) false ⟨#[], #[.agg #[.string ByteArray.empty, .int .i64 0, .slice none 0 0]], []⟩ 8 (by kernel_rfl) (by kernel_rfl) (by kernel_rfl) (by kernel_rfl)) ?_
  intro W base args ds gs before hval0 hW hcnd hsz0 _
  have hval : ∀ (j : Nat) t v, Try.f4.params[j]? = some t → args[j]? = some v → Value.okWide Try.prog W .any base t v := hval0
  have hW' := hW
  obtain ⟨p, q, hA0, hV, rfl, hfz, hnd⟩ := hW
  have hA : DataW.TrodAll enc Try.prog W 0 (fun _ => true) true Try.f4.params.toList args.toList ds p := hA0
  have hsz : (DataW.weightsEach Try.prog (Try.f4.params.toList ++ Rows.fnExactPaperTextSpec.plain.varTypes Try.prog) (ds ++ gs)).all (· ≤ reachBytes) = true := hsz0
  rw [Try.params4] at hA hval hsz
  obtain ⟨v0, vs0, d0, ds0, p0, q0, hargs, rfl, rfl, h0, r0⟩ := trodAll_cons hA
  obtain ⟨rfl, rfl, rfl⟩ := trodAll_nil r0
  obtain rfl : args = #[v0] := by cases args; simp_all
  obtain ⟨rfl, rfl⟩ := trodVars_none hV
  have k0 := h0
  have lt0 : ∀ x ∈ p0, x.block < W.heap.size := by obtain ⟨m, hm⟩ := k0; exact DataW.trod_lt m _ _ _ hm
  obtain ⟨a0_0, a0_1, A0_2, cap0_2, l0_2, rfl, wa0_0, wa0_1, ⟨hc0_2, hr0_2, g0_2⟩⟩ := byval24 (hval 0 24 v0 rfl rfl) h0
  clear hA0 hval0 hsz0 hsz
  refine (PFnExactPaperText.laws_FnExactPaperText.walk Pure.FnExactPaperText a0_0 a0_1 A0_2 cap0_2 l0_2 W hr0_2 hc0_2 wa0_0 wa0_1 g0_2).mono fun e W' ⟨he, bel⟩ => ?_
  subst he
  exact ⟨_, rfl, _, _, _, [], _, [], hW', trodAll_mk1 (shut_bool Try.underlying4 _), (trodAll_cons_mk (Below.trod laidOut (by kernel_rfl) (of_decide_eq_true (by kernel_rfl)) k0 bel lt0) trodAll_mk0), rfl, bel.frame _, fun h => by cases h⟩
theorem over : Rows.fnExactPaperTextRow.holds Try.pinned (OpenSpec.ofChange Rows.fnExactPaperTextSpec) :=
  OpenClaim.holds_of_wide 4 Try.f4 rfl rfl rfl rfl rfl rfl rfl ⟨rfl, rfl, rfl, rfl, rfl⟩ rfl rfl rfl rfl rfl (by kernel_rfl) Try.func4 (by kernel_rfl)
    (of_decide_eq_true (by kernel_rfl)) (by unfold Func.isWrapper; first | (rw [if_pos (by decide +kernel)]; kernel_rfl) | (rw [if_neg (by decide +kernel)]; exact ⟨rfl, rfl⟩))
    (fun os started H enc _ => lifted os started H enc)
theorem proved : Rows.FnExactPaperTextSaid := over
#print axioms proved
end Go.Proofs.Ytnhaacgkjebikaa.fnExactPaperText
namespace Go.Proofs.Ytnhaacgkjebikaa
/-- The row, under a short name, for the claim. -/
theorem fnExactPaperText_holds : Rows.FnExactPaperTextSaid := fnExactPaperText.proved
end Go.Proofs.Ytnhaacgkjebikaa
