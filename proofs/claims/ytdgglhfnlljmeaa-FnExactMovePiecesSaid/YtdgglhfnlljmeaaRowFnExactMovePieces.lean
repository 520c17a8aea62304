/- The law FnExactMovePieces: for all arguments it returns true, and each argument reads afterwards as before: the row, from the walk and from the statement over numbers and lists. -/
import Derived.Test.YtdgglhfnlljmeaaRows
import Derived.Test.YtdgglhfnlljmeaaXFnExactMovePieces
import Derived.Test.YtdgglhfnlljmeaaPureFnExactMovePieces
import Derived.WalkKit
import Derived.ProofKit
import Derived.OpenShut
import Derived.ShutString
import Derived.ChangeOld
import Derived.Below
import Derived.SizedLaws
namespace Go.Proofs.Ytdgglhfnlljmeaa.fnExactMovePieces
open Go.ChangeShapes Go.WideShapes Go.ChangeAt Go.RowKit Go.Proofs.YtdgglhfnlljmeaaX Go.Proofs.YtdgglhfnlljmeaaW.PrintWords
open Go.ChangeMaps (open_string shut_string)
set_option linter.unusedVariables false
set_option linter.unusedSimpArgs false
theorem own : ownKnob Try.prog.godebug = none := by kernel_rfl
theorem laidOut : laidOutB Try.prog = true := by kernel_rfl
theorem elem62 {H : Type} {enc : TypeId × Value → H} {w : World} {base : Nat} {spare : Nat → Bool} {held : Bool} (n : Nat) (cs : List Value) (y : DataW H × List MemPlace) (h : DataW.trod enc Try.prog w base spare held n 62 cs = some y) (hl : cs.length = Try.prog.cellsOf 62) : ∃ x, PFnExactMovePieces.k62.K w x cs ∧ x.f0.size ≤ maxLen := by
  obtain ⟨ys, m, _, _, _, hyl, hf⟩ := DataW.trod_struct Try.underlying62 h
  have hc : Try.prog.cellsOf 62 = 9 := by kernel_rfl
  rw [hc] at hl
  replace hyl : ys.length = 9 := hyl
  match cs, hl with
  | [v0, v1, v2, v3, v4, v5, v6, v7, v8], _ =>
    have h0 : DataW.trod enc Try.prog w base spare held m 9 (([v0, v1, v2, v3, v4, v5, v6, v7, v8].drop 0).take (Try.prog.cellsOf 9)) = ys[0]? := hf 0 _ rfl
    have c0 : Try.prog.cellsOf 9 = 1 := by kernel_rfl
    have e0 : ys[0]? = some (ys[0]'(by omega)) := List.getElem?_eq_getElem (by omega)
    have h1 : DataW.trod enc Try.prog w base spare held m 2 (([v0, v1, v2, v3, v4, v5, v6, v7, v8].drop 1).take (Try.prog.cellsOf 2)) = ys[1]? := hf 1 _ rfl
    have c1 : Try.prog.cellsOf 2 = 1 := by kernel_rfl
    have e1 : ys[1]? = some (ys[1]'(by omega)) := List.getElem?_eq_getElem (by omega)
    have h2 : DataW.trod enc Try.prog w base spare held m 2 (([v0, v1, v2, v3, v4, v5, v6, v7, v8].drop 2).take (Try.prog.cellsOf 2)) = ys[2]? := hf 2 _ rfl
    have c2 : Try.prog.cellsOf 2 = 1 := by kernel_rfl
    have e2 : ys[2]? = some (ys[2]'(by omega)) := List.getElem?_eq_getElem (by omega)
    have h3 : DataW.trod enc Try.prog w base spare held m 2 (([v0, v1, v2, v3, v4, v5, v6, v7, v8].drop 3).take (Try.prog.cellsOf 2)) = ys[3]? := hf 3 _ rfl
    have c3 : Try.prog.cellsOf 2 = 1 := by kernel_rfl
    have e3 : ys[3]? = some (ys[3]'(by omega)) := List.getElem?_eq_getElem (by omega)
    have h4 : DataW.trod enc Try.prog w base spare held m 2 (([v0, v1, v2, v3, v4, v5, v6, v7, v8].drop 4).take (Try.prog.cellsOf 2)) = ys[4]? := hf 4 _ rfl
    have c4 : Try.prog.cellsOf 2 = 1 := by kernel_rfl
    have e4 : ys[4]? = some (ys[4]'(by omega)) := List.getElem?_eq_getElem (by omega)
    have h5 : DataW.trod enc Try.prog w base spare held m 2 (([v0, v1, v2, v3, v4, v5, v6, v7, v8].drop 5).take (Try.prog.cellsOf 2)) = ys[5]? := hf 5 _ rfl
    have c5 : Try.prog.cellsOf 2 = 1 := by kernel_rfl
    have e5 : ys[5]? = some (ys[5]'(by omega)) := List.getElem?_eq_getElem (by omega)
    have h6 : DataW.trod enc Try.prog w base spare held m 2 (([v0, v1, v2, v3, v4, v5, v6, v7, v8].drop 6).take (Try.prog.cellsOf 2)) = ys[6]? := hf 6 _ rfl
    have c6 : Try.prog.cellsOf 2 = 1 := by kernel_rfl
    have e6 : ys[6]? = some (ys[6]'(by omega)) := List.getElem?_eq_getElem (by omega)
    have h7 : DataW.trod enc Try.prog w base spare held m 2 (([v0, v1, v2, v3, v4, v5, v6, v7, v8].drop 7).take (Try.prog.cellsOf 2)) = ys[7]? := hf 7 _ rfl
    have c7 : Try.prog.cellsOf 2 = 1 := by kernel_rfl
    have e7 : ys[7]? = some (ys[7]'(by omega)) := List.getElem?_eq_getElem (by omega)
    have h8 : DataW.trod enc Try.prog w base spare held m 2 (([v0, v1, v2, v3, v4, v5, v6, v7, v8].drop 8).take (Try.prog.cellsOf 2)) = ys[8]? := hf 8 _ rfl
    have c8 : Try.prog.cellsOf 2 = 1 := by kernel_rfl
    have e8 : ys[8]? = some (ys[8]'(by omega)) := List.getElem?_eq_getElem (by omega)
    obtain ⟨z0, hz0, _, hw0⟩ := DataW.trod_string Try.underlying9 (h0.trans e0)
    rw [c0] at hz0
    simp at hz0
    subst hz0
    obtain ⟨z1, hz1, _, _⟩ := DataW.trod_int Try.underlying2 (h1.trans e1)
    rw [c1] at hz1
    simp at hz1
    subst hz1
    obtain ⟨z2, hz2, _, _⟩ := DataW.trod_int Try.underlying2 (h2.trans e2)
    rw [c2] at hz2
    simp at hz2
    subst hz2
    obtain ⟨z3, hz3, _, _⟩ := DataW.trod_int Try.underlying2 (h3.trans e3)
    rw [c3] at hz3
    simp at hz3
    subst hz3
    obtain ⟨z4, hz4, _, _⟩ := DataW.trod_int Try.underlying2 (h4.trans e4)
    rw [c4] at hz4
    simp at hz4
    subst hz4
    obtain ⟨z5, hz5, _, _⟩ := DataW.trod_int Try.underlying2 (h5.trans e5)
    rw [c5] at hz5
    simp at hz5
    subst hz5
    obtain ⟨z6, hz6, _, _⟩ := DataW.trod_int Try.underlying2 (h6.trans e6)
    rw [c6] at hz6
    simp at hz6
    subst hz6
    obtain ⟨z7, hz7, _, _⟩ := DataW.trod_int Try.underlying2 (h7.trans e7)
    rw [c7] at hz7
    simp at hz7
    subst hz7
    obtain ⟨z8, hz8, _, _⟩ := DataW.trod_int Try.underlying2 (h8.trans e8)
    rw [c8] at hz8
    simp at hz8
    subst hz8
    exact ⟨⟨z0, z1, z2, z3, z4, z5, z6, z7, z8⟩, PFnExactMovePieces.k62_mk w _, hw0⟩
theorem elem2 {H : Type} {enc : TypeId × Value → H} {w : World} {base : Nat} {spare : Nat → Bool} {held : Bool} (n : Nat) (cs : List Value) (y : DataW H × List MemPlace) (h : DataW.trod enc Try.prog w base spare held n 2 cs = some y) (_hl : cs.length = Try.prog.cellsOf 2) : ∃ x, (Kd.int .i64).K w x cs ∧ True := by
  obtain ⟨z, hz, _, _⟩ := DataW.trod_int Try.underlying2 h
  exact ⟨z, hz, trivial⟩
set_option maxRecDepth 100000 in
theorem byval25 {H : Type} {enc : TypeId × Value → H} {w : World} {b0 : Nat} {r : Reach} {spare : Nat → Bool} {held : Bool} {v : Value} {d : DataW H} {ps : List MemPlace} (hv : Value.okWide Try.prog w r b0 25 v) (h : DataW.Trod enc Try.prog w 0 spare held 25 v d ps) :
    ∃ (a0 : Int) (A1 : Option Addr) (c1 : Nat) (l1 : List Int), v = .agg #[.int .i64 a0, .slice A1 l1.length c1] ∧ ((Lit.int .i64 a0).wf = true) ∧ (l1.length ≤ c1 ∧ Kd.C (Kd.int .i64) w A1 l1.length l1 ∧ ∀ x ∈ l1, True) := by
  obtain ⟨cs, rfl, hsz⟩ := okWide_struct Try.underlying25 hv
  have hc : Try.prog.cellsOf 25 = 2 := by kernel_rfl
  rw [hc] at hsz
  obtain ⟨l⟩ := cs
  match l, hsz with
  | [v0, v1], _ =>
    obtain ⟨fuel, hf0⟩ := h
    obtain ⟨ys, m, _, _, _, hyl, hf⟩ := DataW.trod_struct Try.underlying25 hf0
    replace hyl : ys.length = 2 := hyl
    have h0 : DataW.trod enc Try.prog w 0 spare held m 2 (((Value.agg ⟨[v0, v1]⟩).cells.toList.drop 0).take (Try.prog.cellsOf 2)) = ys[0]? := hf 0 _ rfl
    have c0 : Try.prog.cellsOf 2 = 1 := by kernel_rfl
    have e0 : ys[0]? = some (ys[0]'(by omega)) := List.getElem?_eq_getElem (by omega)
    have g0 : DataW.trod enc Try.prog w 0 spare held m 2 [v0] = some (ys[0]'(by omega)) := by
      have z_ := h0.trans e0
      rw [c0] at z_
      simpa [Value.cells] using z_
    have h1 : DataW.trod enc Try.prog w 0 spare held m 23 (((Value.agg ⟨[v0, v1]⟩).cells.toList.drop 1).take (Try.prog.cellsOf 23)) = ys[1]? := hf 1 _ rfl
    have c1 : Try.prog.cellsOf 23 = 1 := by kernel_rfl
    have e1 : ys[1]? = some (ys[1]'(by omega)) := List.getElem?_eq_getElem (by omega)
    have g1 : DataW.trod enc Try.prog w 0 spare held m 23 [v1] = some (ys[1]'(by omega)) := by
      have z_ := h1.trans e1
      rw [c1] at z_
      simpa [Value.cells] using z_
    obtain ⟨z0, hz0, _, hw0⟩ := DataW.trod_int Try.underlying2 g0
    simp at hz0
    subst hz0
    obtain ⟨A1, cp1, l1, hv1, hl1, hC1, hG1⟩ := open_field (dk := (Kd.int .i64)) (G := fun x => True) Try.underlying23 (by kernel_rfl) (.inl rfl) (elem2) g1
    subst hv1
    exact ⟨z0, A1, cp1, l1, rfl, hw0, ⟨hl1, hC1, hG1⟩⟩
theorem sized_row {H : Type} {enc : TypeId × Value → H} {P : Program} {W : World} {base : Nat} {spare : Nat → Bool} {held : Bool} {t e : TypeId} {a : Option Addr} {len cap : Nat} {d : DataW H} {ps : List MemPlace} {ts : List TypeId} {ds : List (DataW H)} {j : Nat}
    (hsz : (DataW.weightsEach P ts ds).all (· ≤ reachBytes) = true) (ht : ts[j]? = some t) (hd : ds[j]? = some d) (hu : P.underlying t = some (.slice e)) (hB : 0 < P.bytesOf e) (h : DataW.Trod enc P W base spare held t (.slice a len cap) d ps) : len ≤ 140737488351232 := by
  obtain ⟨fuel, hf⟩ := h
  rcases Go.Deep.open_slice hu hf with ⟨hcs, _⟩ | ⟨x, l, c, m, n, D, Pl, hcs, _, hl, _, hm, hx, _⟩
  · simp [Value.cells] at hcs
    obtain ⟨rfl, rfl, rfl⟩ := hcs
    omega
  · simp [Value.cells] at hcs
    obtain ⟨rfl, rfl, rfl⟩ := hcs
    obtain ⟨hx, _⟩ := Prod.mk.inj hx
    subst hx
    have z := sized_slice hsz ht hd hu
    simp only [List.length_map, List.length_range] at z
    have h1 : len * 1 ≤ (len + (m - len)) * P.bytesOf e := Nat.mul_le_mul (by omega) hB
    have h2 : reachBytes = 140737488351232 := by decide
    omega
set_option maxRecDepth 100000 in
theorem lifted (os : Os) (started : os.Started) (H : Type) (enc : TypeId × Value → H) :
    ReturnsInHanded {} Try.checked os 3 .any (Rows.fnExactMovePiecesSpec.pre6 enc Try.prog Try.f3 Rows.fnExactMovePiecesRow.domain false) (Rows.fnExactMovePiecesSpec.post enc Try.prog Try.f3 false true false false) := by
  refine returnsInHanded_of_change_sized (C := Try.checked) own started (by kernel_rfl) Try.func3
    (ChangeSpec.witness6 (enc := enc) (C := Try.checked) false ⟨#[], #[.slice none 0 0, .agg #[.int .i64 0, .slice none 0 0], .agg #[.int .i64 0, .slice none 0 0], .string ByteArray.empty, .int .i64 0], []⟩ 8 (by kernel_rfl) (by kernel_rfl) (by kernel_rfl) (by kernel_rfl)) ?_
  intro W base args ds gs before hval0 hW hcnd hsz0 _
  have hval : ∀ (j : Nat) t v, Try.f3.params[j]? = some t → args[j]? = some v → Value.okWide Try.prog W .any base t v := hval0
  have hW' := hW
  obtain ⟨p, q, hA0, hV, rfl, hfz, hnd⟩ := hW
  have hA : DataW.TrodAll enc Try.prog W 0 (fun _ => true) true Try.f3.params.toList args.toList ds p := hA0
  have hsz : (DataW.weightsEach Try.prog (Try.f3.params.toList ++ Rows.fnExactMovePiecesSpec.plain.varTypes Try.prog) (ds ++ gs)).all (· ≤ reachBytes) = true := hsz0
  rw [Try.params3] at hA hval hsz
  obtain ⟨v0, vs0, d0, ds0, p0, q0, hargs, rfl, rfl, h0, r0⟩ := trodAll_cons hA
  obtain ⟨v1, vs1, d1, ds1, p1, q1, rfl, rfl, rfl, h1, r1⟩ := trodAll_cons r0
  obtain ⟨v2, vs2, d2, ds2, p2, q2, rfl, rfl, rfl, h2, r2⟩ := trodAll_cons r1
  obtain ⟨v3, vs3, d3, ds3, p3, q3, rfl, rfl, rfl, h3, r3⟩ := trodAll_cons r2
  obtain ⟨v4, vs4, d4, ds4, p4, q4, rfl, rfl, rfl, h4, r4⟩ := trodAll_cons r3
  obtain ⟨rfl, rfl, rfl⟩ := trodAll_nil r4
  obtain rfl : args = #[v0, v1, v2, v3, v4] := by cases args; simp_all
  obtain ⟨rfl, rfl⟩ := trodVars_none hV
  obtain ⟨A0, len0, cap0, rfl⟩ := okWide_slice Try.underlying22 (hval 0 22 v0 rfl rfl)
  have k0 := h0
  have wl0 := sized_row hsz (j := 0) (t := 22) rfl rfl Try.underlying22 (by decide +kernel) h0
  have lt0 : ∀ x ∈ p0, x.block < W.heap.size := by obtain ⟨m, hm⟩ := k0; exact DataW.trod_lt m _ _ _ hm
  obtain ⟨l0, hl0, hc0, hr0, g0⟩ := open_row (dk := PFnExactMovePieces.k62) (G := fun x => x.f0.size ≤ maxLen) Try.underlying22 (by kernel_rfl) (.inl rfl) (elem62) h0
  subst hl0
  have k1 := h1
  have lt1 : ∀ x ∈ p1, x.block < W.heap.size := by obtain ⟨m, hm⟩ := k1; exact DataW.trod_lt m _ _ _ hm
  obtain ⟨a1_0, A1_1, cap1_1, l1_1, rfl, wa1_0, ⟨hc1_1, hr1_1, g1_1⟩⟩ := byval25 (hval 1 25 v1 rfl rfl) h1
  have k2 := h2
  have lt2 : ∀ x ∈ p2, x.block < W.heap.size := by obtain ⟨m, hm⟩ := k2; exact DataW.trod_lt m _ _ _ hm
  obtain ⟨a2_0, A2_1, cap2_1, l2_1, rfl, wa2_0, ⟨hc2_1, hr2_1, g2_1⟩⟩ := byval25 (hval 2 25 v2 rfl rfl) h2
  have k3 := h3
  have lt3 : ∀ x ∈ p3, x.block < W.heap.size := by obtain ⟨m, hm⟩ := k3; exact DataW.trod_lt m _ _ _ hm
  obtain ⟨a3, rfl, rfl, rfl, w3⟩ := open_string Try.underlying9 (hval 3 9 v3 rfl rfl) h3
  have wz3 : a3.size ≤ 140737488351232 := by have z := sized_string hsz (j := 3) (t := 9) rfl rfl; rw [Array.length_toList] at z; exact z
  obtain ⟨a4, rfl, rfl, rfl, w4⟩ := open_int Try.underlying2 (hval 4 2 v4 rfl rfl) h4
  clear hA0 hval0 hsz0 hsz
  refine (PFnExactMovePieces.laws_FnExactMovePieces.walk Pure.FnExactMovePieces A0 cap0 l0 a1_0 A1_1 cap1_1 l1_1 a2_0 A2_1 cap2_1 l2_1 a3 a4 W hr0 hc0 hr1_1 hc1_1 hr2_1 hc2_1 wa1_0 wa2_0 wz3 w4 g0 wl0).mono fun e W' ⟨he, bel⟩ => ?_
  subst he
  exact ⟨_, rfl, _, _, _, [], _, [], hW', trodAll_mk1 (shut_bool Try.underlying4 _), (trodAll_cons_mk (Below.trod laidOut (by kernel_rfl) (of_decide_eq_true (by kernel_rfl)) k0 bel lt0) (trodAll_cons_mk (Below.trod laidOut (by kernel_rfl) (of_decide_eq_true (by kernel_rfl)) k1 bel lt1) (trodAll_cons_mk (Below.trod laidOut (by kernel_rfl) (of_decide_eq_true (by kernel_rfl)) k2 bel lt2) (trodAll_cons_mk (Below.trod laidOut (by kernel_rfl) (of_decide_eq_true (by kernel_rfl)) k3 bel lt3) (trodAll_cons_mk (shut_int Try.underlying2 w4) trodAll_mk0))))), rfl, bel.frame _, fun h => by cases h⟩
theorem over : Rows.fnExactMovePiecesRow.holds Try.pinned (OpenSpec.ofChange Rows.fnExactMovePiecesSpec) :=
  OpenClaim.holds_of_wide 3 Try.f3 rfl rfl rfl rfl rfl rfl rfl ⟨rfl, rfl, rfl, rfl, rfl⟩ rfl rfl rfl rfl rfl (by kernel_rfl) Try.func3 (by kernel_rfl)
    (of_decide_eq_true (by kernel_rfl)) (by unfold Func.isWrapper; first | (rw [if_pos (by decide +kernel)]; kernel_rfl) | (rw [if_neg (by decide +kernel)]; exact ⟨rfl, rfl⟩))
    (fun os started H enc _ => lifted os started H enc)
theorem proved : Rows.FnExactMovePiecesSaid := over
#print axioms proved
end Go.Proofs.Ytdgglhfnlljmeaa.fnExactMovePieces
namespace Go.Proofs.Ytdgglhfnlljmeaa
/-- The row, under a short name, for the claim. -/
theorem fnExactMovePieces_holds : Rows.FnExactMovePiecesSaid := fnExactMovePieces.proved
end Go.Proofs.Ytdgglhfnlljmeaa
