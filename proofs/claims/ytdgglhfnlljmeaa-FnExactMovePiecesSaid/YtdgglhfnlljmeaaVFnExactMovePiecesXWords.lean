/- Words that the law FnExactMovePieces uses (turned from the printed words XWords). -/
import Derived.Test.YtdgglhfnlljmeaaVFnExactMovePiecesMore
import Derived.Test.YtdgglhfnlljmeaaVFnExactMovePiecesSized
import Derived.Deep.Slices
import Derived.Deep.Fields
import Derived.ChangeSame
import Derived.ChangeArms
import Derived.OpenShut
set_option linter.unusedVariables false
set_option linter.unusedSimpArgs false
namespace Go.Proofs.YtdgglhfnlljmeaaX
open Go.RowKit Go.Proofs.YtdgglhfnlljmeaaW.PrintWords Go.Proofs.YtdgglhfnlljmeaaW.PrintLast Go.Proofs.YtdgglhfnlljmeaaW.PrintMore Go.ChangeShapes Go.WideShapes Go.Deep
def LenOr {α : Type} (n m : Nat) (r : List α) : Prop := n = m ∨ r = [] ∧ n = 0
theorem LenOr.same {α : Type} (m : Nat) (r : List α) : LenOr m m r := .inl rfl
theorem LenOr.nil {α : Type} (m : Nat) : LenOr 0 m ([] : List α) := .inr ⟨rfl, rfl⟩
theorem LenOr.full {α : Type} {n m k : Nat} {r : List α} (h : LenOr n m r) (hk : k = m) (hr : ¬ r = []) : n = k := by
  rcases h with h | ⟨h, _⟩
  · exact h.trans hk.symm
  · exact absurd h hr
theorem LenOr.bare {α : Type} {n m k : Nat} {r : List α} (h : LenOr n m r) (hk : k = m) (hr : r = [] → m = 0) : n = k := by
  rcases h with h | ⟨h1, h2⟩
  · exact h.trans hk.symm
  · exact h2.trans ((hr h1).symm.trans hk.symm)
section
variable {P : Program}
theorem cut_cap (t e : TypeId) (kh : IntKind) {i : TypeInfo} (ht : P.underlying t = some (.slice e)) (hi : P.info? e = some i) (A : Option Addr) (n c m : Nat) (j : Int) (hj : j = (m : Int)) (hc : m ≤ c) :
    ∀ W : World, (Instr.slice t (.slice A n c) none (some (.int kh j)) none).run P W = .ok (.slice A m c) W := by
  intro W
  subst hj
  have hel : P.elem t = e := by simp [Program.elem, ht]
  have hu : P.underlying t = some (.slice (P.elem t)) := by rw [hel]; exact ht
  have ha : (A.map fun x => x.add 0) = A := by cases A <;> simp [Addr.add]
  rw [run_slice_h W t A n c hu kh (m : Int) (by omega) (by omega), hel]
  simp [sizeOf, typeInfo, hi, sliced, Result.andThen, ha]
end
section
variable {α : Type} {d : Kd α} {e base : Nat} {ok : Nat → Prop} {W W' : World} {v : Value} {xs : List α}
theorem R_span (h : d.R e W' W.heap.size ok v xs) : d.R e W' W.heap.size (fun k => W.heap.size ≤ k ∧ k < W'.heap.size) v xs := Kd.R_mono (Kd.R_bound h) (fun k hk => ⟨hk.2.1, hk.2.2.1⟩)
theorem R_near (h : d.R e W' W.heap.size ok v xs) : d.R e W' W.heap.size (fun k => (W.heap.size ≤ k ∧ k < W'.heap.size) ∧ ok k) v xs := Kd.R_mono (Kd.R_bound h) (fun k hk => ⟨⟨hk.2.1, hk.2.2.1⟩, hk.1⟩)
theorem R_own (hE : d.E = []) (h : d.R e W' W.heap.size ok v xs) : d.R e W' W.heap.size (fun k => (W.heap.size ≤ k ∧ k < W'.heap.size) ∧ some k = v.ownBlock) v xs := Kd.R_reok hE h (fun k e_ => ⟨((R_near h).1 k e_).1, e_.symm⟩)
theorem C_ext {A : Option Addr} {ys : List α} (h : d.C W A ys.length ys) (hx : xs = ys.take xs.length) (hl : xs.length ≤ ys.length) : d.C W A xs.length xs := by
  have := Kd.C_take h hl
  rw [← hx] at this
  exact this
theorem R_ext {A : Option Addr} {c : Nat} {ys : List α} (h : d.R e W base ok (.slice A ys.length c) ys) (hx : xs = ys.take xs.length) (hl : xs.length ≤ ys.length) : d.R e W base ok (.slice A xs.length c) xs := by
  have := Kd.R_take h hl
  rw [← hx] at this
  exact this
end
theorem below_keep {a b : World} {p : Addr} {v : Value} (B : Below a.heap.size a b) (h : a.cell? p = some v) : b.cell? p = some v := (B.cell (World.block_lt_of_cell? a _ h)).trans h
theorem kept_set (w : World) (g j : Nat) (v : Value) : Kept w (w.setCell ⟨g, j, none⟩ v) (fun k => k = g) :=
  ⟨by rw [World.size_setCell]; exact Nat.le_refl _, fun i _ hn => Below.heap_setCell w _ v i hn⟩
theorem list_of {α : Type} {n : Nat} {p : Nat → α → Prop} (h : ∀ i, i < n → ∃ x, p i x) : ∃ xs : List α, xs.length = n ∧ ∀ (j : Nat) (x : α), xs[j]? = some x → p j x := by
  induction n with
  | zero => exact ⟨[], rfl, fun j x hj => by simp at hj⟩
  | succ n ih =>
    obtain ⟨xs, hl, hx⟩ := ih (fun i hi => h i (Nat.lt_succ_of_lt hi))
    obtain ⟨y, hy⟩ := h n (Nat.lt_succ_self n)
    refine ⟨xs ++ [y], by simp [hl], fun j x hj => ?_⟩
    by_cases hjn : j < n
    · rw [List.getElem?_append_left (by omega)] at hj
      exact hx j x hj
    · rw [List.getElem?_append_right (by omega)] at hj
      have hj0 : j - xs.length = 0 := by
        rcases Nat.eq_zero_or_pos (j - xs.length) with h0 | h0
        · exact h0
        · obtain ⟨m, hm⟩ : ∃ m, j - xs.length = m + 1 := ⟨j - xs.length - 1, by omega⟩
          rw [hm] at hj
          simp at hj
      rw [hj0] at hj
      simp at hj
      subst hj
      have : j = n := by omega
      subst this
      exact hy
section
variable {H : Type} {enc : TypeId × Value → H} {P : Program} {w : World} {base : Nat} {spare : Nat → Bool} {held : Bool}
theorem open_row {α : Type} {dk : Kd α} {G : α → Prop} {t e : TypeId} {a : Option Addr} {len cap : Nat} {dd : DataW H} {ps : List MemPlace} (ht : P.underlying t = some (.slice e)) (hsz : dk.sz = P.cellsOf e) (hb : base = 0 ∨ base ≤ w.heap.size)
    (hel : ∀ (n : Nat) (cs : List Value) (y : DataW H × List MemPlace), DataW.trod enc P w base spare held n e cs = some y → cs.length = P.cellsOf e → ∃ x, dk.K w x cs ∧ G x)
    (h : DataW.Trod enc P w base spare held t (.slice a len cap) dd ps) :
    ∃ xs : List α, xs.length = len ∧ len ≤ cap ∧ dk.C w a len xs ∧ ∀ x ∈ xs, G x := by
  obtain ⟨fuel, hf⟩ := h
  rcases open_slice ht hf with ⟨hcs, _⟩ | ⟨ad, l, c, m, n, D, Pl, hcs, _, hl, hm, hmm, _, hi⟩
  · simp [Value.cells] at hcs
    obtain ⟨rfl, rfl, rfl⟩ := hcs
    exact ⟨[], rfl, Nat.le_refl _, Kd.C_nil dk w, fun x hx => by simp at hx⟩
  · simp [Value.cells] at hcs
    obtain ⟨rfl, rfl, rfl⟩ := hcs
    have hlm : len ≤ m := by rw [hmm]; split <;> omega
    obtain ⟨xs, hxl, hx⟩ := list_of (n := len) (p := fun i x => G x ∧ ∃ cs, cs.length = dk.sz ∧ dk.K w x cs ∧ ∀ j u, cs[j]? = some u → w.cell? (ad.add (i * dk.sz + j)) = some u) (fun i hil => by
      obtain ⟨cs', hc, ht'⟩ := hi i (by omega)
      obtain ⟨_, hcl, hat⟩ := World.cells?_some hc
      obtain ⟨x, hk, hg⟩ := hel n cs' _ ht' hcl
      refine ⟨x, hg, cs', hcl.trans hsz.symm, hk, fun j u hu => ?_⟩
      have hj : j < cs'.length := (List.getElem?_eq_some_iff.1 hu).1
      have := hat (i := j) (by omega)
      rw [← hsz, Go.Deep.add_add] at this
      exact this.trans hu)
    refine ⟨xs, hxl, hl, ⟨hxl, by unfold maxLen at hm; omega, fun hp => ⟨ad, rfl, fun j p hj => (hx j p hj).2⟩⟩, fun x hxm => ?_⟩
    obtain ⟨j, hj⟩ := List.mem_iff_getElem?.1 hxm
    exact (hx j x hj).1
theorem open_field {α : Type} {dk : Kd α} {G : α → Prop} {t e : TypeId} {v : Value} {fuel : Nat} {x : DataW H × List MemPlace} (ht : P.underlying t = some (.slice e)) (hsz : dk.sz = P.cellsOf e) (hb : base = 0 ∨ base ≤ w.heap.size)
    (hel : ∀ (n : Nat) (cs : List Value) (y : DataW H × List MemPlace), DataW.trod enc P w base spare held n e cs = some y → cs.length = P.cellsOf e → ∃ x, dk.K w x cs ∧ G x)
    (h : DataW.trod enc P w base spare held fuel t [v] = some x) :
    ∃ (a : Option Addr) (cap : Nat) (xs : List α), v = .slice a xs.length cap ∧ xs.length ≤ cap ∧ dk.C w a xs.length xs ∧ ∀ x ∈ xs, G x := by
  have hs : ∃ a l c, v = .slice a l c := by
    rcases open_slice ht h with ⟨hcs, _⟩ | ⟨ad, l, c, m, n, D, Pl, hcs, _⟩
    · simp at hcs; exact ⟨_, _, _, hcs⟩
    · simp at hcs; exact ⟨_, _, _, hcs⟩
  obtain ⟨a, l, c, rfl⟩ := hs
  have h' : DataW.Trod enc P w base spare held t (.slice a l c) x.1 x.2 := ⟨fuel, by simpa [Value.cells] using h⟩
  obtain ⟨xs, hl, hc, hr, hg⟩ := open_row ht hsz hb hel h'
  subst hl
  exact ⟨a, c, xs, rfl, hc, hr, hg⟩
end
end Go.Proofs.YtdgglhfnlljmeaaX
