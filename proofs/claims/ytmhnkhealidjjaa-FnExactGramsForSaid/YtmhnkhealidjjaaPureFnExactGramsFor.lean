/- The statement over numbers and lists for FnExactGramsFor: the reference and the program answer alike for all arguments. -/
import Derived.Test.YtmhnkhealidjjaaQFnExactGramsForx0
set_option linter.unusedVariables false
set_option linter.unusedSimpArgs false
namespace Go.Proofs.Ytmhnkhealidjjaa.Pure
open Go.RowKit Go.Proofs.Ytmhnkhealidjjaa.PFnExactGramsFor Go.Proofs.YtmhnkhealidjjaaW.PrintWords Go.Proofs.YtmhnkhealidjjaaW.PrintLast Go.Proofs.YtmhnkhealidjjaaW.PrintMore


theorem w64 {x : Int} (h0 : -9223372036854775808 ≤ x) (h1 : x ≤ 9223372036854775807) : wrap64 x = x := by unfold wrap64; omega
theorem Ev_ite {α : Type} {c : Prop} [Decidable c] {g h : Nat → Option α} {r : α} (h1 : c → Ev g r) (h2 : ¬ c → Ev h r) : Ev (fun k => if c then g k else h k) r := by
  by_cases hc : c
  · obtain ⟨K, hK⟩ := h1 hc
    exact ⟨K, fun k hk => (if_pos hc).trans (hK k hk)⟩
  · obtain ⟨K, hK⟩ := h2 hc
    exact ⟨K, fun k hk => (if_neg hc).trans (hK k hk)⟩
theorem Ev_pos {α : Type} {c : Prop} [Decidable c] {g h : Nat → Option α} {r : α} (hc : c) (h1 : Ev g r) : Ev (fun k => if c then g k else h k) r := Ev_ite (fun _ => h1) (fun n => absurd hc n)
theorem Ev_neg {α : Type} {c : Prop} [Decidable c] {g h : Nat → Option α} {r : α} (hc : ¬ c) (h1 : Ev h r) : Ev (fun k => if c then g k else h k) r := Ev_ite (fun n => absurd n hc) (fun _ => h1)
theorem Ev_some {α : Type} {r q : α} (h : r = q) : Ev (fun _ => some r) q := h ▸ Ev.now r
theorem Ev_eq {α : Type} {g : Nat → Option α} {r q : α} (h : r = q) (k : Ev g r) : Ev g q := h ▸ k
theorem Ev_const {α : Type} {o : Option α} {r : α} (h : o = some r) : Ev (fun _ => o) r := by subst h; exact Ev.now r
theorem Ev_bindc {α β : Type} {o : Option α} {f : Nat → α → Option β} {a : α} {r : β} (h : o = some a) (k : Ev (fun n => f n a) r) : Ev (fun n => o.bind (f n)) r := by subst h; exact k
theorem Ev_unique {α : Type} {g : Nat → Option α} {r q : α} (h : Ev g r) (k : Ev g q) : r = q := by
  obtain ⟨K, h⟩ := h
  obtain ⟨L, k⟩ := k
  have h1 := h (max K L) (by omega)
  have h2 := k (max K L) (by omega)
  rw [h1] at h2
  exact Option.some.inj h2
theorem lit64 {x : Int} (h : (Lit.int .i64 x).wf = true) : -9223372036854775808 ≤ x ∧ x ≤ 9223372036854775807 := by
  have h := h
  simp [Lit.wf, IntKind.min, IntKind.max, IntKind.bits, IntKind.signed] at h
  omega
theorem mn_eq (a b : Int) : mn a b = min a b := by unfold mn; omega
theorem mx_eq (a b : Int) : mx a b = max a b := by unfold mx; omega

theorem within_eq (a lo hi : Int) : impl_within.f a lo hi = some (decide (lo ≤ a ∧ a ≤ hi)) := by
  unfold impl_within.f
  by_cases h : lo ≤ a <;> simp [h]

theorem l01In_eq (a lo hi : Int) : spec_l01In.f a lo hi = some (decide (lo ≤ a ∧ a ≤ hi)) := by
  unfold spec_l01In.f
  by_cases h : a ≥ lo
  · have : lo ≤ a := h
    simp [this]
  · have : ¬ lo ≤ a := h
    simp [this]

theorem isFactor_eq (a : Int) : impl_isFactor.f a = some (decide (0 ≤ a ∧ a ≤ 500)) := by
  unfold impl_isFactor.f; rw [within_eq]; rfl
theorem l27Code_eq (a b : Int) : spec_l27Code.f a b = some (if (0 ≤ a ∧ a ≤ 500) ∧ 0 ≤ b ∧ b ≤ 100000000 then 0 else 2) := by
  unfold spec_l27Code.f; rw [l01In_eq, l01In_eq]
  by_cases h1 : 0 ≤ a ∧ a ≤ 500 <;> by_cases h2 : 0 ≤ b ∧ b ≤ 100000000 <;> simp [h1, h2]

theorem sq_le {a b : Int} (h0 : 0 ≤ a) (h : a ≤ b) : 0 ≤ a * a ∧ a * a ≤ b * b := ⟨Int.mul_nonneg h0 h0, Int.mul_le_mul h h h0 (by omega)⟩
theorem cube_le {a b : Int} (h0 : 0 ≤ a) (h : a ≤ b) : 0 ≤ a * a * a ∧ a * a * a ≤ b * b * b := by
  obtain ⟨h1, h2⟩ := sq_le h0 h
  exact ⟨Int.mul_nonneg h1 h0, Int.mul_le_mul h2 h h0 (by omega)⟩
theorem cube_lt {a b : Int} (h0 : 0 ≤ a) (h : a < b) : a * a * a < b * b * b := by
  obtain ⟨h1, h2⟩ := cube_le h0 (show a ≤ b - 1 by omega)
  obtain ⟨c, rfl⟩ : ∃ c, b = c + 1 := ⟨b - 1, by omega⟩
  have e : (c + 1) * (c + 1) * (c + 1) = c * c * c + (3 * (c * c) + 3 * c + 1) := by
    simp only [Int.add_mul, Int.mul_add, Int.mul_one, Int.one_mul]
    omega
  have hc : 0 ≤ c := by omega
  have := Int.mul_nonneg hc hc
  rw [e]
  have e2 : c + 1 - 1 = c := by omega
  rw [e2] at h2
  omega

theorem cubeW {a : Int} (h0 : 0 ≤ a) (h1 : a ≤ 1000000) : wrap64 (wrap64 (a * a) * a) = a * a * a := by
  obtain ⟨h2, h3⟩ := sq_le h0 h1
  obtain ⟨h4, h5⟩ := cube_le h0 h1
  rw [w64 (x := a * a) (by omega) (by omega), w64 (by omega) (by omega)]

theorem l27Cube_eq (a : Int) (h0 : 0 ≤ a) (h1 : a ≤ 1000000) : spec_l27Cube.f a = some (a * a * a) := by
  unfold spec_l27Cube.f; rw [cubeW h0 h1]

/-- What GramsFor answers. -/
def gramsM (f d : Int) : Int := if f = 0 then 100000000 else min 100000000 (d * d * d / (f * f * f))
def gramsForM (f d : Int) : Int × Int := if (0 ≤ f ∧ f ≤ 500) ∧ 0 ≤ d ∧ d ≤ 100000 then (gramsM f d, 0) else (0, 2)
theorem cube_pos {a : Int} (h : 0 < a) : 0 < a * a * a := Int.mul_pos (Int.mul_pos h h) h
theorem quotW {x y : Int} (h0 : 0 ≤ x) (h1 : x ≤ 9223372036854775807) (h2 : 0 < y) : wrap64 (Int.tdiv x y) = x / y := by
  rw [Int.tdiv_eq_ediv_of_nonneg h0]
  have h3 : 0 ≤ x / y := Int.ediv_nonneg h0 (by omega)
  have h4 : x / y ≤ x := Int.ediv_le_self y h0
  exact w64 (by omega) (by omega)
theorem l27Grams_eq (f d : Int) (h0 : 0 ≤ f) (h1 : f ≤ 500) (h2 : 0 ≤ d) (h3 : d ≤ 100000) : spec_l27Grams.f f d = some (gramsM f d) := by
  unfold spec_l27Grams.f gramsM
  by_cases h : f = 0
  · simp [h]
  · have hp := cube_pos (show 0 < f by omega)
    obtain ⟨h4, h5⟩ := cube_le h2 h3
    rw [if_neg h, if_neg h, l27Cube_eq d h2 (by omega), l27Cube_eq f h0 (by omega)]
    simp only [Option.bind_some]
    rw [if_neg (by omega), quotW h4 (by omega) hp, mn_eq]
theorem spec_GramsFor_ev (f d : Int) : Ev (fun k => spec_GramsFor.f k f d) (gramsForM f d) := by
  refine ⟨1, fun k hk => ?_⟩
  obtain ⟨k, rfl⟩ : ∃ m, k = m + 1 := ⟨k - 1, by omega⟩
  simp only [spec_GramsFor.f, gramsForM]
  rw [l27Code_eq, l01In_eq]
  simp only [Option.bind_some, spec_GramsFor.j0]
  by_cases h1 : 0 ≤ f ∧ f ≤ 500 <;> by_cases h2 : 0 ≤ d ∧ d ≤ 100000
  · simp [h1, h2, l27Grams_eq f d h1.1 h1.2 h2.1 h2.2]
  · simp [h1, h2]
  · simp [h1, h2]
  · simp [h1, h2]
theorem impl_GramsFor_ev (f d : Int) : Ev (fun k => impl_GramsFor.f k f d) (gramsForM f d) := by
  refine ⟨1, fun k hk => ?_⟩
  obtain ⟨k, rfl⟩ : ∃ m, k = m + 1 := ⟨k - 1, by omega⟩
  simp only [impl_GramsFor.f, gramsForM, gramsM]
  rw [isFactor_eq, within_eq]
  simp only [Option.bind_some, impl_GramsFor.j0]
  by_cases h1 : 0 ≤ f ∧ f ≤ 500
  · by_cases h2 : 0 ≤ d ∧ d ≤ 100000
    · by_cases h : f = 0
      · simp [h1, h2, h]
      · have hp := cube_pos (show 0 < f by omega)
        obtain ⟨h4, h5⟩ := cube_le h2.1 h2.2
        rw [cubeW h1.1 (by omega), cubeW h2.1 (by omega), quotW h4 (by omega) hp, mn_eq]
        simp only [h1, h2, h, if_neg (show ¬ f * f * f = 0 by omega)]
        simp
    · simp [h1, h2]
  · simp [h1]

theorem FnExactGramsFor : laws_FnExactGramsFor.Pure := by
  intro f d _ _
  refine Ev.rounds ?_
  · unfold laws_FnExactGramsFor.f
    refine Ev.bind (spec_GramsFor_ev f d) (Ev.bind (impl_GramsFor_ev f d) ?_)
    simp only [if_true]
    exact Ev.now _



end Go.Proofs.Ytmhnkhealidjjaa.Pure
