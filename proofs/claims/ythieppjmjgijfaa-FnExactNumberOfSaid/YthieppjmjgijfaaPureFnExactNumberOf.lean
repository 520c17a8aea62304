/- The statement over numbers and lists for FnExactNumberOf: the reference and the program answer alike for all arguments. -/
import Derived.Test.YthieppjmjgijfaaXFnExactNumberOf
set_option linter.unusedVariables false
set_option linter.unusedSimpArgs false
namespace Go.Proofs.Ythieppjmjgijfaa.Pure
open Go.RowKit Go.Proofs.Ythieppjmjgijfaa.PFnExactNumberOf Go.Proofs.YthieppjmjgijfaaW.PrintWords Go.Proofs.YthieppjmjgijfaaW.PrintLast Go.Proofs.YthieppjmjgijfaaW.PrintMore
open Go.Proofs.YthieppjmjgijfaaX

theorem w64 {x : Int} (h0 : -9223372036854775808 ≤ x) (h1 : x ≤ 9223372036854775807) : wrap64 x = x := by unfold wrap64; omega
theorem Ev_ite {α : Type} {c : Prop} [Decidable c] {g h : Nat → Option α} {r : α} (h1 : c → Ev g r) (h2 : ¬ c → Ev h r) : Ev (fun k => if c then g k else h k) r := by
  by_cases hc : c
  · obtain ⟨K, hK⟩ := h1 hc
    exact ⟨K, fun k hk => (if_pos hc).trans (hK k hk)⟩
  · obtain ⟨K, hK⟩ := h2 hc
    exact ⟨K, fun k hk => (if_neg hc).trans (hK k hk)⟩
theorem Ev_pos {α : Type} {c : Prop} [Decidable c] {g h : Nat → Option α} {r : α} (hc : c) (h1 : Ev g r) : Ev (fun k => if c then g k else h k) r := Ev_ite (fun _ => h1) (fun n => absurd hc n)
theorem Ev_neg {α : Type} {c : Prop} [Decidable c] {g h : Nat → Option α} {r : α} (hc : ¬ c) (h1 : Ev h r) : Ev (fun k => if c then g k else h k) r := Ev_ite (fun n => absurd n hc) (fun _ => h1)
theorem Ev_some {α : Type} {r q : α} (h : r = q) : Ev (fun _ => some r) q := h ▸ Ev.now r
theorem Ev_eq {α : Type} {g : Nat → Option α} {r q : α} (h : r = q) (k : Ev g r) : Ev g q := h ▸ k
theorem Ev_const {α : Type} {o : Option α} {r : α} (h : o = some r) : Ev (fun _ => o) r := by subst h; exact Ev.now r
theorem Ev_bindc {α β : Type} {o : Option α} {f : Nat → α → Option β} {a : α} {r : β} (h : o = some a) (k : Ev (fun n => f n a) r) : Ev (fun n => o.bind (f n)) r := by subst h; exact k
theorem Ev_unique {α : Type} {g : Nat → Option α} {r q : α} (h : Ev g r) (k : Ev g q) : r = q := by
  obtain ⟨K, h⟩ := h
  obtain ⟨L, k⟩ := k
  have h1 := h (max K L) (by omega)
  have h2 := k (max K L) (by omega)
  rw [h1] at h2
  exact Option.some.inj h2
theorem lit64 {x : Int} (h : (Lit.int .i64 x).wf = true) : -9223372036854775808 ≤ x ∧ x ≤ 9223372036854775807 := by
  have h := h
  simp [Lit.wf, IntKind.min, IntKind.max, IntKind.bits, IntKind.signed] at h
  omega
theorem mn_eq (a b : Int) : mn a b = min a b := by unfold mn; omega
theorem mx_eq (a b : Int) : mx a b = max a b := by unfold mx; omega

theorem within_eq (a lo hi : Int) : impl_within.f a lo hi = some (decide (lo ≤ a ∧ a ≤ hi)) := by
  unfold impl_within.f
  by_cases h : lo ≤ a <;> simp [h]

theorem l01In_eq (a lo hi : Int) : spec_l01In.f a lo hi = some (decide (lo ≤ a ∧ a ≤ hi)) := by
  unfold spec_l01In.f
  by_cases h : a ≥ lo
  · have : lo ≤ a := h
    simp [this]
  · have : ¬ lo ≤ a := h
    simp [this]

theorem numbers_same : ∀ (b0 b1 b2 b3 b4 : Bool) (d : Fin 5), spec_NumberOf.f 10 b0 b1 b2 b3 b4 (d.val : Int) = impl_NumberOf.f b0 b1 b2 b3 b4 (d.val : Int) ∧ (impl_NumberOf.f b0 b1 b2 b3 b4 (d.val : Int)).isSome = true := by decide +kernel
theorem core_FnExactNumberOf (b0 b1 b2 b3 b4 : Bool) (d : Int) (_w : (Lit.int .i64 d).wf = true) : ∃ r1 r2, Ev (fun k => spec_NumberOf.f k b0 b1 b2 b3 b4 d) (r1, r2) ∧ Ev (fun _ => impl_NumberOf.f b0 b1 b2 b3 b4 d) (r1, r2) := by
  by_cases h : 0 ≤ d ∧ d ≤ 4
  · obtain ⟨h1, h2⟩ := numbers_same b0 b1 b2 b3 b4 ⟨d.toNat, by omega⟩
    simp only at h1 h2
    rw [show ((d.toNat : Nat) : Int) = d by omega] at h1 h2
    obtain ⟨⟨r1, r2⟩, hr⟩ := Option.isSome_iff_exists.1 h2
    exact ⟨r1, r2, Ev.of (k := 10) (spec_NumberOf.mono b0 b1 b2 b3 b4 d) (h1.trans hr), Ev_const hr⟩
  · refine ⟨0, 1, ?_, ?_⟩
    · have e : spec_IsSound.f b0 b1 b2 b3 b4 d = some false := by
        unfold spec_IsSound.f
        rw [l01In_eq, decide_eq_false h]
        cases b0 <;> cases b1 <;> cases b2 <;> cases b4 <;> simp
      unfold spec_NumberOf.f
      exact Ev_bindc e (Ev_neg (by decide) (Ev.now _))
    · have e : impl_IsSound.f b0 b1 b2 b3 b4 d = some false := by
        unfold impl_IsSound.f
        rw [within_eq, decide_eq_false h]
        rfl
      unfold impl_NumberOf.f
      exact Ev_bindc e (Ev_neg (by decide) (Ev.now _))

theorem FnExactNumberOf : laws_FnExactNumberOf.Pure := by
  intro a0_0 a0_1 a0_2 a0_3 a0_4 a0_5 wa0_5
  refine ?_
  obtain ⟨z_r1, z_r2, s1, s2⟩ := core_FnExactNumberOf a0_0 a0_1 a0_2 a0_3 a0_4 a0_5  wa0_5
  obtain ⟨K0_, v_s1⟩ := s1
  obtain ⟨K1_, v_s2⟩ := s2
  refine ⟨K0_ + K1_, z_r1, z_r2, ?_⟩
  exact { hvac := rfl, hfspec := v_s1 (K0_ + K1_) (by omega), hfimpl := v_s2 (K0_ + K1_) (by omega) }

end Go.Proofs.Ythieppjmjgijfaa.Pure
