/- The statement over numbers and lists for FnExactSeparationFor: the reference and the program answer alike for all arguments. -/
import Derived.Test.YtmhnkhealidjjaaPFnExactSeparationForx1
set_option linter.unusedVariables false
set_option linter.unusedSimpArgs false
namespace Go.Proofs.Ytmhnkhealidjjaa.Pure
open Go.RowKit Go.Proofs.Ytmhnkhealidjjaa.PFnExactSeparationFor Go.Proofs.YtmhnkhealidjjaaW.PrintWords Go.Proofs.YtmhnkhealidjjaaW.PrintLast Go.Proofs.YtmhnkhealidjjaaW.PrintMore

theorem w64 {x : Int} (h0 : -9223372036854775808 ≤ x) (h1 : x ≤ 9223372036854775807) : wrap64 x = x := by unfold wrap64; omega
theorem Ev_ite {α : Type} {c : Prop} [Decidable c] {g h : Nat → Option α} {r : α} (h1 : c → Ev g r) (h2 : ¬ c → Ev h r) : Ev (fun k => if c then g k else h k) r := by
  by_cases hc : c
  · obtain ⟨K, hK⟩ := h1 hc
    exact ⟨K, fun k hk => (if_pos hc).trans (hK k hk)⟩
  · obtain ⟨K, hK⟩ := h2 hc
    exact ⟨K, fun k hk => (if_neg hc).trans (hK k hk)⟩
theorem Ev_pos {α : Type} {c : Prop} [Decidable c] {g h : Nat → Option α} {r : α} (hc : c) (h1 : Ev g r) : Ev (fun k => if c then g k else h k) r := Ev_ite (fun _ => h1) (fun n => absurd hc n)
theorem Ev_neg {α : Type} {c : Prop} [Decidable c] {g h : Nat → Option α} {r : α} (hc : ¬ c) (h1 : Ev h r) : Ev (fun k => if c then g k else h k) r := Ev_ite (fun n => absurd n hc) (fun _ => h1)
theorem Ev_some {α : Type} {r q : α} (h : r = q) : Ev (fun _ => some r) q := h ▸ Ev.now r
theorem Ev_eq {α : Type} {g : Nat → Option α} {r q : α} (h : r = q) (k : Ev g r) : Ev g q := h ▸ k
theorem Ev_const {α : Type} {o : Option α} {r : α} (h : o = some r) : Ev (fun _ => o) r := by subst h; exact Ev.now r
theorem Ev_bindc {α β : Type} {o : Option α} {f : Nat → α → Option β} {a : α} {r : β} (h : o = some a) (k : Ev (fun n => f n a) r) : Ev (fun n => o.bind (f n)) r := by subst h; exact k
theorem Ev_unique {α : Type} {g : Nat → Option α} {r q : α} (h : Ev g r) (k : Ev g q) : r = q := by
  obtain ⟨K, h⟩ := h
  obtain ⟨L, k⟩ := k
  have h1 := h (max K L) (by omega)
  have h2 := k (max K L) (by omega)
  rw [h1] at h2
  exact Option.some.inj h2
theorem lit64 {x : Int} (h : (Lit.int .i64 x).wf = true) : -9223372036854775808 ≤ x ∧ x ≤ 9223372036854775807 := by
  have h := h
  simp [Lit.wf, IntKind.min, IntKind.max, IntKind.bits, IntKind.signed] at h
  omega
theorem mn_eq (a b : Int) : mn a b = min a b := by unfold mn; omega
theorem mx_eq (a b : Int) : mx a b = max a b := by unfold mx; omega

theorem within_eq (a lo hi : Int) : impl_within.f a lo hi = some (decide (lo ≤ a ∧ a ≤ hi)) := by
  unfold impl_within.f
  by_cases h : lo ≤ a <;> simp [h]

theorem l01In_eq (a lo hi : Int) : spec_l01In.f a lo hi = some (decide (lo ≤ a ∧ a ≤ hi)) := by
  unfold spec_l01In.f
  by_cases h : a ≥ lo
  · have : lo ≤ a := h
    simp [this]
  · have : ¬ lo ≤ a := h
    simp [this]

theorem isFactor_eq (a : Int) : impl_isFactor.f a = some (decide (0 ≤ a ∧ a ≤ 500)) := by
  unfold impl_isFactor.f; rw [within_eq]; rfl
theorem l27Code_eq (a b : Int) : spec_l27Code.f a b = some (if (0 ≤ a ∧ a ≤ 500) ∧ 0 ≤ b ∧ b ≤ 100000000 then 0 else 2) := by
  unfold spec_l27Code.f; rw [l01In_eq, l01In_eq]
  by_cases h1 : 0 ≤ a ∧ a ≤ 500 <;> by_cases h2 : 0 ≤ b ∧ b ≤ 100000000 <;> simp [h1, h2]

theorem areGrams_eq (a : Int) : impl_areGrams.f a = some (decide (0 ≤ a ∧ a ≤ 100000000)) := by
  unfold impl_areGrams.f; rw [within_eq]; rfl

theorem sq_le {a b : Int} (h0 : 0 ≤ a) (h : a ≤ b) : 0 ≤ a * a ∧ a * a ≤ b * b := ⟨Int.mul_nonneg h0 h0, Int.mul_le_mul h h h0 (by omega)⟩
theorem cube_le {a b : Int} (h0 : 0 ≤ a) (h : a ≤ b) : 0 ≤ a * a * a ∧ a * a * a ≤ b * b * b := by
  obtain ⟨h1, h2⟩ := sq_le h0 h
  exact ⟨Int.mul_nonneg h1 h0, Int.mul_le_mul h2 h h0 (by omega)⟩
theorem cube_lt {a b : Int} (h0 : 0 ≤ a) (h : a < b) : a * a * a < b * b * b := by
  obtain ⟨h1, h2⟩ := cube_le h0 (show a ≤ b - 1 by omega)
  obtain ⟨c, rfl⟩ : ∃ c, b = c + 1 := ⟨b - 1, by omega⟩
  have e : (c + 1) * (c + 1) * (c + 1) = c * c * c + (3 * (c * c) + 3 * c + 1) := by
    simp only [Int.add_mul, Int.mul_add, Int.mul_one, Int.one_mul]
    omega
  have hc : 0 ≤ c := by omega
  have := Int.mul_nonneg hc hc
  rw [e]
  have e2 : c + 1 - 1 = c := by omega
  rw [e2] at h2
  omega

theorem cubeW {a : Int} (h0 : 0 ≤ a) (h1 : a ≤ 1000000) : wrap64 (wrap64 (a * a) * a) = a * a * a := by
  obtain ⟨h2, h3⟩ := sq_le h0 h1
  obtain ⟨h4, h5⟩ := cube_le h0 h1
  rw [w64 (x := a * a) (by omega) (by omega), w64 (by omega) (by omega)]

def IsSep (c r : Int) : Prop := 0 ≤ r ∧ r ≤ 300000 ∧ c ≤ r * r * r ∧ (r = 0 ∨ (r - 1) * (r - 1) * (r - 1) < c)
theorem IsSep.same {c r q : Int} (h : IsSep c r) (k : IsSep c q) : r = q := by
  obtain ⟨h0, h1, h2, h3⟩ := h
  obtain ⟨k0, k1, k2, k3⟩ := k
  rcases Int.lt_trichotomy r q with hlt | heq | hgt
  · exfalso
    have := (cube_le h0 (show r ≤ q - 1 by omega)).2
    omega
  · exact heq
  · exfalso
    have := (cube_le k0 (show q ≤ r - 1 by omega)).2
    omega
noncomputable def sepM (c : Int) : Int := open Classical in if h : ∃ r, IsSep c r then h.choose else 0
theorem sepM_eq {c r : Int} (h : IsSep c r) : sepM c = r := by
  have hx : ∃ r, IsSep c r := ⟨r, h⟩
  unfold sepM
  rw [dif_pos hx]
  exact IsSep.same hx.choose_spec h
theorem half {x : Int} (h0 : 0 ≤ x) (h1 : x ≤ 1000000) : wrap64 (Int.tdiv (wrap64 x) 2) = x / 2 := by
  rw [w64 (x := x) (by omega) (by omega), Int.tdiv_eq_ediv_of_nonneg h0]
  exact w64 (by omega) (by omega)
theorem impl_sep_loop (c : Int) (hc : c ≤ 300000 * 300000 * 300000) (d : Nat) : ∀ (k : Nat) (lo hi : Int), 0 ≤ lo → lo ≤ hi → hi ≤ 300000 → (hi - lo).toNat ≤ d → d < k → (lo = 0 ∨ (lo - 1) * (lo - 1) * (lo - 1) < c) → c ≤ hi * hi * hi →
    ∃ r, impl_separation.l0 k c lo hi = some r ∧ IsSep c r := by
  induction d with
  | zero =>
    intro k lo hi h0 h1 h2 hd hk hl hh
    obtain ⟨k, rfl⟩ : ∃ m, k = m + 1 := ⟨k - 1, by omega⟩
    obtain rfl : lo = hi := by omega
    refine ⟨lo, ?_, h0, h2, hh, hl⟩
    simp only [impl_separation.l0]
    rw [if_neg (by omega)]
  | succ d ih =>
    intro k lo hi h0 h1 h2 hd hk hl hh
    obtain ⟨k, rfl⟩ : ∃ m, k = m + 1 := ⟨k - 1, by omega⟩
    by_cases hlt : lo < hi
    · simp only [impl_separation.l0]
      rw [if_pos hlt, half (by omega) (by omega)]
      rw [cubeW (by omega) (by omega)]
      by_cases hge : (lo + hi) / 2 * ((lo + hi) / 2) * ((lo + hi) / 2) ≥ c
      · rw [if_pos hge]
        exact ih k lo ((lo + hi) / 2) h0 (by omega) (by omega) (by omega) (by omega) hl hge
      · rw [if_neg hge, w64 (by omega) (by omega)]
        refine ih k ((lo + hi) / 2 + 1) hi (by omega) (by omega) h2 (by omega) (by omega) (.inr ?_) hh
        rw [show (lo + hi) / 2 + 1 - 1 = (lo + hi) / 2 by omega]
        omega
    · obtain rfl : lo = hi := by omega
      refine ⟨lo, ?_, h0, h2, hh, hl⟩
      simp only [impl_separation.l0]
      rw [if_neg hlt]
theorem need_bound {f g : Int} (h0 : 0 ≤ f) (h1 : f ≤ 500) (h2 : 0 ≤ g) (h3 : g ≤ 100000000) : 0 ≤ f * f * f * g ∧ f * f * f * g ≤ 12500000000000000 := by
  obtain ⟨h4, h5⟩ := cube_le h0 h1
  exact ⟨Int.mul_nonneg h4 h2, Int.le_trans (Int.mul_le_mul h5 h3 h2 (by omega)) (by omega)⟩
theorem needW {f g : Int} (h0 : 0 ≤ f) (h1 : f ≤ 500) (h2 : 0 ≤ g) (h3 : g ≤ 100000000) : wrap64 (wrap64 (wrap64 (f * f) * f) * g) = f * f * f * g := by
  obtain ⟨h4, h5⟩ := need_bound h0 h1 h2 h3
  rw [cubeW h0 (by omega)]
  exact w64 (by omega) (by omega)
theorem isSep_sepM {f g : Int} (h0 : 0 ≤ f) (h1 : f ≤ 500) (h2 : 0 ≤ g) (h3 : g ≤ 100000000) : IsSep (f * f * f * g) (sepM (f * f * f * g)) := by
  obtain ⟨h4, h5⟩ := need_bound h0 h1 h2 h3
  obtain ⟨r, _, hr⟩ := impl_sep_loop (f * f * f * g) (by omega) 300000 300001 0 300000 (by omega) (by omega) (by omega) (by omega) (by omega) (.inl rfl) (by omega)
  rw [sepM_eq hr]
  exact hr
theorem impl_separation_ev (f g : Int) (h0 : 0 ≤ f) (h1 : f ≤ 500) (h2 : 0 ≤ g) (h3 : g ≤ 100000000) : Ev (fun k => impl_separation.f k f g) (sepM (f * f * f * g)) := by
  obtain ⟨h4, h5⟩ := need_bound h0 h1 h2 h3
  refine ⟨300001, fun k hk => ?_⟩
  obtain ⟨r, hr, hs⟩ := impl_sep_loop (f * f * f * g) (by omega) 300000 k 0 300000 (by omega) (by omega) (by omega) (by omega) (by omega) (.inl rfl) (by omega)
  simp only [impl_separation.f]
  rw [needW h0 h1 h2 h3, hr, sepM_eq hs]

theorem l27Cube_eq (a : Int) (h0 : 0 ≤ a) (h1 : a ≤ 1000000) : spec_l27Cube.f a = some (a * a * a) := by
  unfold spec_l27Cube.f; rw [cubeW h0 h1]

noncomputable def sepForM (f g : Int) : Int × Int := open Classical in if (0 ≤ f ∧ f ≤ 500) ∧ 0 ≤ g ∧ g ≤ 100000000 then (sepM (f * f * f * g), 0) else (0, 2)
theorem impl_SeparationFor_ev (f g : Int) : Ev (fun k => impl_SeparationFor.f k f g) (sepForM f g) := by
  unfold impl_SeparationFor.f sepForM
  rw [isFactor_eq, areGrams_eq]
  simp only [Option.bind_some, decide_eq_true_eq]
  refine Ev_ite (fun h1 => Ev_ite (fun h2 => ?_) (fun h2 => ?_)) (fun h1 => ?_)
  · rw [if_pos ⟨h1, h2⟩]
    exact Ev.bind (impl_separation_ev f g h1.1 h1.2 h2.1 h2.2) (Ev.now _)
  · rw [if_neg (fun h => h2 h.2)]; exact Ev.now _
  · rw [if_neg (fun h => h1 h.1)]; exact Ev.now _
theorem spec_need_loop (f g : Int) (h0 : 0 ≤ f) (h1 : f ≤ 500) (h2 : 0 ≤ g) (h3 : g ≤ 100000000) (d : Nat) : ∀ (k : Nat) (lo hi : Int), -1 ≤ lo → lo < hi → hi ≤ 300000 → (hi - lo).toNat ≤ d → d < k → (lo = -1 ∨ (0 ≤ lo ∧ lo * lo * lo < f * f * f * g)) → f * f * f * g ≤ hi * hi * hi →
    ∃ r, spec_l27Need.l0 k f g lo hi = some r ∧ IsSep (f * f * f * g) r := by
  obtain ⟨hb1, hb2⟩ := need_bound h0 h1 h2 h3
  induction d with
  | zero => intro k lo hi _ _ _ hd; omega
  | succ d ih =>
    intro k lo hi hl0 hlt hh hd hk hl hc
    obtain ⟨k, rfl⟩ : ∃ m, k = m + 1 := ⟨k - 1, by omega⟩
    simp only [spec_l27Need.l0]
    rw [w64 (x := lo + 1) (by omega) (by omega)]
    by_cases h : lo + 1 < hi
    · have hm : 0 ≤ (lo + hi) / 2 ∧ (lo + hi) / 2 ≤ 300000 ∧ lo < (lo + hi) / 2 ∧ (lo + hi) / 2 < hi := by omega
      rw [if_pos h, half (by omega) (by omega), l27Cube_eq _ hm.1 (by omega), l27Cube_eq f h0 (by omega)]
      simp only [Option.bind_some]
      rw [w64 (x := f * f * f * g) (by omega) (by omega)]
      by_cases hge : (lo + hi) / 2 * ((lo + hi) / 2) * ((lo + hi) / 2) ≥ f * f * f * g
      · rw [if_pos hge]
        exact ih k lo ((lo + hi) / 2) hl0 (by omega) (by omega) (by omega) (by omega) hl hge
      · rw [if_neg hge]
        exact ih k ((lo + hi) / 2) hi (by omega) (by omega) (by omega) (by omega) (by omega) (.inr ⟨hm.1, by omega⟩) hc
    · rw [if_neg h]
      refine ⟨hi, rfl, by omega, hh, hc, ?_⟩
      rcases hl with rfl | ⟨ha, hb⟩
      · exact .inl (by omega)
      · refine .inr ?_
        rw [show hi - 1 = lo by omega]
        exact hb
theorem spec_l27Need_ev (f g : Int) (h0 : 0 ≤ f) (h1 : f ≤ 500) (h2 : 0 ≤ g) (h3 : g ≤ 100000000) : Ev (fun k => spec_l27Need.f k f g) (sepM (f * f * f * g)) := by
  obtain ⟨hb1, hb2⟩ := need_bound h0 h1 h2 h3
  refine ⟨300002, fun k hk => ?_⟩
  obtain ⟨r, hr, hs⟩ := spec_need_loop f g h0 h1 h2 h3 300001 k (-1) 300000 (by omega) (by omega) (by omega) (by omega) (by omega) (.inl rfl) (by omega)
  simp only [spec_l27Need.f]
  rw [hr, sepM_eq hs]
theorem spec_SeparationFor_ev (f g : Int) : Ev (fun k => spec_SeparationFor.f k f g) (sepForM f g) := by
  unfold spec_SeparationFor.f sepForM
  rw [l27Code_eq]
  simp only [Option.bind_some]
  by_cases h : (0 ≤ f ∧ f ≤ 500) ∧ 0 ≤ g ∧ g ≤ 100000000
  · rw [if_pos h, if_pos h]
    exact Ev_pos rfl (Ev.bind (spec_l27Need_ev f g h.1.1 h.1.2 h.2.1 h.2.2) (Ev.now _))
  · rw [if_neg h, if_neg h]
    exact Ev_neg (by decide) (Ev.now _)

theorem FnExactSeparationFor : laws_FnExactSeparationFor.Pure := by
  intro f g _ _
  refine Ev.rounds ?_
  · unfold laws_FnExactSeparationFor.f
    refine Ev.bind (spec_SeparationFor_ev f g) (Ev.bind (impl_SeparationFor_ev f g) ?_)
    simp only [if_true]
    exact Ev.now _

end Go.Proofs.Ytmhnkhealidjjaa.Pure
