/- The statement over numbers and lists for FnSeparations: the reference and the program answer alike for all arguments. -/
import Derived.Test.YtmhnkhealidjjaaQFnSeparationsx2
set_option linter.unusedVariables false
set_option linter.unusedSimpArgs false
namespace Go.Proofs.Ytmhnkhealidjjaa.Pure
open Go.RowKit Go.Proofs.Ytmhnkhealidjjaa.PFnSeparations Go.Proofs.YtmhnkhealidjjaaW.PrintWords Go.Proofs.YtmhnkhealidjjaaW.PrintLast Go.Proofs.YtmhnkhealidjjaaW.PrintMore


theorem w64 {x : Int} (h0 : -9223372036854775808 ≤ x) (h1 : x ≤ 9223372036854775807) : wrap64 x = x := by unfold wrap64; omega
theorem Ev_ite {α : Type} {c : Prop} [Decidable c] {g h : Nat → Option α} {r : α} (h1 : c → Ev g r) (h2 : ¬ c → Ev h r) : Ev (fun k => if c then g k else h k) r := by
  by_cases hc : c
  · obtain ⟨K, hK⟩ := h1 hc
    exact ⟨K, fun k hk => (if_pos hc).trans (hK k hk)⟩
  · obtain ⟨K, hK⟩ := h2 hc
    exact ⟨K, fun k hk => (if_neg hc).trans (hK k hk)⟩
theorem Ev_pos {α : Type} {c : Prop} [Decidable c] {g h : Nat → Option α} {r : α} (hc : c) (h1 : Ev g r) : Ev (fun k => if c then g k else h k) r := Ev_ite (fun _ => h1) (fun n => absurd hc n)
theorem Ev_neg {α : Type} {c : Prop} [Decidable c] {g h : Nat → Option α} {r : α} (hc : ¬ c) (h1 : Ev h r) : Ev (fun k => if c then g k else h k) r := Ev_ite (fun n => absurd n hc) (fun _ => h1)
theorem Ev_some {α : Type} {r q : α} (h : r = q) : Ev (fun _ => some r) q := h ▸ Ev.now r
theorem Ev_eq {α : Type} {g : Nat → Option α} {r q : α} (h : r = q) (k : Ev g r) : Ev g q := h ▸ k
theorem Ev_const {α : Type} {o : Option α} {r : α} (h : o = some r) : Ev (fun _ => o) r := by subst h; exact Ev.now r
theorem Ev_bindc {α β : Type} {o : Option α} {f : Nat → α → Option β} {a : α} {r : β} (h : o = some a) (k : Ev (fun n => f n a) r) : Ev (fun n => o.bind (f n)) r := by subst h; exact k
theorem Ev_unique {α : Type} {g : Nat → Option α} {r q : α} (h : Ev g r) (k : Ev g q) : r = q := by
  obtain ⟨K, h⟩ := h
  obtain ⟨L, k⟩ := k
  have h1 := h (max K L) (by omega)
  have h2 := k (max K L) (by omega)
  rw [h1] at h2
  exact Option.some.inj h2
theorem lit64 {x : Int} (h : (Lit.int .i64 x).wf = true) : -9223372036854775808 ≤ x ∧ x ≤ 9223372036854775807 := by
  have h := h
  simp [Lit.wf, IntKind.min, IntKind.max, IntKind.bits, IntKind.signed] at h
  omega
theorem mn_eq (a b : Int) : mn a b = min a b := by unfold mn; omega
theorem mx_eq (a b : Int) : mx a b = max a b := by unfold mx; omega

theorem within_eq (a lo hi : Int) : impl_within.f a lo hi = some (decide (lo ≤ a ∧ a ≤ hi)) := by
  unfold impl_within.f
  by_cases h : lo ≤ a <;> simp [h]

theorem l01In_eq (a lo hi : Int) : spec_l01In.f a lo hi = some (decide (lo ≤ a ∧ a ≤ hi)) := by
  unfold spec_l01In.f
  by_cases h : a ≥ lo
  · have : lo ≤ a := h
    simp [this]
  · have : ¬ lo ≤ a := h
    simp [this]

theorem isFactor_eq (a : Int) : impl_isFactor.f a = some (decide (0 ≤ a ∧ a ≤ 500)) := by
  unfold impl_isFactor.f; rw [within_eq]; rfl
theorem l27Code_eq (a b : Int) : spec_l27Code.f a b = some (if (0 ≤ a ∧ a ≤ 500) ∧ 0 ≤ b ∧ b ≤ 100000000 then 0 else 2) := by
  unfold spec_l27Code.f; rw [l01In_eq, l01In_eq]
  by_cases h1 : 0 ≤ a ∧ a ≤ 500 <;> by_cases h2 : 0 ≤ b ∧ b ≤ 100000000 <;> simp [h1, h2]

theorem areGrams_eq (a : Int) : impl_areGrams.f a = some (decide (0 ≤ a ∧ a ≤ 100000000)) := by
  unfold impl_areGrams.f; rw [within_eq]; rfl

theorem sq_le {a b : Int} (h0 : 0 ≤ a) (h : a ≤ b) : 0 ≤ a * a ∧ a * a ≤ b * b := ⟨Int.mul_nonneg h0 h0, Int.mul_le_mul h h h0 (by omega)⟩
theorem cube_le {a b : Int} (h0 : 0 ≤ a) (h : a ≤ b) : 0 ≤ a * a * a ∧ a * a * a ≤ b * b * b := by
  obtain ⟨h1, h2⟩ := sq_le h0 h
  exact ⟨Int.mul_nonneg h1 h0, Int.mul_le_mul h2 h h0 (by omega)⟩
theorem cube_lt {a b : Int} (h0 : 0 ≤ a) (h : a < b) : a * a * a < b * b * b := by
  obtain ⟨h1, h2⟩ := cube_le h0 (show a ≤ b - 1 by omega)
  obtain ⟨c, rfl⟩ : ∃ c, b = c + 1 := ⟨b - 1, by omega⟩
  have e : (c + 1) * (c + 1) * (c + 1) = c * c * c + (3 * (c * c) + 3 * c + 1) := by
    simp only [Int.add_mul, Int.mul_add, Int.mul_one, Int.one_mul]
    omega
  have hc : 0 ≤ c := by omega
  have := Int.mul_nonneg hc hc
  rw [e]
  have e2 : c + 1 - 1 = c := by omega
  rw [e2] at h2
  omega

theorem cubeW {a : Int} (h0 : 0 ≤ a) (h1 : a ≤ 1000000) : wrap64 (wrap64 (a * a) * a) = a * a * a := by
  obtain ⟨h2, h3⟩ := sq_le h0 h1
  obtain ⟨h4, h5⟩ := cube_le h0 h1
  rw [w64 (x := a * a) (by omega) (by omega), w64 (by omega) (by omega)]

def IsSep (c r : Int) : Prop := 0 ≤ r ∧ r ≤ 300000 ∧ c ≤ r * r * r ∧ (r = 0 ∨ (r - 1) * (r - 1) * (r - 1) < c)
theorem IsSep.same {c r q : Int} (h : IsSep c r) (k : IsSep c q) : r = q := by
  obtain ⟨h0, h1, h2, h3⟩ := h
  obtain ⟨k0, k1, k2, k3⟩ := k
  rcases Int.lt_trichotomy r q with hlt | heq | hgt
  · exfalso
    have := (cube_le h0 (show r ≤ q - 1 by omega)).2
    omega
  · exact heq
  · exfalso
    have := (cube_le k0 (show q ≤ r - 1 by omega)).2
    omega
noncomputable def sepM (c : Int) : Int := open Classical in if h : ∃ r, IsSep c r then h.choose else 0
theorem sepM_eq {c r : Int} (h : IsSep c r) : sepM c = r := by
  have hx : ∃ r, IsSep c r := ⟨r, h⟩
  unfold sepM
  rw [dif_pos hx]
  exact IsSep.same hx.choose_spec h
theorem half {x : Int} (h0 : 0 ≤ x) (h1 : x ≤ 1000000) : wrap64 (Int.tdiv (wrap64 x) 2) = x / 2 := by
  rw [w64 (x := x) (by omega) (by omega), Int.tdiv_eq_ediv_of_nonneg h0]
  exact w64 (by omega) (by omega)
theorem impl_sep_loop (c : Int) (hc : c ≤ 300000 * 300000 * 300000) (d : Nat) : ∀ (k : Nat) (lo hi : Int), 0 ≤ lo → lo ≤ hi → hi ≤ 300000 → (hi - lo).toNat ≤ d → d < k → (lo = 0 ∨ (lo - 1) * (lo - 1) * (lo - 1) < c) → c ≤ hi * hi * hi →
    ∃ r, impl_separation.l0 k c lo hi = some r ∧ IsSep c r := by
  induction d with
  | zero =>
    intro k lo hi h0 h1 h2 hd hk hl hh
    obtain ⟨k, rfl⟩ : ∃ m, k = m + 1 := ⟨k - 1, by omega⟩
    obtain rfl : lo = hi := by omega
    refine ⟨lo, ?_, h0, h2, hh, hl⟩
    simp only [impl_separation.l0]
    rw [if_neg (by omega)]
  | succ d ih =>
    intro k lo hi h0 h1 h2 hd hk hl hh
    obtain ⟨k, rfl⟩ : ∃ m, k = m + 1 := ⟨k - 1, by omega⟩
    by_cases hlt : lo < hi
    · simp only [impl_separation.l0]
      rw [if_pos hlt, half (by omega) (by omega)]
      rw [cubeW (by omega) (by omega)]
      by_cases hge : (lo + hi) / 2 * ((lo + hi) / 2) * ((lo + hi) / 2) ≥ c
      · rw [if_pos hge]
        exact ih k lo ((lo + hi) / 2) h0 (by omega) (by omega) (by omega) (by omega) hl hge
      · rw [if_neg hge, w64 (by omega) (by omega)]
        refine ih k ((lo + hi) / 2 + 1) hi (by omega) (by omega) h2 (by omega) (by omega) (.inr ?_) hh
        rw [show (lo + hi) / 2 + 1 - 1 = (lo + hi) / 2 by omega]
        omega
    · obtain rfl : lo = hi := by omega
      refine ⟨lo, ?_, h0, h2, hh, hl⟩
      simp only [impl_separation.l0]
      rw [if_neg hlt]
theorem need_bound {f g : Int} (h0 : 0 ≤ f) (h1 : f ≤ 500) (h2 : 0 ≤ g) (h3 : g ≤ 100000000) : 0 ≤ f * f * f * g ∧ f * f * f * g ≤ 12500000000000000 := by
  obtain ⟨h4, h5⟩ := cube_le h0 h1
  exact ⟨Int.mul_nonneg h4 h2, Int.le_trans (Int.mul_le_mul h5 h3 h2 (by omega)) (by omega)⟩
theorem needW {f g : Int} (h0 : 0 ≤ f) (h1 : f ≤ 500) (h2 : 0 ≤ g) (h3 : g ≤ 100000000) : wrap64 (wrap64 (wrap64 (f * f) * f) * g) = f * f * f * g := by
  obtain ⟨h4, h5⟩ := need_bound h0 h1 h2 h3
  rw [cubeW h0 (by omega)]
  exact w64 (by omega) (by omega)
theorem isSep_sepM {f g : Int} (h0 : 0 ≤ f) (h1 : f ≤ 500) (h2 : 0 ≤ g) (h3 : g ≤ 100000000) : IsSep (f * f * f * g) (sepM (f * f * f * g)) := by
  obtain ⟨h4, h5⟩ := need_bound h0 h1 h2 h3
  obtain ⟨r, _, hr⟩ := impl_sep_loop (f * f * f * g) (by omega) 300000 300001 0 300000 (by omega) (by omega) (by omega) (by omega) (by omega) (.inl rfl) (by omega)
  rw [sepM_eq hr]
  exact hr
theorem impl_separation_ev (f g : Int) (h0 : 0 ≤ f) (h1 : f ≤ 500) (h2 : 0 ≤ g) (h3 : g ≤ 100000000) : Ev (fun k => impl_separation.f k f g) (sepM (f * f * f * g)) := by
  obtain ⟨h4, h5⟩ := need_bound h0 h1 h2 h3
  refine ⟨300001, fun k hk => ?_⟩
  obtain ⟨r, hr, hs⟩ := impl_sep_loop (f * f * f * g) (by omega) 300000 k 0 300000 (by omega) (by omega) (by omega) (by omega) (by omega) (.inl rfl) (by omega)
  simp only [impl_separation.f]
  rw [needW h0 h1 h2 h3, hr, sepM_eq hs]

theorem l27Cube_eq (a : Int) (h0 : 0 ≤ a) (h1 : a ≤ 1000000) : spec_l27Cube.f a = some (a * a * a) := by
  unfold spec_l27Cube.f; rw [cubeW h0 h1]

noncomputable def sepForM (f g : Int) : Int × Int := open Classical in if (0 ≤ f ∧ f ≤ 500) ∧ 0 ≤ g ∧ g ≤ 100000000 then (sepM (f * f * f * g), 0) else (0, 2)
theorem impl_SeparationFor_ev (f g : Int) : Ev (fun k => impl_SeparationFor.f k f g) (sepForM f g) := by
  unfold impl_SeparationFor.f sepForM
  rw [isFactor_eq, areGrams_eq]
  simp only [Option.bind_some, decide_eq_true_eq]
  refine Ev_ite (fun h1 => Ev_ite (fun h2 => ?_) (fun h2 => ?_)) (fun h1 => ?_)
  · rw [if_pos ⟨h1, h2⟩]
    exact Ev.bind (impl_separation_ev f g h1.1 h1.2 h2.1 h2.2) (Ev.now _)
  · rw [if_neg (fun h => h2 h.2)]; exact Ev.now _
  · rw [if_neg (fun h => h1 h.1)]; exact Ev.now _
theorem spec_need_loop (f g : Int) (h0 : 0 ≤ f) (h1 : f ≤ 500) (h2 : 0 ≤ g) (h3 : g ≤ 100000000) (d : Nat) : ∀ (k : Nat) (lo hi : Int), -1 ≤ lo → lo < hi → hi ≤ 300000 → (hi - lo).toNat ≤ d → d < k → (lo = -1 ∨ (0 ≤ lo ∧ lo * lo * lo < f * f * f * g)) → f * f * f * g ≤ hi * hi * hi →
    ∃ r, spec_l27Need.l0 k f g lo hi = some r ∧ IsSep (f * f * f * g) r := by
  obtain ⟨hb1, hb2⟩ := need_bound h0 h1 h2 h3
  induction d with
  | zero => intro k lo hi _ _ _ hd; omega
  | succ d ih =>
    intro k lo hi hl0 hlt hh hd hk hl hc
    obtain ⟨k, rfl⟩ : ∃ m, k = m + 1 := ⟨k - 1, by omega⟩
    simp only [spec_l27Need.l0]
    rw [w64 (x := lo + 1) (by omega) (by omega)]
    by_cases h : lo + 1 < hi
    · have hm : 0 ≤ (lo + hi) / 2 ∧ (lo + hi) / 2 ≤ 300000 ∧ lo < (lo + hi) / 2 ∧ (lo + hi) / 2 < hi := by omega
      rw [if_pos h, half (by omega) (by omega), l27Cube_eq _ hm.1 (by omega), l27Cube_eq f h0 (by omega)]
      simp only [Option.bind_some]
      rw [w64 (x := f * f * f * g) (by omega) (by omega)]
      by_cases hge : (lo + hi) / 2 * ((lo + hi) / 2) * ((lo + hi) / 2) ≥ f * f * f * g
      · rw [if_pos hge]
        exact ih k lo ((lo + hi) / 2) hl0 (by omega) (by omega) (by omega) (by omega) hl hge
      · rw [if_neg hge]
        exact ih k ((lo + hi) / 2) hi (by omega) (by omega) (by omega) (by omega) (by omega) (.inr ⟨hm.1, by omega⟩) hc
    · rw [if_neg h]
      refine ⟨hi, rfl, by omega, hh, hc, ?_⟩
      rcases hl with rfl | ⟨ha, hb⟩
      · exact .inl (by omega)
      · refine .inr ?_
        rw [show hi - 1 = lo by omega]
        exact hb
theorem spec_l27Need_ev (f g : Int) (h0 : 0 ≤ f) (h1 : f ≤ 500) (h2 : 0 ≤ g) (h3 : g ≤ 100000000) : Ev (fun k => spec_l27Need.f k f g) (sepM (f * f * f * g)) := by
  obtain ⟨hb1, hb2⟩ := need_bound h0 h1 h2 h3
  refine ⟨300002, fun k hk => ?_⟩
  obtain ⟨r, hr, hs⟩ := spec_need_loop f g h0 h1 h2 h3 300001 k (-1) 300000 (by omega) (by omega) (by omega) (by omega) (by omega) (.inl rfl) (by omega)
  simp only [spec_l27Need.f]
  rw [hr, sepM_eq hs]
theorem spec_SeparationFor_ev (f g : Int) : Ev (fun k => spec_SeparationFor.f k f g) (sepForM f g) := by
  unfold spec_SeparationFor.f sepForM
  rw [l27Code_eq]
  simp only [Option.bind_some]
  by_cases h : (0 ≤ f ∧ f ≤ 500) ∧ 0 ≤ g ∧ g ≤ 100000000
  · rw [if_pos h, if_pos h]
    exact Ev_pos rfl (Ev.bind (spec_l27Need_ev f g h.1.1 h.1.2 h.2.1 h.2.2) (Ev.now _))
  · rw [if_neg h, if_neg h]
    exact Ev_neg (by decide) (Ev.now _)

/-- What GramsFor answers. -/
def gramsM (f d : Int) : Int := if f = 0 then 100000000 else min 100000000 (d * d * d / (f * f * f))
def gramsForM (f d : Int) : Int × Int := if (0 ≤ f ∧ f ≤ 500) ∧ 0 ≤ d ∧ d ≤ 100000 then (gramsM f d, 0) else (0, 2)
theorem cube_pos {a : Int} (h : 0 < a) : 0 < a * a * a := Int.mul_pos (Int.mul_pos h h) h
theorem quotW {x y : Int} (h0 : 0 ≤ x) (h1 : x ≤ 9223372036854775807) (h2 : 0 < y) : wrap64 (Int.tdiv x y) = x / y := by
  rw [Int.tdiv_eq_ediv_of_nonneg h0]
  have h3 : 0 ≤ x / y := Int.ediv_nonneg h0 (by omega)
  have h4 : x / y ≤ x := Int.ediv_le_self y h0
  exact w64 (by omega) (by omega)
theorem l27Grams_eq (f d : Int) (h0 : 0 ≤ f) (h1 : f ≤ 500) (h2 : 0 ≤ d) (h3 : d ≤ 100000) : spec_l27Grams.f f d = some (gramsM f d) := by
  unfold spec_l27Grams.f gramsM
  by_cases h : f = 0
  · simp [h]
  · have hp := cube_pos (show 0 < f by omega)
    obtain ⟨h4, h5⟩ := cube_le h2 h3
    rw [if_neg h, if_neg h, l27Cube_eq d h2 (by omega), l27Cube_eq f h0 (by omega)]
    simp only [Option.bind_some]
    rw [if_neg (by omega), quotW h4 (by omega) hp, mn_eq]
theorem spec_GramsFor_ev (f d : Int) : Ev (fun k => spec_GramsFor.f k f d) (gramsForM f d) := by
  refine ⟨1, fun k hk => ?_⟩
  obtain ⟨k, rfl⟩ : ∃ m, k = m + 1 := ⟨k - 1, by omega⟩
  simp only [spec_GramsFor.f, gramsForM]
  rw [l27Code_eq, l01In_eq]
  simp only [Option.bind_some, spec_GramsFor.j0]
  by_cases h1 : 0 ≤ f ∧ f ≤ 500 <;> by_cases h2 : 0 ≤ d ∧ d ≤ 100000
  · simp [h1, h2, l27Grams_eq f d h1.1 h1.2 h2.1 h2.2]
  · simp [h1, h2]
  · simp [h1, h2]
  · simp [h1, h2]
theorem impl_GramsFor_ev (f d : Int) : Ev (fun k => impl_GramsFor.f k f d) (gramsForM f d) := by
  refine ⟨1, fun k hk => ?_⟩
  obtain ⟨k, rfl⟩ : ∃ m, k = m + 1 := ⟨k - 1, by omega⟩
  simp only [impl_GramsFor.f, gramsForM, gramsM]
  rw [isFactor_eq, within_eq]
  simp only [Option.bind_some, impl_GramsFor.j0]
  by_cases h1 : 0 ≤ f ∧ f ≤ 500
  · by_cases h2 : 0 ≤ d ∧ d ≤ 100000
    · by_cases h : f = 0
      · simp [h1, h2, h]
      · have hp := cube_pos (show 0 < f by omega)
        obtain ⟨h4, h5⟩ := cube_le h2.1 h2.2
        rw [cubeW h1.1 (by omega), cubeW h2.1 (by omega), quotW h4 (by omega) hp, mn_eq]
        simp only [h1, h2, h, if_neg (show ¬ f * f * f = 0 by omega)]
        simp
    · simp [h1, h2]
  · simp [h1]

theorem sepM_le {c d : Int} (h : IsSep c (sepM c)) (h0 : 0 ≤ d) (hd : c ≤ d * d * d) : sepM c ≤ d := by
  obtain ⟨h1, _, h3, h4⟩ := h
  rcases Int.lt_or_le d (sepM c) with hlt | hle
  · exfalso
    rcases h4 with h4 | h4
    · omega
    · have := (cube_le h0 (show d ≤ sepM c - 1 by omega)).2
      omega
  · exact hle
theorem lt_sepM {c d : Int} (h : IsSep c (sepM c)) (hd : d * d * d < c) : d < sepM c := by
  obtain ⟨h1, _, h3, h4⟩ := h
  rcases Int.lt_or_le d (sepM c) with hlt | hle
  · exact hlt
  · exfalso
    have := (cube_le h1 hle).2
    omega
theorem sepM_mono {c e : Int} (h : IsSep c (sepM c)) (k : IsSep e (sepM e)) (hce : c ≤ e) : sepM c ≤ sepM e :=
  sepM_le h k.1 (Int.le_trans hce k.2.2.1)
theorem gramsM_bounds {f d : Int} (h0 : 0 ≤ f) (h1 : f ≤ 500) (h2 : 0 ≤ d) (h3 : d ≤ 100000) : 0 ≤ gramsM f d ∧ gramsM f d ≤ 100000000 ∧ f * f * f * gramsM f d ≤ d * d * d ∧ (gramsM f d < 100000000 → d * d * d < f * f * f * (gramsM f d + 1)) := by
  unfold gramsM
  obtain ⟨h4, h5⟩ := cube_le h2 h3
  by_cases hf : f = 0
  · rw [if_pos hf, hf]
    omega
  · rw [if_neg hf]
    have hp := cube_pos (show 0 < f by omega)
    have hq := Int.ediv_nonneg h4 (show 0 ≤ f * f * f by omega)
    have hm : f * f * f * (d * d * d / (f * f * f)) ≤ d * d * d := by
      have := Int.ediv_mul_le (d * d * d) (show f * f * f ≠ 0 by omega)
      rw [Int.mul_comm]
      exact this
    have hl : d * d * d < f * f * f * (d * d * d / (f * f * f) + 1) := by
      have := Int.lt_ediv_add_one_mul_self (d * d * d) hp
      rw [Int.mul_comm (f * f * f)]
      exact this
    refine ⟨by omega, by omega, ?_, fun h => ?_⟩
    · refine Int.le_trans (Int.mul_le_mul_of_nonneg_left (Int.min_le_right ..) (by omega)) hm
    · have e : min 100000000 (d * d * d / (f * f * f)) = d * d * d / (f * f * f) := by omega
      rw [e]
      exact hl

/-- A loop over the numbers 0 to n - 1: d rounds from i on. -/
def forM {S ρ : Type} (step : S → Int → ρ ⊕ S) (out : S → ρ) : Nat → S → Int → ρ
  | 0, s, _ => out s
  | d + 1, s, i => match step s i with
    | .inl r => r
    | .inr s' => forM step out d s' (i + 1)
theorem Ev_for {S ρ : Type} {F : Nat → S → Int → Option ρ} {step : S → Int → ρ ⊕ S} {out : S → ρ} {n : Nat} (Inv : S → Int → Prop)
    (hend : ∀ s, Inv s n → ∃ K, ∀ k, K ≤ k → F k s n = some (out s))
    (hstep : ∀ (s : S) (i : Int), 0 ≤ i → i < n → Inv s i → (∃ r, step s i = .inl r ∧ ∃ K, ∀ k, K ≤ k → F k s i = some r) ∨ (∃ s', step s i = .inr s' ∧ Inv s' (i + 1) ∧ ∃ K, ∀ k, K ≤ k → F (k + 1) s i = F k s' (i + 1))) :
    ∀ (d : Nat) (s : S) (i : Int), 0 ≤ i → i + d = n → Inv s i → Ev (fun k => F k s i) (forM step out d s i) := by
  intro d
  induction d with
  | zero =>
    intro s i h0 h1 hI
    obtain rfl : i = n := by omega
    exact hend s hI
  | succ d ih =>
    intro s i h0 h1 hI
    rcases hstep s i h0 (by omega) hI with ⟨r, hr, hK⟩ | ⟨s', hs, hI', K, hK⟩
    · simp only [forM, hr]
      exact hK
    · simp only [forM, hs]
      obtain ⟨K', h⟩ := ih s' (i + 1) (by omega) (by omega) hI'
      refine ⟨K + K' + 1, fun k hk => ?_⟩
      obtain ⟨k, rfl⟩ : ∃ m, k = m + 1 := ⟨k - 1, by omega⟩
      exact (hK k (by omega)).trans (h k (by omega))
/-- What holds at the end of a loop. -/
theorem forM_ind {S ρ : Type} {step : S → Int → ρ ⊕ S} {out : S → ρ} {n : Nat} (Inv : S → Int → Prop) (Post : ρ → Prop) (hend : ∀ s, Inv s n → Post (out s))
    (hstep : ∀ (s : S) (i : Int), 0 ≤ i → i < n → Inv s i → (∀ r, step s i = .inl r → Post r) ∧ ∀ s', step s i = .inr s' → Inv s' (i + 1)) : ∀ (d : Nat) (s : S) (i : Int), 0 ≤ i → i + d = n → Inv s i → Post (forM step out d s i) := by
  intro d
  induction d with
  | zero =>
    intro s i h0 h1 hI
    obtain rfl : i = n := by omega
    exact hend s hI
  | succ d ih =>
    intro s i h0 h1 hI
    obtain ⟨h2, h3⟩ := hstep s i h0 (by omega) hI
    simp only [forM]
    cases hs : step s i with
    | inl r => exact h2 r hs
    | inr s' => exact ih s' (i + 1) (by omega) (by omega) (h3 s' hs)

/-- The source of the draws: the code's bytes, the place in it, the seed. -/
def Rd (c : List Int) (i seed : Int) : Prop := (∀ b ∈ c, 0 ≤ b ∧ b ≤ 255) ∧ c.length ≤ 4096 ∧ 0 ≤ i ∧ i ≤ c.length ∧ 0 ≤ seed ∧ seed < 2147483647
theorem rd_byte {c : List Int} (hc : ∀ b ∈ c, 0 ≤ b ∧ b ≤ 255) (i : Int) : 0 ≤ rd c i ∧ rd c i ≤ 255 := by
  unfold rd
  by_cases h : i.toNat < c.length
  · rw [List.getD_eq_getElem?_getD, List.getElem?_eq_getElem h]
    exact hc _ (List.getElem_mem h)
  · rw [List.getD_eq_getElem?_getD, List.getElem?_eq_none (by omega)]
    simp
theorem next_tells {c : List Int} {i seed : Int} (hr : Rd c i seed) (n : Int) (hn : n ≤ 4000000000000000000) : ∃ x i' s', spec_l01Next.f c i seed n = some (x, i', s') ∧ Rd c i' s' ∧ 0 ≤ x ∧ (1 ≤ n → x < n) := by
  obtain ⟨hc, hl, h0, h1, h2, h3⟩ := hr
  have e1 : wrap64 (wrap64 (seed * 48271) + 29) = seed * 48271 + 29 := by rw [w64 (x := seed * 48271) (by omega) (by omega), w64 (by omega) (by omega)]
  have e2 : Int.tmod (seed * 48271 + 29) 2147483647 = (seed * 48271 + 29) % 2147483647 := Int.tmod_eq_emod_of_nonneg (by omega)
  obtain ⟨s1, hs1⟩ : ∃ s1, s1 = (seed * 48271 + 29) % 2147483647 := ⟨_, rfl⟩
  have b0 : 0 ≤ s1 ∧ s1 < 2147483647 := by omega
  have e3 : wrap64 (Int.tdiv s1 31) = s1 / 31 := by
    rw [Int.tdiv_eq_ediv_of_nonneg b0.1]; exact w64 (by omega) (by omega)
  unfold spec_l01Next.f
  rw [e1, e2, ← hs1, e3]
  by_cases hn1 : n ≤ 1
  · rw [if_pos hn1]
    exact ⟨0, i, seed, rfl, ⟨hc, hl, h0, h1, h2, h3⟩, by omega, by omega⟩
  · rw [if_neg hn1]
    have hm : ∀ x : Int, 0 ≤ x → 0 ≤ Int.tmod x n ∧ Int.tmod x n < n := fun x hx => by
      rw [Int.tmod_eq_emod_of_nonneg hx]
      exact ⟨Int.emod_nonneg x (by omega), Int.emod_lt_of_pos x (by omega)⟩
    by_cases hi : i < (c.length : Int)
    · have hb := rd_byte hc i
      have w1 : wrap64 (i + 1) = i + 1 := w64 (by omega) (by omega)
      have w2 : wrap64 (i + 1 - 1) = i := by rw [w64 (by omega) (by omega)]; omega
      have w3 : wrap64 (rd c i) = rd c i := w64 (by omega) (by omega)
      have w4 : wrap64 (s1 / 31 + rd c i) = s1 / 31 + rd c i := w64 (by omega) (by omega)
      rw [if_pos hi, if_pos h0, w1, w2, w3, w4]
      have r1 := hm (rd c i) hb.1
      have r2 := hm (s1 / 31 + rd c i) (by omega)
      have hR : Rd c (i + 1) s1 := ⟨hc, hl, by omega, by omega, b0.1, b0.2⟩
      by_cases h256 : n ≤ 256
      · rw [if_pos h256]
        by_cases ht : Int.tmod (i + 1) 2 = 0
        · rw [if_pos ht, if_pos h0, if_pos hi, if_neg (by omega)]
          exact ⟨_, _, _, rfl, hR, r1.1, fun _ => r1.2⟩
        · rw [if_neg ht, if_neg (by omega)]
          exact ⟨_, _, _, rfl, hR, r2.1, fun _ => r2.2⟩
      · rw [if_neg h256, if_neg (by omega)]
        exact ⟨_, _, _, rfl, hR, r2.1, fun _ => r2.2⟩
    · have r3 := hm (s1 / 31) (by omega)
      rw [if_neg hi, if_neg (by omega)]
      exact ⟨_, _, _, rfl, ⟨hc, hl, h0, h1, b0.1, b0.2⟩, r3.1, fun _ => r3.2⟩
theorem from_tells (c : List Int) (hc : ∀ b ∈ c, 0 ≤ b ∧ b ≤ 255) (hl : c.length ≤ 4096) : ∃ seed, Ev (fun k => spec_l01From.f k c) (c, 0, seed) ∧ Rd c 0 seed := by
  have h := Ev_for (F := fun k s i => spec_l01From.l0 k c i c 0 s) (step := fun s i => if i < 64 then .inr ((s * 83 + rd c i) % 2147483647) else .inl (c, 0, s)) (out := fun s => (c, 0, s)) (n := c.length) (fun s i => 0 ≤ s ∧ s < 2147483647)
    (fun s hI => ⟨1, fun k hk => by
      obtain ⟨k, rfl⟩ : ∃ m, k = m + 1 := ⟨k - 1, by omega⟩
      simp only [spec_l01From.l0]
      rw [if_neg (by omega)]⟩)
    (fun s i h0 h1 hI => by
      have hb := rd_byte hc i
      by_cases h64 : i < 64
      · refine .inr ⟨_, if_pos h64, by omega, 0, fun k _ => ?_⟩
        simp only [spec_l01From.l0]
        rw [if_pos h1, if_pos h64, if_pos h0, w64 (x := i + 1) (by omega) (by omega), w64 (x := s * 83) (by omega) (by omega), w64 (x := rd c i) (by omega) (by omega), w64 (by omega) (by omega), Int.tmod_eq_emod_of_nonneg (by omega)]
      · refine .inl ⟨_, if_neg h64, 1, fun k hk => ?_⟩
        obtain ⟨k, rfl⟩ : ∃ m, k = m + 1 := ⟨k - 1, by omega⟩
        simp only [spec_l01From.l0]
        rw [if_pos h1, if_neg h64]) c.length 61043 0 (by omega) (by omega) (by omega)
  have h2 := forM_ind (step := fun s i => if i < 64 then .inr ((s * 83 + rd c i) % 2147483647) else .inl (c, 0, s)) (out := fun s => (c, (0 : Int), s)) (n := c.length) (fun s _ => 0 ≤ s ∧ s < 2147483647) (fun r => ∃ s, r = (c, (0 : Int), s) ∧ 0 ≤ s ∧ s < 2147483647) (fun s hI => ⟨s, rfl, hI⟩)
    (fun s i h0 h1 hI => ⟨fun r hr => by
        split at hr
        · cases hr
        · injection hr with hr
          exact ⟨s, hr.symm, hI⟩, fun s' hr => by
        split at hr
        · injection hr with hr
          omega
        · cases hr⟩) c.length 61043 0 (by omega) (by omega) (by omega)
  obtain ⟨s, hs, hb⟩ := h2
  refine ⟨s, ?_, hc, hl, by omega, by omega, hb.1, hb.2⟩
  rw [hs] at h
  exact h
/-- What a statement over a code knows of its bytes. -/
theorem bytes_of {c : List Int} (h : ∀ x ∈ c, (Lit.int .u8 x).wf = true) : ∀ b ∈ c, 0 ≤ b ∧ b ≤ 255 := fun b hb => by
  have h := h b hb
  simp [Lit.wf, IntKind.min, IntKind.max, IntKind.bits, IntKind.signed] at h
  omega
theorem big_eq (c : List Int) : laws_big.f c = some (decide (c.length > 4096)) := by
  unfold laws_big.f
  congr 1
  rw [decide_eq_decide]
  omega

theorem pick_tells {c : List Int} {i seed : Int} (hr : Rd c i seed) (l : List Int) (h0 : 0 < l.length) (hl : l.length ≤ 1000) : ∃ x i' s', spec_l01Pick.f c i seed l = some (x, i', s') ∧ Rd c i' s' ∧ x ∈ l := by
  obtain ⟨x, i', s', h1, h2, h3, h4⟩ := next_tells hr (l.length : Int) (by omega)
  have h4 := h4 (by omega)
  unfold spec_l01Pick.f
  rw [h1]
  simp only [Option.bind_some]
  rw [if_pos h3, if_pos h4]
  refine ⟨_, _, _, rfl, h2, ?_⟩
  unfold rd
  rw [List.getD_eq_getElem?_getD, List.getElem?_eq_getElem (show x.toNat < l.length by omega)]
  exact List.getElem_mem _

theorem factor_tells {c : List Int} {i seed : Int} (hr : Rd c i seed) : ∃ x i' s', spec_l27Factor.f c i seed = some (x, i', s') ∧ Rd c i' s' := by
  obtain ⟨x1, i1, s1, e1, r1, _⟩ := next_tells hr 40 (by omega)
  obtain ⟨x2, i2, s2, e2, r2, _⟩ := next_tells r1 20 (by omega)
  obtain ⟨x3, i3, s3, e3, r3, _⟩ := next_tells r2 501 (by omega)
  obtain ⟨x4, i4, s4, e4, r4, _⟩ := pick_tells r3 [wrap64 (1 + x1), wrap64 (1 + x2), 0, x3, 500, 501] (by simp) (by simp)
  refine ⟨x4, i4, s4, ?_, r4⟩
  unfold spec_l27Factor.f
  simp only [e1, e2, e3, e4, Option.bind_some]
theorem drawSep_tells (c : List Int) (hc : ∀ b ∈ c, 0 ≤ b ∧ b ≤ 255) (hl : c.length ≤ 4096) : ∃ f g, Ev (fun k => spec_DrawSeparationFor.f k c) (f, g) := by
  obtain ⟨s0, h0, r0⟩ := from_tells c hc hl
  obtain ⟨x1, i1, s1, e1, r1⟩ := factor_tells r0
  obtain ⟨x2, i2, s2, e2, r2, _⟩ := next_tells r1 100000 (by omega)
  obtain ⟨x3, i3, s3, e3, r3, _⟩ := next_tells r2 100 (by omega)
  obtain ⟨x4, i4, s4, e4, r4, _⟩ := next_tells r3 100000001 (by omega)
  obtain ⟨x5, i5, s5, e5, r5, _⟩ := pick_tells r4 [x2, x3, 100000000, 100000001, 0, 1000, x4] (by simp) (by simp)
  refine ⟨x1, x5, ?_⟩
  unfold spec_DrawSeparationFor.f
  refine Ev.bind h0 ?_
  simp only [e1, e2, e3, e4, e5, Option.bind_some]
  exact Ev.now _
theorem drawGrams_tells (c : List Int) (hc : ∀ b ∈ c, 0 ≤ b ∧ b ≤ 255) (hl : c.length ≤ 4096) : ∃ f g, Ev (fun k => spec_DrawGramsFor.f k c) (f, g) := by
  obtain ⟨s0, h0, r0⟩ := from_tells c hc hl
  obtain ⟨x1, i1, s1, e1, r1⟩ := factor_tells r0
  obtain ⟨x2, i2, s2, e2, r2, _⟩ := next_tells r1 3000 (by omega)
  obtain ⟨x3, i3, s3, e3, r3, _⟩ := next_tells r2 300 (by omega)
  obtain ⟨x5, i5, s5, e5, r5, _⟩ := pick_tells r3 [x2, x3, 0, 100000, 100001, -1] (by simp) (by simp)
  refine ⟨x1, x5, ?_⟩
  unfold spec_DrawGramsFor.f
  refine Ev.bind h0 ?_
  simp only [e1, e2, e3, e5, Option.bind_some]
  exact Ev.now _

theorem wrapU64 (n : Int) : IntKind.u64.wrap n = n % 18446744073709551616 := by simp [IntKind.wrap, IntKind.bits, IntKind.signed]
theorem and_low (h : Int) : 0 ≤ Go.bits .and .u64 (IntKind.u64.wrap h / 8589934592) 16777215 ∧ Go.bits .and .u64 (IntKind.u64.wrap h / 8589934592) 16777215 ≤ 16777215 := by
  rw [wrapU64]
  have := Go.bits_mask .u64 64 (by decide) (fun n h0 h1 => by rw [wrapU64]; omega) 24 (by decide) (h % 18446744073709551616 / 8589934592) (by omega) (by omega)
  rw [show ((2 : Int) ^ 24 - 1) = 16777215 by decide] at this
  rw [this]
  omega
/-- The dice: the code's bytes, the place, the sum. -/
def Dice (c : List Int) (i h : Int) : Prop := (∀ b ∈ c, 0 ≤ b ∧ b ≤ 255) ∧ c.length ≤ 4096 ∧ 0 ≤ i ∧ i ≤ c.length
theorem roll_tells (c : List Int) (hc : ∀ b ∈ c, 0 ≤ b ∧ b ≤ 255) (hl : c.length ≤ 4096) (s0 : Int) : ∃ h, Ev (fun k => laws_roll.f k c s0) (c, 0, h) := by
  have h := Ev_for (F := fun k s i => laws_roll.l0 k c i c 0 s) (step := fun s i => .inr (IntKind.u64.wrap ((IntKind.u64.wrap ((IntKind.u64.wrap (s * 1099511628211)) + (IntKind.u64.wrap (rd c i)))) + 3))) (out := fun s => (c, 0, s)) (n := c.length) (fun s i => True)
    (fun s hI => ⟨1, fun k hk => by
      obtain ⟨k, rfl⟩ : ∃ m, k = m + 1 := ⟨k - 1, by omega⟩
      simp only [laws_roll.l0]
      rw [if_neg (by omega)]⟩)
    (fun s i h0 h1 hI => by
      refine .inr ⟨_, rfl, trivial, 0, fun k _ => ?_⟩
      simp only [laws_roll.l0]
      rw [if_pos h1, if_pos h0, w64 (x := i + 1) (by omega) (by omega)]) c.length (IntKind.u64.wrap ((IntKind.u64.wrap (s0 * 7919)) + (IntKind.u64.wrap ((c.length : Int))))) 0 (by omega) (by omega) trivial
  have h2 := forM_ind (step := fun s i => .inr (IntKind.u64.wrap ((IntKind.u64.wrap ((IntKind.u64.wrap (s * 1099511628211)) + (IntKind.u64.wrap (rd c i)))) + 3))) (out := fun s => (c, (0 : Int), s)) (n := c.length) (fun s _ => True) (fun r => ∃ s, r = (c, (0 : Int), s)) (fun s hI => ⟨s, rfl⟩)
    (fun s i h0 h1 hI => ⟨(fun r hr => by cases hr), fun _ _ => trivial⟩) c.length (IntKind.u64.wrap ((IntKind.u64.wrap (s0 * 7919)) + (IntKind.u64.wrap ((c.length : Int))))) 0 (by omega) (by omega) trivial
  obtain ⟨s, hs⟩ := h2
  refine ⟨s, ?_⟩
  rw [hs] at h
  exact h
theorem below_tells {c : List Int} {i h : Int} (hd : Dice c i h) (n : Int) (h1 : 1 ≤ n) : ∃ x i' h', laws_dice_below.f c i h n = some (x, i', h') ∧ Dice c i' h' ∧ 0 ≤ x ∧ x < n := by
  obtain ⟨hc, hl, h0, h2⟩ := hd
  obtain ⟨y, hy⟩ : ∃ y, y = Go.bits .and .u64 ((IntKind.u64.wrap ((IntKind.u64.wrap (h * 6364136223846793005)) + 1442695040888963407)) / 8589934592) 16777215 := ⟨_, rfl⟩
  have hb : 0 ≤ y ∧ y ≤ 16777215 := by rw [hy]; exact and_low _
  unfold laws_dice_below.f
  rw [← hy]
  have hm : ∀ x : Int, 0 ≤ x → 0 ≤ Int.tmod x n ∧ Int.tmod x n < n := fun x hx => by
    rw [Int.tmod_eq_emod_of_nonneg hx]
    exact ⟨Int.emod_nonneg x (by omega), Int.emod_lt_of_pos x (by omega)⟩
  rw [w64 (x := y) (by omega) (by omega)]
  by_cases hi : i < (c.length : Int)
  · have hr := rd_byte hc i
    have r2 := hm (y + rd c i) (by omega)
    rw [if_pos hi, if_pos h0, if_neg (by omega), w64 (x := rd c i) (by omega) (by omega), w64 (x := y + rd c i) (by omega) (by omega), w64 (x := i + 1) (by omega) (by omega)]
    exact ⟨_, _, _, rfl, ⟨hc, hl, by omega, by omega⟩, r2.1, r2.2⟩
  · have r3 := hm y (by omega)
    rw [if_neg hi, if_neg (by omega)]
    exact ⟨_, _, _, rfl, ⟨hc, hl, h0, h2⟩, r3.1, r3.2⟩

theorem sepForM_ok {f g : Int} (h : (0 ≤ f ∧ f ≤ 500) ∧ 0 ≤ g ∧ g ≤ 100000000) : sepForM f g = (sepM (f * f * f * g), 0) := by unfold sepForM; rw [if_pos h]
theorem sepForM_no {f g : Int} (h : ¬ ((0 ≤ f ∧ f ≤ 500) ∧ 0 ≤ g ∧ g ≤ 100000000)) : sepForM f g = (0, 2) := by unfold sepForM; rw [if_neg h]
theorem sep_j3 (c : List Int) (hc : ∀ b ∈ c, 0 ≤ b ∧ b ≤ 255) (hl : c.length ≤ 4096) {f g : Int} (h : (0 ≤ f ∧ f ≤ 500) ∧ 0 ≤ g ∧ g ≤ 100000000) : Ev (fun k => laws_FnSeparations.j3 k c f g (sepM (f * f * f * g)) false) true := by
  obtain ⟨hh, h0⟩ := roll_tells c hc hl 2701
  obtain ⟨x, i', h', e1, _, h1, h2⟩ := below_tells (c := c) (i := 0) (h := hh) ⟨hc, hl, by omega, by omega⟩ (g + 1) (by omega)
  refine Ev.step (f := fun k => (laws_roll.f k c 2701).bind fun bt204 => ((laws_dice_below.f bt204.1 bt204.2.1 bt204.2.2 (wrap64 (g + 1))).bind fun bt208 => ((impl_SeparationFor.f k f bt208.1).bind fun bt211 => (if bt211.2 = 0 then (some (decide (bt211.1 ≤ (sepM (f * f * f * g))))) else (some false))))) (fun k => by simp only [laws_FnSeparations.j3, Bool.false_eq_true, if_false]) ?_
  refine Ev.bind h0 ?_
  simp only [w64 (x := g + 1) (by omega) (by omega), e1, Option.bind_some]
  refine Ev.bind (impl_SeparationFor_ev f x) ?_
  rw [sepForM_ok ⟨h.1, h1, by omega⟩]
  simp only [if_true]
  refine Ev_some ?_
  refine decide_eq_true (sepM_mono (isSep_sepM h.1.1 h.1.2 h1 (by omega)) (isSep_sepM h.1.1 h.1.2 h.2.1 h.2.2) ?_)
  exact Int.mul_le_mul_of_nonneg_left (by omega) (cube_le h.1.1 h.1.2).1
theorem sep_j2 (c : List Int) (hc : ∀ b ∈ c, 0 ≤ b ∧ b ≤ 255) (hl : c.length ≤ 4096) (f g : Int) : Ev (fun k => laws_FnSeparations.j2 k c f g (sepForM f g).1 (sepForM f g).2) true := by
  by_cases h : (0 ≤ f ∧ f ≤ 500) ∧ 0 ≤ g ∧ g ≤ 100000000
  · rw [sepForM_ok h]
    have hs := isSep_sepM h.1.1 h.1.2 h.2.1 h.2.2
    obtain ⟨s0, s1, s2, s3⟩ := hs
    obtain ⟨hn1, hn2⟩ := need_bound h.1.1 h.1.2 h.2.1 h.2.2
    refine Ev.step (f := fun k => laws_FnSeparations.j3 k c f g (sepM (f * f * f * g)) false) (fun k => ?_) (sep_j3 c hc hl h)
    simp only [laws_FnSeparations.j2, if_true]
    rw [needW h.1.1 h.1.2 h.2.1 h.2.2, cubeW s0 (by omega), if_neg (by omega)]
    by_cases hz : sepM (f * f * f * g) > 0
    · rw [if_pos hz]
      congr 1
      refine decide_eq_false ?_
      rw [w64 (x := sepM (f * f * f * g) - 1) (by omega) (by omega), cubeW (by omega) (by omega)]
      omega
    · rw [if_neg hz]
  · rw [sepForM_no h]
    refine Ev.step (f := fun _ => some true) (fun k => ?_) (Ev.now _)
    simp [laws_FnSeparations.j2]
theorem sep_j1 (c : List Int) (hc : ∀ b ∈ c, 0 ≤ b ∧ b ≤ 255) (hl : c.length ≤ 4096) (f g x d : Int) (h : (0 ≤ x ∧ x ≤ 500) ∧ 0 ≤ d ∧ d ≤ 100000) : Ev (fun k => laws_FnSeparations.j1 k c f g (sepForM f g).1 (sepForM f g).2 x d (gramsM x d) false) true := by
  obtain ⟨g0, g1, g2, g3⟩ := gramsM_bounds h.1.1 h.1.2 h.2.1 h.2.2
  refine Ev.step (f := fun k => if (gramsM x d) < 100000000 then ((impl_SeparationFor.f k x (wrap64 ((gramsM x d) + 1))).bind fun bt202 => (if bt202.2 = 0 then (if bt202.1 ≤ d then (some false) else (laws_FnSeparations.j2 k c f g (sepForM f g).1 (sepForM f g).2)) else (some false))) else (laws_FnSeparations.j2 k c f g (sepForM f g).1 (sepForM f g).2)) (fun k => by simp only [laws_FnSeparations.j1, Bool.false_eq_true, if_false]) ?_
  refine Ev_ite (fun hg => ?_) (fun _ => sep_j2 c hc hl f g)
  rw [w64 (x := gramsM x d + 1) (by omega) (by omega)]
  refine Ev.bind (impl_SeparationFor_ev x _) ?_
  rw [sepForM_ok ⟨h.1, by omega, by omega⟩]
  have := lt_sepM (isSep_sepM h.1.1 h.1.2 (show 0 ≤ gramsM x d + 1 by omega) (by omega)) (g3 hg)
  refine Ev_pos rfl (Ev_neg (by omega) (sep_j2 c hc hl f g))
theorem sep_j0 (c : List Int) (hc : ∀ b ∈ c, 0 ≤ b ∧ b ≤ 255) (hl : c.length ≤ 4096) (f g x d : Int) : Ev (fun k => laws_FnSeparations.j0 k c f g (sepForM f g).1 (sepForM f g).2 x d (gramsForM x d).1 (gramsForM x d).2 false) true := by
  refine Ev.step (f := fun k => if (gramsForM x d).2 = 0 then ((impl_SeparationFor.f k x (gramsForM x d).1).bind fun bt200 => (if bt200.2 = 0 then (laws_FnSeparations.j1 k c f g (sepForM f g).1 (sepForM f g).2 x d (gramsForM x d).1 (decide (bt200.1 > d))) else (laws_FnSeparations.j1 k c f g (sepForM f g).1 (sepForM f g).2 x d (gramsForM x d).1 true))) else (laws_FnSeparations.j2 k c f g (sepForM f g).1 (sepForM f g).2)) (fun k => by simp only [laws_FnSeparations.j0, Bool.false_eq_true, if_false]) ?_
  refine Ev_ite (fun hz => ?_) (fun _ => sep_j2 c hc hl f g)
  have h : (0 ≤ x ∧ x ≤ 500) ∧ 0 ≤ d ∧ d ≤ 100000 := by
    by_cases h : (0 ≤ x ∧ x ≤ 500) ∧ 0 ≤ d ∧ d ≤ 100000
    · exact h
    · unfold gramsForM at hz
      rw [if_neg h] at hz
      exact absurd hz (by decide)
  have e : gramsForM x d = (gramsM x d, 0) := by unfold gramsForM; rw [if_pos h]
  rw [e]
  obtain ⟨g0, g1, g2, g3⟩ := gramsM_bounds h.1.1 h.1.2 h.2.1 h.2.2
  refine Ev.bind (impl_SeparationFor_ev x _) ?_
  rw [sepForM_ok ⟨h.1, g0, g1⟩]
  have hle := sepM_le (isSep_sepM h.1.1 h.1.2 g0 g1) h.2.1 g2
  refine Ev_pos rfl ?_
  have e2 : decide ((sepM (x * x * x * gramsM x d), (0 : Int)).1 > d) = false := decide_eq_false (by show ¬ (sepM (x * x * x * gramsM x d) > d); omega)
  rw [e2]
  exact sep_j1 c hc hl f g x d h
theorem FnSeparations : laws_FnSeparations.Pure := by
  intro c hn0 hn1 hw
  have hc := bytes_of hw
  refine Ev.rounds ?_
  unfold laws_FnSeparations.f
  rw [big_eq]
  simp only [Option.bind_some, decide_eq_true_eq]
  refine Ev_ite (fun _ => Ev.now _) (fun hb => ?_)
  have hl : c.length ≤ 4096 := by omega
  obtain ⟨f, g, h1⟩ := drawSep_tells c hc hl
  obtain ⟨x, d, h2⟩ := drawGrams_tells c hc hl
  refine Ev.bind h1 (Ev.bind (impl_SeparationFor_ev f g) (Ev.bind (spec_SeparationFor_ev f g) (Ev.bind h2 (Ev.bind (impl_GramsFor_ev x d) (Ev.bind (spec_GramsFor_ev x d) ?_)))))
  refine Ev_pos rfl (Ev_pos rfl (Ev_pos rfl ?_))
  have e : ((gramsForM x d).1 != (gramsForM x d).1) = false := bne_self_eq_false _
  rw [e]
  exact sep_j0 c hc hl f g x d



end Go.Proofs.Ytmhnkhealidjjaa.Pure
