/- The statement over numbers and lists for FnExactTooClose: the reference and the program answer alike for all arguments. -/
import Derived.Test.YtmhnkhealidjjaaXFnExactTooClose
set_option linter.unusedVariables false
set_option linter.unusedSimpArgs false
namespace Go.Proofs.Ytmhnkhealidjjaa.Pure
open Go.RowKit Go.Proofs.Ytmhnkhealidjjaa.PFnExactTooClose Go.Proofs.YtmhnkhealidjjaaW.PrintWords Go.Proofs.YtmhnkhealidjjaaW.PrintLast Go.Proofs.YtmhnkhealidjjaaW.PrintMore
open Go.Proofs.YtmhnkhealidjjaaX

theorem w64 {x : Int} (h0 : -9223372036854775808 ≤ x) (h1 : x ≤ 9223372036854775807) : wrap64 x = x := by unfold wrap64; omega
theorem Ev_ite {α : Type} {c : Prop} [Decidable c] {g h : Nat → Option α} {r : α} (h1 : c → Ev g r) (h2 : ¬ c → Ev h r) : Ev (fun k => if c then g k else h k) r := by
  by_cases hc : c
  · obtain ⟨K, hK⟩ := h1 hc
    exact ⟨K, fun k hk => (if_pos hc).trans (hK k hk)⟩
  · obtain ⟨K, hK⟩ := h2 hc
    exact ⟨K, fun k hk => (if_neg hc).trans (hK k hk)⟩
theorem Ev_pos {α : Type} {c : Prop} [Decidable c] {g h : Nat → Option α} {r : α} (hc : c) (h1 : Ev g r) : Ev (fun k => if c then g k else h k) r := Ev_ite (fun _ => h1) (fun n => absurd hc n)
theorem Ev_neg {α : Type} {c : Prop} [Decidable c] {g h : Nat → Option α} {r : α} (hc : ¬ c) (h1 : Ev h r) : Ev (fun k => if c then g k else h k) r := Ev_ite (fun n => absurd n hc) (fun _ => h1)
theorem Ev_some {α : Type} {r q : α} (h : r = q) : Ev (fun _ => some r) q := h ▸ Ev.now r
theorem Ev_eq {α : Type} {g : Nat → Option α} {r q : α} (h : r = q) (k : Ev g r) : Ev g q := h ▸ k
theorem Ev_const {α : Type} {o : Option α} {r : α} (h : o = some r) : Ev (fun _ => o) r := by subst h; exact Ev.now r
theorem Ev_bindc {α β : Type} {o : Option α} {f : Nat → α → Option β} {a : α} {r : β} (h : o = some a) (k : Ev (fun n => f n a) r) : Ev (fun n => o.bind (f n)) r := by subst h; exact k
theorem Ev_unique {α : Type} {g : Nat → Option α} {r q : α} (h : Ev g r) (k : Ev g q) : r = q := by
  obtain ⟨K, h⟩ := h
  obtain ⟨L, k⟩ := k
  have h1 := h (max K L) (by omega)
  have h2 := k (max K L) (by omega)
  rw [h1] at h2
  exact Option.some.inj h2
theorem lit64 {x : Int} (h : (Lit.int .i64 x).wf = true) : -9223372036854775808 ≤ x ∧ x ≤ 9223372036854775807 := by
  have h := h
  simp [Lit.wf, IntKind.min, IntKind.max, IntKind.bits, IntKind.signed] at h
  omega
theorem mn_eq (a b : Int) : mn a b = min a b := by unfold mn; omega
theorem mx_eq (a b : Int) : mx a b = max a b := by unfold mx; omega

theorem within_eq (a lo hi : Int) : impl_within.f a lo hi = some (decide (lo ≤ a ∧ a ≤ hi)) := by
  unfold impl_within.f
  by_cases h : lo ≤ a <;> simp [h]

theorem isPlace_eq (x y : Int) : impl_isPlace.f x y = some (decide ((0 ≤ x ∧ x ≤ 100000) ∧ 0 ≤ y ∧ y ≤ 100000)) := by
  unfold impl_isPlace.f; rw [within_eq, within_eq]
  by_cases h1 : 0 ≤ x ∧ x ≤ 100000 <;> by_cases h2 : 0 ≤ y ∧ y ≤ 100000 <;> simp [h1, h2]

theorem l01In_eq (a lo hi : Int) : spec_l01In.f a lo hi = some (decide (lo ≤ a ∧ a ≤ hi)) := by
  unfold spec_l01In.f
  by_cases h : a ≥ lo
  · have : lo ≤ a := h
    simp [this]
  · have : ¬ lo ≤ a := h
    simp [this]

theorem l15Place_eq (x y : Int) : spec_l15Place.f x y = some (decide ((0 ≤ x ∧ x ≤ 100000) ∧ 0 ≤ y ∧ y ≤ 100000)) := by
  unfold spec_l15Place.f; rw [l01In_eq, l01In_eq]
  by_cases h1 : 0 ≤ x ∧ x ≤ 100000 <;> by_cases h2 : 0 ≤ y ∧ y ≤ 100000 <;> simp [h1, h2]

theorem areGrams_eq (a : Int) : impl_areGrams.f a = some (decide (0 ≤ a ∧ a ≤ 100000000)) := by
  unfold impl_areGrams.f; rw [within_eq]; rfl

/-- A depot in its bounds. -/
def OkDepot (d : S51) : Prop := ((0 ≤ d.f0 ∧ d.f0 ≤ 100000) ∧ 0 ≤ d.f1 ∧ d.f1 ≤ 100000) ∧ 0 ≤ d.f2 ∧ d.f2 ≤ 100000000
instance (d : S51) : Decidable (OkDepot d) := by unfold OkDepot; infer_instance
def AreDepotsM (xs : List S51) : Prop := (∀ d ∈ xs, OkDepot d) ∧ xs.length ≤ 8
instance (xs : List S51) : Decidable (AreDepotsM xs) := by unfold AreDepotsM; infer_instance
theorem rdDepot {xs : List S51} {i : Int} (h0 : 0 ≤ i) (h1 : i < xs.length) : rd_T51 xs i = xs[i.toNat]'(by omega) := by
  simp [rd_T51, List.getD_eq_getElem?_getD, List.getElem?_eq_getElem (show i.toNat < xs.length by omega)]
theorem all_drop {α : Type} {p : α → Prop} {xs : List α} {i : Nat} (h : i < xs.length) : (∀ x ∈ xs.drop i, p x) ↔ p xs[i] ∧ ∀ x ∈ xs.drop (i + 1), p x := by
  rw [List.drop_eq_getElem_cons h, List.forall_mem_cons]
theorem spec_areDepots_loop (xs : List S51) (hn : xs.length ≤ 9000000000000000000) (d : Nat) : ∀ (k : Nat) (i : Int), 0 ≤ i → i ≤ xs.length → ((xs.length : Int) - i).toNat ≤ d → d < k →
    spec_AreDepots.l0 k xs i = some (decide ((∀ x ∈ xs.drop i.toNat, OkDepot x) ∧ xs.length ≤ 8)) := by
  induction d with
  | zero =>
    intro k i h0 h1 hd hk
    obtain ⟨k, rfl⟩ : ∃ m, k = m + 1 := ⟨k - 1, by omega⟩
    simp only [spec_AreDepots.l0]
    rw [if_neg (by omega), List.drop_eq_nil_of_le (by omega)]
    congr 1
    simp
    omega
  | succ d ih =>
    intro k i h0 h1 hd hk
    obtain ⟨k, rfl⟩ : ∃ m, k = m + 1 := ⟨k - 1, by omega⟩
    simp only [spec_AreDepots.l0]
    by_cases hlt : i < (xs.length : Int)
    · rw [if_pos hlt, if_pos h0, rdDepot h0 hlt, l15Place_eq, l01In_eq]
      have hall := all_drop (p := OkDepot) (xs := xs) (i := i.toNat) (by omega)
      simp only [Option.bind_some, decide_eq_true_eq]
      by_cases h1 : (0 ≤ (xs[i.toNat]'(by omega)).f0 ∧ (xs[i.toNat]'(by omega)).f0 ≤ 100000) ∧ 0 ≤ (xs[i.toNat]'(by omega)).f1 ∧ (xs[i.toNat]'(by omega)).f1 ≤ 100000
      · rw [if_pos h1]
        by_cases h2 : 0 ≤ (xs[i.toNat]'(by omega)).f2 ∧ (xs[i.toNat]'(by omega)).f2 ≤ 100000000
        · rw [if_pos h2, w64 (by omega) (by omega), ih k (i + 1) (by omega) (by omega) (by omega) (by omega)]
          rw [show (i + 1).toNat = i.toNat + 1 by omega]
          congr 1
          rw [decide_eq_decide, hall]
          exact ⟨fun h => ⟨⟨⟨h1, h2⟩, h.1⟩, h.2⟩, fun h => ⟨h.1.2, h.2⟩⟩
        · rw [if_neg h2, decide_eq_false]
          rw [hall]
          exact fun h => h2 h.1.1.2
      · rw [if_neg h1, decide_eq_false]
        rw [hall]
        exact fun h => h1 h.1.1.1
    · rw [if_neg hlt, List.drop_eq_nil_of_le (by omega)]
      congr 1
      simp
      omega
theorem spec_AreDepots_ev (xs : List S51) (hn : xs.length ≤ 9000000000000000000) : Ev (fun k => spec_AreDepots.f k xs) (decide (AreDepotsM xs)) :=
  ⟨xs.length + 1, fun k hk => by
    simp only [spec_AreDepots.f]
    rw [spec_areDepots_loop xs hn xs.length k 0 (by omega) (by omega) (by omega) (by omega)]
    rfl⟩
theorem impl_areDepots_loop (xs : List S51) (hn : xs.length ≤ 8) (d : Nat) : ∀ (k : Nat) (i : Int), 0 ≤ i → i ≤ xs.length → ((xs.length : Int) - i).toNat ≤ d → d < k →
    impl_AreDepots.l0 k xs (xs.length : Int) i = some (decide ((∀ x ∈ xs.drop i.toNat, OkDepot x))) := by
  induction d with
  | zero =>
    intro k i h0 h1 hd hk
    obtain ⟨k, rfl⟩ : ∃ m, k = m + 1 := ⟨k - 1, by omega⟩
    simp only [impl_AreDepots.l0]
    rw [if_neg (by omega), List.drop_eq_nil_of_le (by omega)]
    simp
  | succ d ih =>
    intro k i h0 h1 hd hk
    obtain ⟨k, rfl⟩ : ∃ m, k = m + 1 := ⟨k - 1, by omega⟩
    simp only [impl_AreDepots.l0]
    by_cases hlt : i < (xs.length : Int)
    · rw [if_pos hlt, if_pos h0, if_pos hlt, rdDepot h0 hlt, isPlace_eq, areGrams_eq]
      have hall := all_drop (p := OkDepot) (xs := xs) (i := i.toNat) (by omega)
      simp only [Option.bind_some, decide_eq_true_eq]
      by_cases h1 : (0 ≤ (xs[i.toNat]'(by omega)).f0 ∧ (xs[i.toNat]'(by omega)).f0 ≤ 100000) ∧ 0 ≤ (xs[i.toNat]'(by omega)).f1 ∧ (xs[i.toNat]'(by omega)).f1 ≤ 100000
      · rw [if_pos h1]
        by_cases h2 : 0 ≤ (xs[i.toNat]'(by omega)).f2 ∧ (xs[i.toNat]'(by omega)).f2 ≤ 100000000
        · rw [if_pos h2, w64 (by omega) (by omega), ih k (i + 1) (by omega) (by omega) (by omega) (by omega)]
          rw [show (i + 1).toNat = i.toNat + 1 by omega]
          congr 1
          rw [decide_eq_decide, hall]
          exact ⟨fun h => ⟨⟨h1, h2⟩, h⟩, fun h => h.2⟩
        · rw [if_neg h2, decide_eq_false]
          rw [hall]
          exact fun h => h2 h.1.2
      · rw [if_neg h1, decide_eq_false]
        rw [hall]
        exact fun h => h1 h.1.1
    · rw [if_neg hlt, List.drop_eq_nil_of_le (by omega)]
      simp
theorem impl_AreDepots_ev (xs : List S51) : Ev (fun k => impl_AreDepots.f k xs) (decide (AreDepotsM xs)) := by
  by_cases h : xs.length ≤ 8
  · refine ⟨xs.length + 1, fun k hk => ?_⟩
    simp only [impl_AreDepots.f]
    rw [if_neg (by omega), impl_areDepots_loop xs h xs.length k 0 (by omega) (by omega) (by omega) (by omega)]
    congr 1
    rw [decide_eq_decide]
    exact ⟨fun q => ⟨q, h⟩, fun q => q.1⟩
  · refine ⟨0, fun k _ => ?_⟩
    simp only [impl_AreDepots.f]
    rw [if_pos (by omega), decide_eq_false]
    exact fun q => h q.2

theorem sq_le {a b : Int} (h0 : 0 ≤ a) (h : a ≤ b) : 0 ≤ a * a ∧ a * a ≤ b * b := ⟨Int.mul_nonneg h0 h0, Int.mul_le_mul h h h0 (by omega)⟩
theorem cube_le {a b : Int} (h0 : 0 ≤ a) (h : a ≤ b) : 0 ≤ a * a * a ∧ a * a * a ≤ b * b * b := by
  obtain ⟨h1, h2⟩ := sq_le h0 h
  exact ⟨Int.mul_nonneg h1 h0, Int.mul_le_mul h2 h h0 (by omega)⟩
theorem cube_lt {a b : Int} (h0 : 0 ≤ a) (h : a < b) : a * a * a < b * b * b := by
  obtain ⟨h1, h2⟩ := cube_le h0 (show a ≤ b - 1 by omega)
  obtain ⟨c, rfl⟩ : ∃ c, b = c + 1 := ⟨b - 1, by omega⟩
  have e : (c + 1) * (c + 1) * (c + 1) = c * c * c + (3 * (c * c) + 3 * c + 1) := by
    simp only [Int.add_mul, Int.mul_add, Int.mul_one, Int.one_mul]
    omega
  have hc : 0 ≤ c := by omega
  have := Int.mul_nonneg hc hc
  rw [e]
  have e2 : c + 1 - 1 = c := by omega
  rw [e2] at h2
  omega

/-- The square of the distance. -/
def sqM (d : S51) (x y : Int) : Int := (d.f0 - x) * (d.f0 - x) + (d.f1 - y) * (d.f1 - y)
theorem sq_bound {a : Int} (h0 : -100000 ≤ a) (h1 : a ≤ 100000) : 0 ≤ a * a ∧ a * a ≤ 10000000000 := by
  by_cases h : 0 ≤ a
  · have := sq_le h h1
    omega
  · have := sq_le (show 0 ≤ -a by omega) (show -a ≤ 100000 by omega)
    rw [Int.neg_mul_neg] at this
    omega
theorem sqM_bound {d : S51} (hd : OkDepot d) {x y : Int} (hx : 0 ≤ x ∧ x ≤ 100000) (hy : 0 ≤ y ∧ y ≤ 100000) : 0 ≤ sqM d x y ∧ sqM d x y ≤ 20000000000 := by
  obtain ⟨⟨⟨h1, h2⟩, h3, h4⟩, _⟩ := hd
  have a := sq_bound (show -100000 ≤ d.f0 - x by omega) (by omega)
  have b := sq_bound (show -100000 ≤ d.f1 - y by omega) (by omega)
  unfold sqM
  omega
theorem squareW {a b x y : Int} (ha : 0 ≤ a ∧ a ≤ 100000) (hb : 0 ≤ b ∧ b ≤ 100000) (hx : 0 ≤ x ∧ x ≤ 100000) (hy : 0 ≤ y ∧ y ≤ 100000) :
    wrap64 (wrap64 (wrap64 (a - x) * wrap64 (a - x)) + wrap64 (wrap64 (b - y) * wrap64 (b - y))) = (a - x) * (a - x) + (b - y) * (b - y) := by
  have h1 := sq_bound (show -100000 ≤ a - x by omega) (by omega)
  have h2 := sq_bound (show -100000 ≤ b - y by omega) (by omega)
  rw [w64 (x := a - x) (by omega) (by omega), w64 (x := b - y) (by omega) (by omega), w64 (x := (a - x) * (a - x)) (by omega) (by omega), w64 (x := (b - y) * (b - y)) (by omega) (by omega), w64 (by omega) (by omega)]
theorem OkDepot.x {d : S51} (h : OkDepot d) : 0 ≤ d.f0 ∧ d.f0 ≤ 100000 := h.1.1
theorem OkDepot.y {d : S51} (h : OkDepot d) : 0 ≤ d.f1 ∧ d.f1 ≤ 100000 := h.1.2
theorem OkDepot.g {d : S51} (h : OkDepot d) : 0 ≤ d.f2 ∧ d.f2 ≤ 100000000 := h.2
theorem ok_at {xs : List S51} (h : AreDepotsM xs) {i : Int} (h0 : 0 ≤ i) (h1 : i < xs.length) : OkDepot (rd_T51 xs i) := by
  rw [rdDepot h0 h1]
  exact h.1 _ (List.getElem_mem _)

/-- A loop over the numbers 0 to n - 1: d rounds from i on. -/
def forM {S ρ : Type} (step : S → Int → ρ ⊕ S) (out : S → ρ) : Nat → S → Int → ρ
  | 0, s, _ => out s
  | d + 1, s, i => match step s i with
    | .inl r => r
    | .inr s' => forM step out d s' (i + 1)
theorem Ev_for {S ρ : Type} {F : Nat → S → Int → Option ρ} {step : S → Int → ρ ⊕ S} {out : S → ρ} {n : Nat} (Inv : S → Int → Prop)
    (hend : ∀ s, Inv s n → ∃ K, ∀ k, K ≤ k → F k s n = some (out s))
    (hstep : ∀ (s : S) (i : Int), 0 ≤ i → i < n → Inv s i → (∃ r, step s i = .inl r ∧ ∃ K, ∀ k, K ≤ k → F k s i = some r) ∨ (∃ s', step s i = .inr s' ∧ Inv s' (i + 1) ∧ ∃ K, ∀ k, K ≤ k → F (k + 1) s i = F k s' (i + 1))) :
    ∀ (d : Nat) (s : S) (i : Int), 0 ≤ i → i + d = n → Inv s i → Ev (fun k => F k s i) (forM step out d s i) := by
  intro d
  induction d with
  | zero =>
    intro s i h0 h1 hI
    obtain rfl : i = n := by omega
    exact hend s hI
  | succ d ih =>
    intro s i h0 h1 hI
    rcases hstep s i h0 (by omega) hI with ⟨r, hr, hK⟩ | ⟨s', hs, hI', K, hK⟩
    · simp only [forM, hr]
      exact hK
    · simp only [forM, hs]
      obtain ⟨K', h⟩ := ih s' (i + 1) (by omega) (by omega) hI'
      refine ⟨K + K' + 1, fun k hk => ?_⟩
      obtain ⟨k, rfl⟩ : ∃ m, k = m + 1 := ⟨k - 1, by omega⟩
      exact (hK k (by omega)).trans (h k (by omega))
/-- What holds at the end of a loop. -/
theorem forM_ind {S ρ : Type} {step : S → Int → ρ ⊕ S} {out : S → ρ} {n : Nat} (Inv : S → Int → Prop) (Post : ρ → Prop) (hend : ∀ s, Inv s n → Post (out s))
    (hstep : ∀ (s : S) (i : Int), 0 ≤ i → i < n → Inv s i → (∀ r, step s i = .inl r → Post r) ∧ ∀ s', step s i = .inr s' → Inv s' (i + 1)) : ∀ (d : Nat) (s : S) (i : Int), 0 ≤ i → i + d = n → Inv s i → Post (forM step out d s i) := by
  intro d
  induction d with
  | zero =>
    intro s i h0 h1 hI
    obtain rfl : i = n := by omega
    exact hend s hI
  | succ d ih =>
    intro s i h0 h1 hI
    obtain ⟨h2, h3⟩ := hstep s i h0 (by omega) hI
    simp only [forM]
    cases hs : step s i with
    | inl r => exact h2 r hs
    | inr s' => exact ih s' (i + 1) (by omega) (by omega) (h3 s' hs)

theorem impl_squareOf_eq {d : S51} (hd : OkDepot d) {x y : Int} (hx : 0 ≤ x ∧ x ≤ 100000) (hy : 0 ≤ y ∧ y ≤ 100000) (g : Int) : impl_squareOf.f d.f0 d.f1 g x y = some (sqM d x y) := by
  unfold impl_squareOf.f; rw [squareW hd.x hd.y hx hy]; rfl
theorem spec_square_eq {d : S51} (hd : OkDepot d) {x y : Int} (hx : 0 ≤ x ∧ x ≤ 100000) (hy : 0 ≤ y ∧ y ≤ 100000) (g : Int) : spec_l27Square.f d.f0 d.f1 g x y = some (sqM d x y) := by
  unfold spec_l27Square.f; rw [squareW hd.x hd.y hx hy]; rfl

theorem cubeW {a : Int} (h0 : 0 ≤ a) (h1 : a ≤ 1000000) : wrap64 (wrap64 (a * a) * a) = a * a * a := by
  obtain ⟨h2, h3⟩ := sq_le h0 h1
  obtain ⟨h4, h5⟩ := cube_le h0 h1
  rw [w64 (x := a * a) (by omega) (by omega), w64 (by omega) (by omega)]

def IsSep (c r : Int) : Prop := 0 ≤ r ∧ r ≤ 300000 ∧ c ≤ r * r * r ∧ (r = 0 ∨ (r - 1) * (r - 1) * (r - 1) < c)
theorem IsSep.same {c r q : Int} (h : IsSep c r) (k : IsSep c q) : r = q := by
  obtain ⟨h0, h1, h2, h3⟩ := h
  obtain ⟨k0, k1, k2, k3⟩ := k
  rcases Int.lt_trichotomy r q with hlt | heq | hgt
  · exfalso
    have := (cube_le h0 (show r ≤ q - 1 by omega)).2
    omega
  · exact heq
  · exfalso
    have := (cube_le k0 (show q ≤ r - 1 by omega)).2
    omega
noncomputable def sepM (c : Int) : Int := open Classical in if h : ∃ r, IsSep c r then h.choose else 0
theorem sepM_eq {c r : Int} (h : IsSep c r) : sepM c = r := by
  have hx : ∃ r, IsSep c r := ⟨r, h⟩
  unfold sepM
  rw [dif_pos hx]
  exact IsSep.same hx.choose_spec h
theorem half {x : Int} (h0 : 0 ≤ x) (h1 : x ≤ 1000000) : wrap64 (Int.tdiv (wrap64 x) 2) = x / 2 := by
  rw [w64 (x := x) (by omega) (by omega), Int.tdiv_eq_ediv_of_nonneg h0]
  exact w64 (by omega) (by omega)
theorem impl_sep_loop (c : Int) (hc : c ≤ 300000 * 300000 * 300000) (d : Nat) : ∀ (k : Nat) (lo hi : Int), 0 ≤ lo → lo ≤ hi → hi ≤ 300000 → (hi - lo).toNat ≤ d → d < k → (lo = 0 ∨ (lo - 1) * (lo - 1) * (lo - 1) < c) → c ≤ hi * hi * hi →
    ∃ r, impl_separation.l0 k c lo hi = some r ∧ IsSep c r := by
  induction d with
  | zero =>
    intro k lo hi h0 h1 h2 hd hk hl hh
    obtain ⟨k, rfl⟩ : ∃ m, k = m + 1 := ⟨k - 1, by omega⟩
    obtain rfl : lo = hi := by omega
    refine ⟨lo, ?_, h0, h2, hh, hl⟩
    simp only [impl_separation.l0]
    rw [if_neg (by omega)]
  | succ d ih =>
    intro k lo hi h0 h1 h2 hd hk hl hh
    obtain ⟨k, rfl⟩ : ∃ m, k = m + 1 := ⟨k - 1, by omega⟩
    by_cases hlt : lo < hi
    · simp only [impl_separation.l0]
      rw [if_pos hlt, half (by omega) (by omega)]
      rw [cubeW (by omega) (by omega)]
      by_cases hge : (lo + hi) / 2 * ((lo + hi) / 2) * ((lo + hi) / 2) ≥ c
      · rw [if_pos hge]
        exact ih k lo ((lo + hi) / 2) h0 (by omega) (by omega) (by omega) (by omega) hl hge
      · rw [if_neg hge, w64 (by omega) (by omega)]
        refine ih k ((lo + hi) / 2 + 1) hi (by omega) (by omega) h2 (by omega) (by omega) (.inr ?_) hh
        rw [show (lo + hi) / 2 + 1 - 1 = (lo + hi) / 2 by omega]
        omega
    · obtain rfl : lo = hi := by omega
      refine ⟨lo, ?_, h0, h2, hh, hl⟩
      simp only [impl_separation.l0]
      rw [if_neg hlt]
theorem need_bound {f g : Int} (h0 : 0 ≤ f) (h1 : f ≤ 500) (h2 : 0 ≤ g) (h3 : g ≤ 100000000) : 0 ≤ f * f * f * g ∧ f * f * f * g ≤ 12500000000000000 := by
  obtain ⟨h4, h5⟩ := cube_le h0 h1
  exact ⟨Int.mul_nonneg h4 h2, Int.le_trans (Int.mul_le_mul h5 h3 h2 (by omega)) (by omega)⟩
theorem needW {f g : Int} (h0 : 0 ≤ f) (h1 : f ≤ 500) (h2 : 0 ≤ g) (h3 : g ≤ 100000000) : wrap64 (wrap64 (wrap64 (f * f) * f) * g) = f * f * f * g := by
  obtain ⟨h4, h5⟩ := need_bound h0 h1 h2 h3
  rw [cubeW h0 (by omega)]
  exact w64 (by omega) (by omega)
theorem isSep_sepM {f g : Int} (h0 : 0 ≤ f) (h1 : f ≤ 500) (h2 : 0 ≤ g) (h3 : g ≤ 100000000) : IsSep (f * f * f * g) (sepM (f * f * f * g)) := by
  obtain ⟨h4, h5⟩ := need_bound h0 h1 h2 h3
  obtain ⟨r, _, hr⟩ := impl_sep_loop (f * f * f * g) (by omega) 300000 300001 0 300000 (by omega) (by omega) (by omega) (by omega) (by omega) (.inl rfl) (by omega)
  rw [sepM_eq hr]
  exact hr
theorem impl_separation_ev (f g : Int) (h0 : 0 ≤ f) (h1 : f ≤ 500) (h2 : 0 ≤ g) (h3 : g ≤ 100000000) : Ev (fun k => impl_separation.f k f g) (sepM (f * f * f * g)) := by
  obtain ⟨h4, h5⟩ := need_bound h0 h1 h2 h3
  refine ⟨300001, fun k hk => ?_⟩
  obtain ⟨r, hr, hs⟩ := impl_sep_loop (f * f * f * g) (by omega) 300000 k 0 300000 (by omega) (by omega) (by omega) (by omega) (by omega) (.inl rfl) (by omega)
  simp only [impl_separation.f]
  rw [needW h0 h1 h2 h3, hr, sepM_eq hs]

theorem l27Cube_eq (a : Int) (h0 : 0 ≤ a) (h1 : a ≤ 1000000) : spec_l27Cube.f a = some (a * a * a) := by
  unfold spec_l27Cube.f; rw [cubeW h0 h1]

theorem spec_need_loop (f g : Int) (h0 : 0 ≤ f) (h1 : f ≤ 500) (h2 : 0 ≤ g) (h3 : g ≤ 100000000) (d : Nat) : ∀ (k : Nat) (lo hi : Int), -1 ≤ lo → lo < hi → hi ≤ 300000 → (hi - lo).toNat ≤ d → d < k → (lo = -1 ∨ (0 ≤ lo ∧ lo * lo * lo < f * f * f * g)) → f * f * f * g ≤ hi * hi * hi →
    ∃ r, spec_l27Need.l0 k f g lo hi = some r ∧ IsSep (f * f * f * g) r := by
  obtain ⟨hb1, hb2⟩ := need_bound h0 h1 h2 h3
  induction d with
  | zero => intro k lo hi _ _ _ hd; omega
  | succ d ih =>
    intro k lo hi hl0 hlt hh hd hk hl hc
    obtain ⟨k, rfl⟩ : ∃ m, k = m + 1 := ⟨k - 1, by omega⟩
    simp only [spec_l27Need.l0]
    rw [w64 (x := lo + 1) (by omega) (by omega)]
    by_cases h : lo + 1 < hi
    · have hm : 0 ≤ (lo + hi) / 2 ∧ (lo + hi) / 2 ≤ 300000 ∧ lo < (lo + hi) / 2 ∧ (lo + hi) / 2 < hi := by omega
      rw [if_pos h, half (by omega) (by omega), l27Cube_eq _ hm.1 (by omega), l27Cube_eq f h0 (by omega)]
      simp only [Option.bind_some]
      rw [w64 (x := f * f * f * g) (by omega) (by omega)]
      by_cases hge : (lo + hi) / 2 * ((lo + hi) / 2) * ((lo + hi) / 2) ≥ f * f * f * g
      · rw [if_pos hge]
        exact ih k lo ((lo + hi) / 2) hl0 (by omega) (by omega) (by omega) (by omega) hl hge
      · rw [if_neg hge]
        exact ih k ((lo + hi) / 2) hi (by omega) (by omega) (by omega) (by omega) (by omega) (.inr ⟨hm.1, by omega⟩) hc
    · rw [if_neg h]
      refine ⟨hi, rfl, by omega, hh, hc, ?_⟩
      rcases hl with rfl | ⟨ha, hb⟩
      · exact .inl (by omega)
      · refine .inr ?_
        rw [show hi - 1 = lo by omega]
        exact hb
theorem spec_l27Need_ev (f g : Int) (h0 : 0 ≤ f) (h1 : f ≤ 500) (h2 : 0 ≤ g) (h3 : g ≤ 100000000) : Ev (fun k => spec_l27Need.f k f g) (sepM (f * f * f * g)) := by
  obtain ⟨hb1, hb2⟩ := need_bound h0 h1 h2 h3
  refine ⟨300002, fun k hk => ?_⟩
  obtain ⟨r, hr, hs⟩ := spec_need_loop f g h0 h1 h2 h3 300001 k (-1) 300000 (by omega) (by omega) (by omega) (by omega) (by omega) (.inl rfl) (by omega)
  simp only [spec_l27Need.f]
  rw [hr, sepM_eq hs]

/-- Are two depots too close, with other grams of the first? -/
noncomputable def closeM (a : S51) (g : Int) (b : S51) (f : Int) : Bool := decide (sqM a b.f0 b.f1 < sepM (f * f * f * max g b.f2) * sepM (f * f * f * max g b.f2))
theorem sep_sq {f g : Int} (h0 : 0 ≤ f) (h1 : f ≤ 500) (h2 : 0 ≤ g) (h3 : g ≤ 100000000) : 0 ≤ sepM (f * f * f * g) * sepM (f * f * f * g) ∧ sepM (f * f * f * g) * sepM (f * f * f * g) ≤ 90000000000 := by
  obtain ⟨h4, h5, _⟩ := isSep_sepM h0 h1 h2 h3
  have := sq_le h4 h5
  omega
theorem impl_areClose_ev {a b : S51} (ha : OkDepot a) (hb : OkDepot b) {g f : Int} (hg : 0 ≤ g ∧ g ≤ 100000000) (hf : 0 ≤ f ∧ f ≤ 500) : Ev (fun k => impl_areClose.f k a.f0 a.f1 g b.f0 b.f1 b.f2 f) (closeM a g b f) := by
  have hm : 0 ≤ max g b.f2 ∧ max g b.f2 ≤ 100000000 := by have := hb.g; omega
  have hs := sep_sq hf.1 hf.2 hm.1 hm.2
  unfold impl_areClose.f
  rw [mx_eq]
  refine Ev.bind (impl_separation_ev f _ hf.1 hf.2 hm.1 hm.2) (Ev_bindc (impl_squareOf_eq ha hb.x hb.y g) (Ev_some ?_))
  unfold closeM
  rw [w64 (by omega) (by omega)]
theorem spec_l27Close_ev {a b : S51} (ha : OkDepot a) (hb : OkDepot b) {g f : Int} (hg : 0 ≤ g ∧ g ≤ 100000000) (hf : 0 ≤ f ∧ f ≤ 500) : Ev (fun k => spec_l27Close.f k a.f0 a.f1 g b.f0 b.f1 b.f2 f) (closeM a g b f) := by
  have hm : 0 ≤ max g b.f2 ∧ max g b.f2 ≤ 100000000 := by have := hb.g; omega
  have hs := sep_sq hf.1 hf.2 hm.1 hm.2
  unfold spec_l27Close.f
  rw [mx_eq]
  refine Ev.bind (spec_l27Need_ev f _ hf.1 hf.2 hm.1 hm.2) (Ev_bindc (spec_square_eq ha hb.x hb.y g) (Ev_some ?_))
  unfold closeM
  rw [w64 (by omega) (by omega)]

theorem Ev_succ {α : Type} {g : Nat → Option α} {r : α} (h : Ev (fun k => g (k + 1)) r) : Ev g r := Ev.step (fun _ => rfl) h
theorem Ev_for2 {S ρ : Type} {F : Nat → S → Int → Option ρ} {step : S → Int → ρ ⊕ S} {out : S → ρ} {n : Nat} (Inv : S → Int → Prop)
    (hend : ∀ s, Inv s n → Ev (fun k => F k s n) (out s))
    (hstep : ∀ (s : S) (i : Int), 0 ≤ i → i < n → Inv s i → (∃ r, step s i = .inl r ∧ Ev (fun k => F k s i) r) ∨ (∃ s', step s i = .inr s' ∧ Inv s' (i + 1) ∧ ∀ r, Ev (fun k => F k s' (i + 1)) r → Ev (fun k => F k s i) r)) :
    ∀ (d : Nat) (s : S) (i : Int), 0 ≤ i → i + d = n → Inv s i → Ev (fun k => F k s i) (forM step out d s i) := by
  intro d
  induction d with
  | zero =>
    intro s i h0 h1 hI
    obtain rfl : i = n := by omega
    exact hend s hI
  | succ d ih =>
    intro s i h0 h1 hI
    rcases hstep s i h0 (by omega) hI with ⟨r, hr, hK⟩ | ⟨s', hs, hI', hK⟩
    · simp only [forM, hr]
      exact hK
    · simp only [forM, hs]
      exact hK _ (ih s' (i + 1) (by omega) (by omega) hI')
/-- A loop over a list that only gathers: a fold. -/
theorem forM_fold {S ρ α : Type} (xs : List α) (rdx : Int → α) (hrd : ∀ (j : Nat) (h : j < xs.length), rdx j = xs[j]) (upd : S → α → S) (out : S → ρ) (d : Nat) : ∀ (s : S) (i : Nat), i + d = xs.length →
    forM (ρ := ρ) (fun s i => .inr (upd s (rdx i))) out d s i = out ((xs.drop i).foldl upd s) := by
  induction d with
  | zero =>
    intro s i hi
    rw [List.drop_eq_nil_of_le (by omega)]
    rfl
  | succ d ih =>
    intro s i hi
    rw [List.drop_eq_getElem_cons (show i < xs.length by omega)]
    simp only [forM, List.foldl_cons]
    have := ih (upd s (rdx i)) (i + 1) (by omega)
    rw [← hrd i (by omega)]
    exact this
theorem forM_fold0 {S ρ α : Type} (xs : List α) (rdx : Int → α) (hrd : ∀ (j : Nat) (h : j < xs.length), rdx j = xs[j]) (upd : S → α → S) (out : S → ρ) (s : S) :
    forM (ρ := ρ) (fun s i => .inr (upd s (rdx i))) out xs.length s 0 = out (xs.foldl upd s) := by
  have := forM_fold xs rdx hrd upd out xs.length s 0 (by omega)
  rw [List.drop_zero] at this
  exact this
/-- A loop that looks at each place, and stops at the first that fails. -/
theorem forM_all {p : Int → Bool} {b : Bool} {n : Nat} (d : Nat) : ∀ i : Int, 0 ≤ i → i + d = n → (forM (S := Unit) (ρ := Bool) (fun _ i => if p i = true then .inr () else .inl false) (fun _ => b) d () i = true ↔ b = true ∧ ∀ j : Int, i ≤ j → j < n → p j = true) := by
  induction d with
  | zero =>
    intro i h0 hi
    simp only [forM]
    exact ⟨fun h => ⟨h, fun j h1 h2 => by omega⟩, fun h => h.1⟩
  | succ d ih =>
    intro i h0 hi
    simp only [forM]
    by_cases hp : p i = true
    · rw [if_pos hp]
      refine (ih (i + 1) (by omega) (by omega)).trans ⟨fun h => ⟨h.1, fun j h1 h2 => ?_⟩, fun h => ⟨h.1, fun j h1 h2 => h.2 j (by omega) h2⟩⟩
      by_cases hj : j = i
      · rw [hj]; exact hp
      · exact h.2 j (by omega) h2
    · rw [if_neg hp]
      exact ⟨(fun h => by cases h), fun h => absurd (h.2 i (Int.le_refl _) (by omega)) hp⟩

/-- A loop that never stops before its end. -/
def foldU {S : Type} (upd : S → Int → S) : Nat → S → Int → S
  | 0, s, _ => s
  | d + 1, s, i => foldU upd d (upd s i) (i + 1)
theorem foldU_ind {S : Type} {upd : S → Int → S} {n : Int} (Inv : S → Int → Prop) (hstep : ∀ (s : S) (i : Int), 0 ≤ i → i < n → Inv s i → Inv (upd s i) (i + 1)) : ∀ (d : Nat) (s : S) (i : Int), 0 ≤ i → i + d = n → Inv s i → Inv (foldU upd d s i) n := by
  intro d
  induction d with
  | zero => intro s i h0 h1 hI; obtain rfl : i = n := by omega
            exact hI
  | succ d ih => intro s i h0 h1 hI; exact ih _ _ (by omega) (by omega) (hstep s i h0 (by omega) hI)
theorem Ev_forK {S τ : Type} {F : Nat → S → Int → Option τ} {upd : S → Int → S} {n : Int} {r : τ} (Inv : S → Int → Prop)
    (hstep : ∀ (s : S) (i : Int), 0 ≤ i → i < n → Inv s i → Inv (upd s i) (i + 1) ∧ (Ev (fun k => F k (upd s i) (i + 1)) r → Ev (fun k => F k s i) r)) :
    ∀ (d : Nat) (s : S) (i : Int), 0 ≤ i → i + d = n → Inv s i → (Inv (foldU upd d s i) n → Ev (fun k => F k (foldU upd d s i) n) r) → Ev (fun k => F k s i) r := by
  intro d
  induction d with
  | zero => intro s i h0 h1 hI h; obtain rfl : i = n := by omega
            exact h hI
  | succ d ih =>
    intro s i h0 h1 hI h
    obtain ⟨h2, h3⟩ := hstep s i h0 (by omega) hI
    exact h3 (ih _ _ (by omega) (by omega) h2 h)

theorem l27Code_eq (a b : Int) : spec_l27Code.f a b = some (if (0 ≤ a ∧ a ≤ 500) ∧ 0 ≤ b ∧ b ≤ 100000000 then 0 else 2) := by
  unfold spec_l27Code.f; rw [l01In_eq, l01In_eq]
  by_cases h1 : 0 ≤ a ∧ a ≤ 500 <;> by_cases h2 : 0 ≤ b ∧ b ≤ 100000000 <;> simp [h1, h2]

noncomputable def rowU (xs : List S51) (f i : Int) (s : List (List Int)) (j : Int) : List (List Int) := if closeM (rd_T51 xs i) (rd_T51 xs i).f2 (rd_T51 xs j) f = true then s ++ [[i, j]] else s
noncomputable def pairsU (xs : List S51) (f : Int) (s : List (List Int)) (i : Int) : List (List Int) := foldU (rowU xs f i) (xs.length - 1 - i.toNat) s (i + 1)
noncomputable def pairsM (xs : List S51) (f : Int) : List (List Int) := foldU (pairsU xs f) xs.length [] 0
theorem rowU_length {xs : List S51} {f i : Int} {s : List (List Int)} {j c : Int} (h : (s.length : Int) ≤ c + j) : ((rowU xs f i s j).length : Int) ≤ c + (j + 1) := by
  unfold rowU
  split
  · rw [List.length_append]; simp; omega
  · omega
theorem pairsU_length {xs : List S51} {f i : Int} {s : List (List Int)} (hn : xs.length ≤ 8) (h0 : 0 ≤ i) (h1 : i < xs.length) (h : (s.length : Int) ≤ 10 * i) : ((pairsU xs f s i).length : Int) ≤ 10 * (i + 1) := by
  have := foldU_ind (upd := rowU xs f i) (n := xs.length) (fun s j => (s.length : Int) ≤ 10 * i + j) (fun s j _ _ hI => rowU_length hI) (xs.length - 1 - i.toNat) s (i + 1) (by omega) (by omega) (by omega)
  unfold pairsU
  omega
theorem pairsM_length {xs : List S51} (hn : xs.length ≤ 8) (f : Int) : (pairsM xs f).length ≤ 80 := by
  have := foldU_ind (upd := pairsU xs f) (n := xs.length) (fun s i => (s.length : Int) ≤ 10 * i) (fun s i h0 h1 hI => pairsU_length hn h0 h1 hI) xs.length [] 0 (by omega) (by omega) (by simp)
  unfold pairsM
  omega
theorem impl_closePairs_ev {xs : List S51} (hx : AreDepotsM xs) {f : Int} (hf : 0 ≤ f ∧ f ≤ 500) : Ev (fun k => impl_closePairs.f k xs f) (pairsM xs f) := by
  have hn := hx.2
  unfold impl_closePairs.f
  refine Ev_forK (F := fun k s i => impl_closePairs.l0 k xs f s xs (xs.length : Int) i) (upd := pairsU xs f) (n := xs.length) (fun s i => (s.length : Int) ≤ 10 * i) (fun s i h0 h1 hI => ⟨pairsU_length hn h0 h1 hI, fun h => ?_⟩) xs.length [] 0 (by omega) (by omega) (by simp) (fun _ => Ev_succ (by simp only [impl_closePairs.l0]; exact Ev_neg (by omega) (Ev.now _)))
  refine Ev_succ (by
    simp only [impl_closePairs.l0]
    refine Ev_pos h1 (Ev_pos h0 (Ev_pos h1 ?_))
    rw [w64 (by omega) (by omega)]
    refine Ev_forK (F := fun k s j => impl_closePairs.l1 k xs f s i j xs (xs.length : Int) i (rd_T51 xs i).f0 (rd_T51 xs i).f1 (rd_T51 xs i).f2) (upd := rowU xs f i) (n := xs.length) (fun s j => i < j ∧ (s.length : Int) ≤ 10 * i + j) (fun s j h2 h3 hJ => ⟨⟨by omega, rowU_length hJ.2⟩, fun hr => ?_⟩) (xs.length - 1 - i.toNat) s (i + 1) (by omega) (by omega) (by omega) (fun _ => ?_)
    · have hd := ok_at hx h0 h1
      refine Ev_succ (by
        simp only [impl_closePairs.l1]
        refine Ev_pos h3 (Ev_pos h2 (Ev.bind (impl_areClose_ev hd (ok_at hx h2 h3) hd.g hf) ?_))
        rw [w64 (by omega) (by omega)]
        unfold rowU at hr
        refine Ev_ite (fun hc => ?_) (fun hc => ?_)
        · rw [if_pos hc] at hr
          exact Ev_pos (by omega) hr
        · rw [if_neg hc] at hr
          exact hr)
    · refine Ev_succ (by
        simp only [impl_closePairs.l1]
        rw [w64 (x := i + 1) (by omega) (by omega)]
        exact Ev_neg (by omega) h))
theorem spec_TooClose_ev {xs : List S51} (hn : xs.length ≤ 1000000) (f : Int) : Ev (fun k => spec_TooClose.f k xs f) (if AreDepotsM xs then (if 0 ≤ f ∧ f ≤ 500 then (pairsM xs f, 0) else ([], 2)) else ([], 1)) := by
  unfold spec_TooClose.f
  refine Ev.bind (spec_AreDepots_ev xs (by omega)) ?_
  simp only [decide_eq_true_eq]
  refine Ev_ite (fun hx => ?_) (fun hx => by rw [if_neg hx]; exact Ev.now _)
  rw [if_pos hx, l27Code_eq]
  simp only [Option.bind_some]
  by_cases hf : 0 ≤ f ∧ f ≤ 500
  · rw [if_pos hf, if_pos ⟨hf, by omega, by omega⟩]
    have hn := hx.2
    refine Ev_pos rfl ?_
    refine Ev_forK (F := fun k s i => spec_TooClose.l0 k xs f s i) (upd := pairsU xs f) (n := xs.length) (fun s i => (s.length : Int) ≤ 10 * i) (fun s i h0 h1 hI => ⟨pairsU_length hn h0 h1 hI, fun h => ?_⟩) xs.length [] 0 (by omega) (by omega) (by simp) (fun _ => Ev_succ (by simp only [spec_TooClose.l0]; exact Ev_neg (by omega) (Ev.now _)))
    refine Ev_succ (by
      simp only [spec_TooClose.l0]
      refine Ev_pos h1 ?_
      rw [w64 (by omega) (by omega)]
      refine Ev_forK (F := fun k s j => spec_TooClose.l1 k xs f s i j) (upd := rowU xs f i) (n := xs.length) (fun s j => i < j ∧ (s.length : Int) ≤ 10 * i + j) (fun s j h2 h3 hJ => ⟨⟨by omega, rowU_length hJ.2⟩, fun hr => ?_⟩) (xs.length - 1 - i.toNat) s (i + 1) (by omega) (by omega) (by omega) (fun _ => ?_)
      · have hd := ok_at hx h0 h1
        refine Ev_succ (by
          simp only [spec_TooClose.l1]
          refine Ev_pos h3 (Ev_pos h0 (Ev_pos h1 (Ev_pos h2 (Ev.bind (spec_l27Close_ev hd (ok_at hx h2 h3) hd.g hf) ?_))))
          rw [w64 (by omega) (by omega)]
          unfold rowU at hr
          refine Ev_ite (fun hc => ?_) (fun hc => ?_)
          · rw [if_pos hc] at hr
            exact Ev_pos (by omega) hr
          · rw [if_neg hc] at hr
            exact hr)
      · refine Ev_succ (by
          simp only [spec_TooClose.l1]
          rw [w64 (x := i + 1) (by omega) (by omega)]
          exact Ev_neg (by omega) h))
  · rw [if_neg hf, if_neg (fun q => hf q.1)]
    exact Ev_neg (by omega) (Ev.now _)

theorem pairsM_two {xs : List S51} (f : Int) : ∀ p ∈ pairsM xs f, p.length = 2 := by
  unfold pairsM
  refine foldU_ind (upd := pairsU xs f) (n := xs.length) (fun s _ => ∀ p ∈ s, p.length = 2) (fun s i h0 h1 hI => ?_) xs.length [] 0 (by omega) (by omega) (by simp)
  unfold pairsU
  refine foldU_ind (upd := rowU xs f i) (n := xs.length) (fun s _ => ∀ p ∈ s, p.length = 2) (fun s j _ _ hJ => ?_) (xs.length - 1 - i.toNat) s (i + 1) (by omega) (by omega) hI
  unfold rowU
  split
  · intro p hp
    rcases List.mem_append.1 hp with hp | hp
    · exact hJ p hp
    · rw [List.mem_singleton.1 hp]; rfl
  · exact hJ
theorem impl_TooClose_ev {xs : List S51} (f : Int) : Ev (fun k => impl_TooClose.f k xs f) (if AreDepotsM xs then (if 0 ≤ f ∧ f ≤ 500 then (pairsM xs f, 0) else ([], 2)) else ([], 1)) := by
  unfold impl_TooClose.f impl_isFactor.f
  rw [within_eq]
  simp only [Option.bind_some]
  by_cases hx : AreDepotsM xs
  · rw [if_pos hx]
    refine Ev.bind (impl_AreDepots_ev xs) (Ev_pos (decide_eq_true hx) ?_)
    by_cases hf : 0 ≤ f ∧ f ≤ 500
    · rw [if_pos hf]
      exact Ev_pos (decide_eq_true hf) (Ev.bind (impl_closePairs_ev hx hf) (Ev.now _))
    · rw [if_neg hf]
      exact Ev_neg (by simpa using hf) (Ev.now _)
  · rw [if_neg hx]
    exact Ev.bind (impl_AreDepots_ev xs) (Ev_neg (by simpa using hx) (Ev.now _))
theorem core_FnExactTooClose (xs : List S51) (f : Int) (hn : xs.length ≤ 1000000) (_w : (Lit.int .i64 f).wf = true) : ∃ r1 r2, Ev (fun k => spec_TooClose.f k xs f) (r1, r2) ∧ Ev (fun k => impl_TooClose.f k xs f) (r1, r2) ∧ (r1.length ≤ 1000 ∧ ∀ p ∈ r1, p.length ≤ 1000) := by
  have h1 := spec_TooClose_ev hn f
  have h2 := impl_TooClose_ev (xs := xs) f
  by_cases hx : AreDepotsM xs
  · by_cases hf : 0 ≤ f ∧ f ≤ 500
    · rw [if_pos hx, if_pos hf] at h1 h2
      have := pairsM_length hx.2 f
      exact ⟨_, _, h1, h2, by omega, fun p hp => by rw [pairsM_two f p hp]; omega⟩
    · rw [if_pos hx, if_neg hf] at h1 h2
      exact ⟨_, _, h1, h2, by simp, by simp⟩
  · rw [if_neg hx] at h1 h2
    exact ⟨_, _, h1, h2, by simp, by simp⟩

/-- How much room to..S leaves behind a row of n elements. -/
def room (n : Nat) : Nat := if n % 6 = 5 then 0 else if n % 3 = 0 then 1 else n
theorem room_le (n : Nat) : room n ≤ n + 1 := by unfold room; split <;> (try split) <;> omega
theorem room_eq (n : Nat) (h : n ≤ 9223372036854775807) : laws_roomBehind.f (n : Int) = some (room n : Int) := by
  unfold laws_roomBehind.f room
  rw [Int.tmod_eq_emod_of_nonneg (by omega), Int.tmod_eq_emod_of_nonneg (by omega)]
  by_cases h1 : n % 6 = 5
  · rw [if_pos (by omega), if_pos h1]; rfl
  · rw [if_neg (by omega), if_neg h1]
    by_cases h2 : n % 3 = 0
    · rw [if_pos (by omega), if_pos h2]; rfl
    · rw [if_neg (by omega), if_neg h2]
theorem take_set_far {α : Type} (xs : List α) (y : α) {n m : Nat} (h : n ≤ m) : (xs.set m y).take n = xs.take n := by
  apply List.ext_getElem?
  intro i
  by_cases hi : i < n
  · rw [List.getElem?_take_of_lt hi, List.getElem?_take_of_lt hi, List.getElem?_set_ne (by omega)]
  · rw [List.getElem?_eq_none (by simp; omega), List.getElem?_eq_none (by simp; omega)]
theorem take_set_at {α : Type} (xs : List α) (y : α) {n : Nat} (h : n < xs.length) : (xs.set n y).take (n + 1) = xs.take n ++ [y] := by
  rw [List.take_succ_eq_append_getElem (by rw [List.length_set]; exact h), take_set_far xs y (Nat.le_refl n)]
  simp
theorem rooms {n : Nat} (h : n ≤ 1000000) : wrap64 ((n : Int) + (room n : Int)) = ((n + room n : Nat) : Int) := by
  have := room_le n
  rw [w64 (by omega) (by omega)]; omega

theorem eqDepotS_loop (xs : List S51) (hn : xs.length ≤ 9000000000000000000) (d : Nat) : ∀ (k : Nat) (i : Int), 0 ≤ i → i ≤ xs.length → ((xs.length : Int) - i).toNat ≤ d → d < k → laws_eqDepotS.l0 k xs xs i = some true := by
  induction d with
  | zero =>
    intro k i h0 h1 hd hk
    obtain ⟨k, rfl⟩ : ∃ m, k = m + 1 := ⟨k - 1, by omega⟩
    simp only [laws_eqDepotS.l0]
    rw [if_neg (by omega)]
  | succ d ih =>
    intro k i h0 h1 hd hk
    obtain ⟨k, rfl⟩ : ∃ m, k = m + 1 := ⟨k - 1, by omega⟩
    simp only [laws_eqDepotS.l0]
    by_cases hlt : i < (xs.length : Int)
    · rw [if_pos hlt, if_pos h0, if_pos hlt]
      simp only [laws_eqDepot.f, if_true, Option.bind_some]
      rw [w64 (by omega) (by omega)]
      exact ih k (i + 1) (by omega) (by omega) (by omega) (by omega)
    · rw [if_neg hlt]
theorem eqDepotS_refl (xs : List S51) (hn : xs.length ≤ 9000000000000000000) : Ev (fun k => laws_eqDepotS.f k xs xs) true :=
  ⟨xs.length + 1, fun k hk => by
    simp only [laws_eqDepotS.f, if_true]
    exact eqDepotS_loop xs hn xs.length k 0 (by omega) (by omega) (by omega) (by omega)⟩

theorem eqInt64S_loop (xs : List Int) (hn : xs.length ≤ 9000000000000000000) (d : Nat) : ∀ (k : Nat) (i : Int), 0 ≤ i → i ≤ xs.length → ((xs.length : Int) - i).toNat ≤ d → d < k → laws_eqInt64S.l0 k xs xs i = some true := by
  induction d with
  | zero =>
    intro k i h0 h1 hd hk
    obtain ⟨k, rfl⟩ : ∃ m, k = m + 1 := ⟨k - 1, by omega⟩
    simp only [laws_eqInt64S.l0]
    rw [if_neg (by omega)]
  | succ d ih =>
    intro k i h0 h1 hd hk
    obtain ⟨k, rfl⟩ : ∃ m, k = m + 1 := ⟨k - 1, by omega⟩
    simp only [laws_eqInt64S.l0]
    by_cases hlt : i < (xs.length : Int)
    · rw [if_pos hlt, if_pos h0, if_pos hlt]
      simp only [if_true]
      rw [w64 (by omega) (by omega)]
      exact ih k (i + 1) (by omega) (by omega) (by omega) (by omega)
    · rw [if_neg hlt]
theorem eqInt64S_refl (xs : List Int) (hn : xs.length ≤ 9000000000000000000) : Ev (fun k => laws_eqInt64S.f k xs xs) true :=
  ⟨xs.length + 1, fun k hk => by
    simp only [laws_eqInt64S.f, if_true]
    exact eqInt64S_loop xs hn xs.length k 0 (by omega) (by omega) (by omega) (by omega)⟩

theorem eqInt64SS_refl (xs : List (List Int)) (hn : xs.length ≤ 1000 ∧ ∀ p ∈ xs, p.length ≤ 1000) : Ev (fun k => laws_eqInt64SS.f k xs xs) true := by
  have h : ∀ (d : Nat) (i : Int), 0 ≤ i → i + d = xs.length → Ev (fun k => laws_eqInt64SS.l0 k xs xs i) true := by
    intro d
    induction d with
    | zero =>
      intro i h0 h1
      exact Ev_succ (by
        simp only [laws_eqInt64SS.l0]
        exact Ev_neg (by omega) (Ev.now _))
    | succ d ih =>
      intro i h0 h1
      have hp : (rd_L3 xs i).length ≤ 1000 := by
        refine hn.2 _ ?_
        show xs.getD i.toNat [] ∈ xs
        rw [List.getD_eq_getElem?_getD, List.getElem?_eq_getElem (show i.toNat < xs.length by omega)]
        exact List.getElem_mem _
      refine Ev_succ (by
        simp only [laws_eqInt64SS.l0]
        rw [w64 (x := i + 1) (by omega) (by omega)]
        exact Ev_pos (by omega) (Ev_pos h0 (Ev_pos (by omega) (Ev.bind (eqInt64S_refl _ (by omega)) (Ev_pos rfl (ih (i + 1) (by omega) (by omega)))))))
  unfold laws_eqInt64SS.f
  exact Ev_pos rfl (h xs.length 0 (by omega) (by omega))

theorem rdSetDepotS (xs : List S51) {i : Int} (h0 : 0 ≤ i) (h1 : i < xs.length) (v : S51) : rd_T51 (xs.set i.toNat v) i = v := by
  simp [rd_T51, List.getD_eq_getElem?_getD, List.getElem?_set_self (show i.toNat < xs.length by omega)]
theorem markDepotS_loop (d : Nat) : ∀ (x0 : List S51) (m i : Int), 0 ≤ i → i ≤ x0.length → ((x0.length : Int) - i).toNat ≤ d → 0 ≤ m → m + 3 * d ≤ 4000000000000000000 → x0.length ≤ 4000000000000000000 →
    ∃ (m' : Int) (x' : List S51), x'.length = x0.length ∧ (∀ j : Nat, j < i.toNat → x'[j]? = x0[j]?) ∧ m ≤ m' ∧ m' ≤ m + 3 * d ∧ ∀ k, d < k → laws_markDepotS.l0 k x0 m i = some (m', x') := by
  induction d with
  | zero =>
    intro x0 m i h0 h1 hd hm hm2 hn
    refine ⟨m, x0, rfl, fun _ _ => rfl, by omega, by omega, fun k hk => ?_⟩
    obtain ⟨k, rfl⟩ : ∃ m, k = m + 1 := ⟨k - 1, by omega⟩
    simp only [laws_markDepotS.l0]
    rw [if_neg (by omega)]
  | succ d ih =>
    intro x0 m i h0 h1 hd hm hm2 hn
    by_cases hlt : i < (x0.length : Int)
    · obtain ⟨m', x', hl, hx, hm1, hm3, hk⟩ := ih (x0.set i.toNat (⟨m, m + 1, m + 2⟩ : S51)) (m + 3) (i + 1) (by omega) (by rw [List.length_set]; omega) (by rw [List.length_set]; omega) (by omega) (by omega) (by rw [List.length_set]; omega)
      rw [List.length_set] at hl
      refine ⟨m', x', hl, fun j hj => ?_, by omega, by omega, fun k hkd => ?_⟩
      · rw [hx j (by omega), List.getElem?_set_ne (by omega)]
      obtain ⟨k, rfl⟩ : ∃ m, k = m + 1 := ⟨k - 1, by omega⟩
      have h2 := hk k (by omega)
      have w1 : wrap64 (m + 1) = m + 1 := by rw [w64 (by omega) (by omega)] <;> omega
      have w2 : wrap64 ((m + 1) + 1) = m + 2 := by rw [w64 (by omega) (by omega)] <;> omega
      have w3 : wrap64 ((m + 2) + 1) = m + 3 := by rw [w64 (by omega) (by omega)] <;> omega
      have wi : wrap64 (i + 1) = i + 1 := w64 (by omega) (by omega)
      · simp only [laws_markDepotS.l0]
        rw [if_pos hlt, if_pos h0]
        simp only [Option.bind_some, rdSetDepotS x0 h0 hlt, List.set_set, w1, w2, w3, wi]
        exact h2
    · refine ⟨m, x0, rfl, fun _ _ => rfl, by omega, by omega, fun k hk => ?_⟩
      obtain ⟨k, rfl⟩ : ∃ m, k = m + 1 := ⟨k - 1, by omega⟩
      simp only [laws_markDepotS.l0]
      rw [if_neg hlt]
theorem markDepotS_tells (xs : List S51) (hn : xs.length ≤ 2000000) (m : Int) (h0 : 0 ≤ m) (h1 : m ≤ 1000000000000) :
    ∃ (m' : Int) (l' : List S51), Ev (fun k => laws_markDepotS.f k xs m) (m', l') ∧ m ≤ m' ∧ m' ≤ m + 3 * xs.length ∧ l'.length = xs.length := by
  obtain ⟨m', x', hl, _, h2, h3, hk⟩ := markDepotS_loop xs.length xs m 0 (by omega) (by omega) (by omega) h0 (by omega) (by omega)
  exact ⟨m', x', ⟨xs.length + 1, fun k h => hk k (by omega)⟩, h2, h3, hl⟩

theorem rdSetInt64S (xs : List Int) {i : Int} (h0 : 0 ≤ i) (h1 : i < xs.length) (v : Int) : rd (xs.set i.toNat v) i = v := by
  simp [rd, List.getD_eq_getElem?_getD, List.getElem?_set_self (show i.toNat < xs.length by omega)]
theorem markInt64S_loop (d : Nat) : ∀ (x0 : List Int) (m i : Int), 0 ≤ i → i ≤ x0.length → ((x0.length : Int) - i).toNat ≤ d → 0 ≤ m → m + 1 * d ≤ 4000000000000000000 → x0.length ≤ 4000000000000000000 →
    ∃ (m' : Int) (x' : List Int), x'.length = x0.length ∧ (∀ j : Nat, j < i.toNat → x'[j]? = x0[j]?) ∧ m ≤ m' ∧ m' ≤ m + 1 * d ∧ ∀ k, d < k → laws_markInt64S.l0 k x0 m i = some (m', x') ∧ laws_heldInt64S.l0 k x' m i = some m' := by
  induction d with
  | zero =>
    intro x0 m i h0 h1 hd hm hm2 hn
    refine ⟨m, x0, rfl, fun _ _ => rfl, by omega, by omega, fun k hk => ?_⟩
    obtain ⟨k, rfl⟩ : ∃ m, k = m + 1 := ⟨k - 1, by omega⟩
    simp only [laws_markInt64S.l0, laws_heldInt64S.l0]
    rw [if_neg (by omega), if_neg (by omega)]
    exact ⟨rfl, rfl⟩
  | succ d ih =>
    intro x0 m i h0 h1 hd hm hm2 hn
    by_cases hlt : i < (x0.length : Int)
    · obtain ⟨m', x', hl, hx, hm1, hm3, hk⟩ := ih (x0.set i.toNat m) (m + 1) (i + 1) (by omega) (by rw [List.length_set]; omega) (by rw [List.length_set]; omega) (by omega) (by omega) (by rw [List.length_set]; omega)
      rw [List.length_set] at hl
      refine ⟨m', x', hl, fun j hj => ?_, by omega, by omega, fun k hkd => ?_⟩
      · rw [hx j (by omega), List.getElem?_set_ne (by omega)]
      obtain ⟨k, rfl⟩ : ∃ m, k = m + 1 := ⟨k - 1, by omega⟩
      obtain ⟨h2, h3⟩ := hk k (by omega)
      have hr : rd x' i = m := by
        have := hx i.toNat (by omega)
        rw [List.getElem?_set_self (show i.toNat < x0.length by omega)] at this
        simp [rd, List.getD_eq_getElem?_getD, this]
      have w1 : wrap64 (m + 1) = m + 1 := by rw [w64 (by omega) (by omega)] <;> omega
      have wi : wrap64 (i + 1) = i + 1 := w64 (by omega) (by omega)
      refine ⟨?_, ?_⟩
      · simp only [laws_markInt64S.l0]
        rw [if_pos hlt, if_pos h0]
        simp only [Option.bind_some, rdSetInt64S x0 h0 hlt, List.set_set, w1, wi]
        exact h2
      · simp only [laws_heldInt64S.l0]
        rw [if_pos (by omega), if_pos h0, hr]
        simp only [w1, wi, if_true]
        exact h3
    · refine ⟨m, x0, rfl, fun _ _ => rfl, by omega, by omega, fun k hk => ?_⟩
      obtain ⟨k, rfl⟩ : ∃ m, k = m + 1 := ⟨k - 1, by omega⟩
      simp only [laws_markInt64S.l0, laws_heldInt64S.l0]
      rw [if_neg hlt, if_neg hlt]
      exact ⟨rfl, rfl⟩
theorem markInt64S_tells (xs : List Int) (hn : xs.length ≤ 2000000) (m : Int) (h0 : 0 ≤ m) (h1 : m ≤ 1000000000000) :
    ∃ (m' : Int) (l' : List Int), Ev (fun k => laws_markInt64S.f k xs m) (m', l') ∧ m ≤ m' ∧ m' ≤ m + 1 * xs.length ∧ l'.length = xs.length ∧ Ev (fun k => laws_heldInt64S.f k l' m) m' := by
  obtain ⟨m', x', hl, _, h2, h3, hk⟩ := markInt64S_loop xs.length xs m 0 (by omega) (by omega) (by omega) h0 (by omega) (by omega)
  exact ⟨m', x', ⟨xs.length + 1, fun k h => (hk k (by omega)).1⟩, h2, h3, hl, ⟨xs.length + 1, fun k h => (hk k (by omega)).2⟩⟩

theorem markInt64SS_loop (d : Nat) : ∀ (x0 : List (List Int)) (m i : Int), 0 ≤ i → i + d = x0.length → x0.length ≤ 1000 → (∀ p ∈ x0, p.length ≤ 1000) → 0 ≤ m → m + 1000 * d ≤ 1000000000 →
    ∃ (m' : Int) (x' : List (List Int)), x'.length = x0.length ∧ (∀ j : Nat, j < i.toNat → x'[j]? = x0[j]?) ∧ m ≤ m' ∧ m' ≤ m + 1000 * d ∧ Ev (fun k => laws_markInt64SS.l0 k x0 m i) (m', x') ∧ Ev (fun k => laws_heldInt64SS.l0 k x' m i) m' := by
  induction d with
  | zero =>
    intro x0 m i h0 h1 hl hp hm hm2
    exact ⟨m, x0, rfl, fun _ _ => rfl, by omega, by omega, Ev_succ (by
      simp only [laws_markInt64SS.l0]
      exact Ev_neg (by omega) (Ev.now _)), Ev_succ (by
      simp only [laws_heldInt64SS.l0]
      exact Ev_neg (by omega) (Ev.now _))⟩
  | succ d ih =>
    intro x0 m i h0 h1 hl hp hm hm2
    have hlt : i.toNat < x0.length := by omega
    have hpl : (rd_L3 x0 i).length ≤ 1000 := by
      refine hp _ ?_
      show x0.getD i.toNat [] ∈ x0
      rw [List.getD_eq_getElem?_getD, List.getElem?_eq_getElem hlt]
      exact List.getElem_mem _
    obtain ⟨m1, p1, e1, g1, g2, g3, e2⟩ := markInt64S_tells (rd_L3 x0 i) (by omega) m hm (by omega)
    obtain ⟨m', x', hl', hx, hm1, hm3, k1, k2⟩ := ih (x0.set i.toNat p1) m1 (i + 1) (by omega) (by rw [List.length_set]; omega) (by rw [List.length_set]; exact hl) (fun p hq => by
      rcases List.mem_or_eq_of_mem_set hq with hq | rfl
      · exact hp p hq
      · omega) (by omega) (by omega)
    rw [List.length_set] at hl'
    have hr : rd_L3 x' i = p1 := by
      have := hx i.toNat (by omega)
      rw [List.getElem?_set_self hlt] at this
      show x'.getD i.toNat [] = p1
      rw [List.getD_eq_getElem?_getD, this]
      rfl
    refine ⟨m', x', hl', fun j hj => ?_, by omega, by omega, Ev_succ (by
      simp only [laws_markInt64SS.l0]
      rw [w64 (x := i + 1) (by omega) (by omega)]
      exact Ev_pos (by omega) (Ev_pos h0 (Ev.bind e1 k1))), Ev_succ (by
      simp only [laws_heldInt64SS.l0]
      rw [w64 (x := i + 1) (by omega) (by omega), hr]
      exact Ev_pos (by omega) (Ev_pos h0 (Ev.bind e2 (Ev_neg (by omega) k2))))⟩
    rw [hx j (by omega), List.getElem?_set_ne (by omega)]
theorem markInt64SS_tells (xs : List (List Int)) (hn : xs.length ≤ 1000 ∧ ∀ p ∈ xs, p.length ≤ 1000) (m : Int) (h0 : 0 ≤ m) (h1 : m ≤ 1000000) :
    ∃ (m' : Int) (l' : List (List Int)), Ev (fun k => laws_markInt64SS.f k xs m) (m', l') ∧ m ≤ m' ∧ m' ≤ m + 1000 * xs.length ∧ l'.length = xs.length ∧ Ev (fun k => laws_heldInt64SS.f k l' m) m' := by
  obtain ⟨m', x', hl, _, h2, h3, k1, k2⟩ := markInt64SS_loop xs.length xs m 0 (by omega) (by omega) hn.1 hn.2 h0 (by omega)
  exact ⟨m', x', k1, h2, h3, hl, k2⟩

theorem szDepotS_eq (l0 : List S65) (b : Int) (h : -9223372036854775808 ≤ b - (l0.length : Int)) (hb : b ≤ 1000000) : laws_szDepotS.f l0 b = some (if (l0.length : Int) ≤ b then b - (l0.length : Int) else -1) := by
  unfold laws_szDepotS.f
  rw [w64 (by omega) (by omega)]
  by_cases hl : (l0.length : Int) ≤ b
  · rw [if_neg (by omega), if_pos hl]
  · rw [if_pos (by omega), if_neg hl]

def convDepotS (x : S65) : S51 := ⟨x.f0, x.f1, x.f2⟩
theorem toDepotS_l1 (l0 : List S65) (N : Nat) (hN : N ≤ 4000000) (hn : l0.length ≤ N) (d : Nat) : ∀ (k : Nat) (x5 : List S51) (i : Int), x5.length = N → (l0.length : Int) ≤ i → i ≤ N → ((N : Int) - i).toNat ≤ d → d < k →
    ∃ ext, laws_toDepotSX.l1 k l0 x5 i = some ext ∧ ext.length = N ∧ ext.take l0.length = x5.take l0.length := by
  induction d with
  | zero =>
    intro k x5 i h1 h2 h3 hd hk
    obtain ⟨k, rfl⟩ : ∃ m, k = m + 1 := ⟨k - 1, by omega⟩
    refine ⟨x5, ?_, h1, rfl⟩
    simp only [laws_toDepotSX.l1]
    rw [if_neg (by omega), if_pos (by omega), if_pos (by omega)]
  | succ d ih =>
    intro k x5 i h1 h2 h3 hd hk
    obtain ⟨k, rfl⟩ : ∃ m, k = m + 1 := ⟨k - 1, by omega⟩
    simp only [laws_toDepotSX.l1]
    by_cases hlt : i < (x5.length : Int)
    · rw [if_pos hlt]
      simp only [laws_fillerDepot.f, Option.bind_some]
      rw [if_pos (show 0 ≤ i by omega), w64 (by omega) (by omega)]
      refine (ih k _ (i + 1) (by rw [List.length_set]; exact h1) (by omega) (by omega) (by omega) (by omega)).imp fun ext h => ⟨h.1, h.2.1, h.2.2.trans ?_⟩
      exact take_set_far _ _ (by omega)
    · rw [if_neg hlt, if_pos (by omega), if_pos (by omega)]
      exact ⟨x5, rfl, h1, rfl⟩
theorem toDepotS_l0 (l0 : List S65) (N : Nat) (hN : N ≤ 4000000) (hn : l0.length ≤ N) (d : Nat) : ∀ (k : Nat) (x5 : List S51) (i : Int), x5.length = N → 0 ≤ i → i ≤ l0.length → ((l0.length : Int) - i).toNat ≤ d → d + N + 1 < k → x5.take i.toNat = (l0.take i.toNat).map convDepotS →
    ∃ ext, laws_toDepotSX.l0 k l0 x5 i = some ext ∧ ext.length = N ∧ ext.take l0.length = l0.map convDepotS := by
  induction d with
  | zero =>
    intro k x5 i h1 h2 h3 hd hk hx
    obtain ⟨k, rfl⟩ : ∃ m, k = m + 1 := ⟨k - 1, by omega⟩
    simp only [laws_toDepotSX.l0]
    rw [if_neg (by omega)]
    obtain ⟨ext, h4, h5, h6⟩ := toDepotS_l1 l0 N hN hn N k x5 (l0.length : Int) h1 (by omega) (by omega) (by omega) (by omega)
    refine ⟨ext, h4, h5, h6.trans ?_⟩
    have : i.toNat = l0.length := by omega
    rw [this, List.take_length] at hx
    exact hx
  | succ d ih =>
    intro k x5 i h1 h2 h3 hd hk hx
    obtain ⟨k, rfl⟩ : ∃ m, k = m + 1 := ⟨k - 1, by omega⟩
    simp only [laws_toDepotSX.l0]
    by_cases hlt : i < (l0.length : Int)
    · rw [if_pos hlt, if_pos h2]
      simp only [laws_toDepot.f, Option.bind_some]
      rw [if_pos (show i < (x5.length : Int) by omega), w64 (by omega) (by omega)]
      refine ih k _ (i + 1) (by rw [List.length_set]; exact h1) (by omega) (by omega) (by omega) (by omega) ?_
      have e : (i + 1).toNat = i.toNat + 1 := by omega
      rw [e, take_set_at _ _ (show i.toNat < x5.length by omega), hx, List.take_succ_eq_append_getElem (show i.toNat < l0.length by omega), List.map_append]
      have hr : rd_T65 l0 i = l0[i.toNat]'(by omega) := by
        simp [rd_T65, List.getD_eq_getElem?_getD, List.getElem?_eq_getElem (show i.toNat < l0.length by omega)]
      simp [hr, convDepotS]
    · rw [if_neg hlt]
      obtain ⟨ext, h4, h5, h6⟩ := toDepotS_l1 l0 N hN hn N k x5 (l0.length : Int) h1 (by omega) (by omega) (by omega) (by omega)
      refine ⟨ext, h4, h5, h6.trans ?_⟩
      have : i.toNat = l0.length := by omega
      rw [this, List.take_length] at hx
      exact hx
theorem toDepotS_false (l0 : List S65) (h : l0.length ≤ 1000000) : ∃ ext, Ev (fun k => laws_toDepotSX.f k l0 false) ext ∧ ext.length = l0.length + room l0.length ∧ ext.take l0.length = l0.map convDepotS := by
  have hr := room_le l0.length
  obtain ⟨k0, hk0⟩ : ∃ k0 : Nat, l0.length + (l0.length + room l0.length) + 1 < k0 := ⟨_, Nat.lt_succ_self _⟩
  obtain ⟨ext, h1, h2, h3⟩ := toDepotS_l0 l0 (l0.length + room l0.length) (by omega) (by omega) l0.length k0 (List.replicate (l0.length + room l0.length) z51) 0 (by simp) (by omega) (by omega) (by omega) hk0 (by simp)
  have hm := laws_toDepotSX.mono l0 false
  refine ⟨ext, Ev.of (k := k0 + 1) hm ?_, h2, h3⟩
  have e : wrap64 ((l0.length : Int) + (room l0.length : Int)) = ((l0.length + room l0.length : Nat) : Int) := by
    rw [w64 (by omega) (by omega)]; omega
  simp only [laws_toDepotSX.f, laws_toDepotSX.j0, Bool.false_eq_true, if_false]
  rw [room_eq l0.length (by omega), Option.bind_some, e, if_pos (by omega), Int.toNat_natCast, if_pos (by omega)]
  exact h1
theorem toDepotS_true (l0 : List S65) (h : l0.length ≤ 1000000) : ∃ extb, Ev (fun k => laws_toDepotSX.f k l0 true) extb ∧ l0.length ≤ extb.length ∧ extb.take l0.length = l0.map convDepotS ∧ (extb = [] → l0.length = 0) := by
  by_cases hz : l0.length = 0
  · have : l0 = [] := List.eq_nil_of_length_eq_zero hz
    subst this
    refine ⟨[], ⟨1, fun k hk => ?_⟩, by simp, by simp, fun _ => rfl⟩
    obtain ⟨k, rfl⟩ : ∃ m, k = m + 1 := ⟨k - 1, by omega⟩
    simp [laws_toDepotSX.f, laws_toDepotSX.j0]
  · obtain ⟨ext, h1, h2, h3⟩ := toDepotS_false l0 h
    refine ⟨ext, Ev.congr (fun k => ?_) h1, by omega, h3, fun e => by rw [e] at h2; simp at h2; omega⟩
    have e : ((l0.length : Int) == 0) = false := by simpa using hz
    simp only [laws_toDepotSX.f, e, Bool.false_eq_true, if_false, if_true]

theorem FnExactTooClose : laws_FnExactTooClose.Pure := by
  intro l0 a1 hnl0 wa1
  by_cases hs1 : (l0.length : Int) ≤ 1000000
  case neg =>
    exact .inl ⟨-1, by rw [szDepotS_eq _ _ (by omega) (by omega), if_neg hs1], by decide⟩
  refine .inr (?_)
  have hb0 : l0.length ≤ 1000000 := by omega
  have hm0 := room_le l0.length
  obtain ⟨ext0, e0, el0, et0⟩ := toDepotS_false l0 hb0
  obtain ⟨extb0, b0, bl0, bt0, bn0⟩ := toDepotS_true l0 hb0
  have q0 := eqDepotS_refl ext0 (by omega)
  obtain ⟨z_r1, z_r2, s1, s2, hl_z_r1⟩ := core_FnExactTooClose (l0.map convDepotS) a1 (by rw [List.length_map]; exact hb0) wa1
  have qq_he_gs_r1_ws_r1 := eqInt64SS_refl z_r1 (by omega)
  obtain ⟨mk_0, ml_0, mm0, mp0, mu0, ml0⟩ := markDepotS_tells (l0.map convDepotS) (by (try rw [List.length_map]); omega) 101 (by omega) (by omega)
  have mv0 := mu0
  (try rw [List.length_map] at mv0)
  obtain ⟨mk_1, ml_1, mm1, mp1, mu1, ml1, mh1⟩ := markInt64SS_tells z_r1 (by (try rw [List.length_map]); omega) 101 (by omega) (by omega)
  have mv1 := mu1
  (try rw [List.length_map] at mv1)
  obtain ⟨K0_, v_e0⟩ := e0
  obtain ⟨K1_, v_b0⟩ := b0
  obtain ⟨K2_, v_q0⟩ := q0
  obtain ⟨K3_, v_s1⟩ := s1
  obtain ⟨K4_, v_s2⟩ := s2
  obtain ⟨K5_, v_qq_he_gs_r1_ws_r1⟩ := qq_he_gs_r1_ws_r1
  obtain ⟨K6_, v_mm0⟩ := mm0
  obtain ⟨K7_, v_mm1⟩ := mm1
  obtain ⟨K8_, v_mh1⟩ := mh1
  refine ⟨K0_ + K1_ + K2_ + K3_ + K4_ + K5_ + K6_ + K7_ + K8_, (l0.map convDepotS), ext0, extb0, (room l0.length : Int), (1000000 - (l0.length : Int)), z_r1, z_r2, z_r1, mk_0, ml_0, mk_1, ml_1, ?_⟩
  exact { hto0 := v_e0 (K0_ + K1_ + K2_ + K3_ + K4_ + K5_ + K6_ + K7_ + K8_) (by omega), htob0 := v_b0 (K0_ + K1_ + K2_ + K3_ + K4_ + K5_ + K6_ + K7_ + K8_) (by omega), hxl0 := List.length_map .., hnb0 := bn0, hne0 := fun h => by rw [h] at el0; simp at el0; unfold room at el0; split at el0 <;> (try split at el0) <;> omega, hxe0 := by rw [List.length_map]; exact et0.symm, hxb0 := by rw [List.length_map]; exact bt0.symm, hle0 := by rw [List.length_map]; omega, hlb0 := by rw [List.length_map]; exact bl0, hrm0 := by rw [List.length_map]; exact room_eq _ (by omega), hj0 := by rw [List.length_map, el0]; exact rooms hb0, heqx0 := v_q0 (K0_ + K1_ + K2_ + K3_ + K4_ + K5_ + K6_ + K7_ + K8_) (by omega), hz1 := by rw [szDepotS_eq _ _ (by omega) (by omega), if_pos hs1], hn1 := decide_eq_false (by omega), hfspec := v_s1 (K0_ + K1_ + K2_ + K3_ + K4_ + K5_ + K6_ + K7_ + K8_) (by omega), hfimpl := v_s2 (K0_ + K1_ + K2_ + K3_ + K4_ + K5_ + K6_ + K7_ + K8_) (by omega), he_gs_r1_ws_r1 := v_qq_he_gs_r1_ws_r1 (K0_ + K1_ + K2_ + K3_ + K4_ + K5_ + K6_ + K7_ + K8_) (by omega), hm0 := v_mm0 (K0_ + K1_ + K2_ + K3_ + K4_ + K5_ + K6_ + K7_ + K8_) (by omega), hmn0 := decide_eq_false (by omega), hm1 := v_mm1 (K0_ + K1_ + K2_ + K3_ + K4_ + K5_ + K6_ + K7_ + K8_) (by omega), hmn1 := decide_eq_false (by omega), hml1 := ml1.symm, hh_ml_1 := v_mh1 (K0_ + K1_ + K2_ + K3_ + K4_ + K5_ + K6_ + K7_ + K8_) (by omega) }

end Go.Proofs.Ytmhnkhealidjjaa.Pure
