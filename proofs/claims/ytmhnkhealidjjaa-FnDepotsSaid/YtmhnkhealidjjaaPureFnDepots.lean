/- The statement over numbers and lists for FnDepots: the reference and the program answer alike for all arguments. -/
import Derived.Test.YtmhnkhealidjjaaQFnDepotsx10
set_option linter.unusedVariables false
set_option linter.unusedSimpArgs false
namespace Go.Proofs.Ytmhnkhealidjjaa.Pure
open Go.RowKit Go.Proofs.Ytmhnkhealidjjaa.PFnDepots Go.Proofs.YtmhnkhealidjjaaW.PrintWords Go.Proofs.YtmhnkhealidjjaaW.PrintLast Go.Proofs.YtmhnkhealidjjaaW.PrintMore


theorem w64 {x : Int} (h0 : -9223372036854775808 ≤ x) (h1 : x ≤ 9223372036854775807) : wrap64 x = x := by unfold wrap64; omega
theorem Ev_ite {α : Type} {c : Prop} [Decidable c] {g h : Nat → Option α} {r : α} (h1 : c → Ev g r) (h2 : ¬ c → Ev h r) : Ev (fun k => if c then g k else h k) r := by
  by_cases hc : c
  · obtain ⟨K, hK⟩ := h1 hc
    exact ⟨K, fun k hk => (if_pos hc).trans (hK k hk)⟩
  · obtain ⟨K, hK⟩ := h2 hc
    exact ⟨K, fun k hk => (if_neg hc).trans (hK k hk)⟩
theorem Ev_pos {α : Type} {c : Prop} [Decidable c] {g h : Nat → Option α} {r : α} (hc : c) (h1 : Ev g r) : Ev (fun k => if c then g k else h k) r := Ev_ite (fun _ => h1) (fun n => absurd hc n)
theorem Ev_neg {α : Type} {c : Prop} [Decidable c] {g h : Nat → Option α} {r : α} (hc : ¬ c) (h1 : Ev h r) : Ev (fun k => if c then g k else h k) r := Ev_ite (fun n => absurd n hc) (fun _ => h1)
theorem Ev_some {α : Type} {r q : α} (h : r = q) : Ev (fun _ => some r) q := h ▸ Ev.now r
theorem Ev_eq {α : Type} {g : Nat → Option α} {r q : α} (h : r = q) (k : Ev g r) : Ev g q := h ▸ k
theorem Ev_const {α : Type} {o : Option α} {r : α} (h : o = some r) : Ev (fun _ => o) r := by subst h; exact Ev.now r
theorem Ev_bindc {α β : Type} {o : Option α} {f : Nat → α → Option β} {a : α} {r : β} (h : o = some a) (k : Ev (fun n => f n a) r) : Ev (fun n => o.bind (f n)) r := by subst h; exact k
theorem Ev_unique {α : Type} {g : Nat → Option α} {r q : α} (h : Ev g r) (k : Ev g q) : r = q := by
  obtain ⟨K, h⟩ := h
  obtain ⟨L, k⟩ := k
  have h1 := h (max K L) (by omega)
  have h2 := k (max K L) (by omega)
  rw [h1] at h2
  exact Option.some.inj h2
theorem lit64 {x : Int} (h : (Lit.int .i64 x).wf = true) : -9223372036854775808 ≤ x ∧ x ≤ 9223372036854775807 := by
  have h := h
  simp [Lit.wf, IntKind.min, IntKind.max, IntKind.bits, IntKind.signed] at h
  omega
theorem mn_eq (a b : Int) : mn a b = min a b := by unfold mn; omega
theorem mx_eq (a b : Int) : mx a b = max a b := by unfold mx; omega

theorem within_eq (a lo hi : Int) : impl_within.f a lo hi = some (decide (lo ≤ a ∧ a ≤ hi)) := by
  unfold impl_within.f
  by_cases h : lo ≤ a <;> simp [h]

theorem isPlace_eq (x y : Int) : impl_isPlace.f x y = some (decide ((0 ≤ x ∧ x ≤ 100000) ∧ 0 ≤ y ∧ y ≤ 100000)) := by
  unfold impl_isPlace.f; rw [within_eq, within_eq]
  by_cases h1 : 0 ≤ x ∧ x ≤ 100000 <;> by_cases h2 : 0 ≤ y ∧ y ≤ 100000 <;> simp [h1, h2]

theorem l01In_eq (a lo hi : Int) : spec_l01In.f a lo hi = some (decide (lo ≤ a ∧ a ≤ hi)) := by
  unfold spec_l01In.f
  by_cases h : a ≥ lo
  · have : lo ≤ a := h
    simp [this]
  · have : ¬ lo ≤ a := h
    simp [this]

theorem l15Place_eq (x y : Int) : spec_l15Place.f x y = some (decide ((0 ≤ x ∧ x ≤ 100000) ∧ 0 ≤ y ∧ y ≤ 100000)) := by
  unfold spec_l15Place.f; rw [l01In_eq, l01In_eq]
  by_cases h1 : 0 ≤ x ∧ x ≤ 100000 <;> by_cases h2 : 0 ≤ y ∧ y ≤ 100000 <;> simp [h1, h2]

theorem areGrams_eq (a : Int) : impl_areGrams.f a = some (decide (0 ≤ a ∧ a ≤ 100000000)) := by
  unfold impl_areGrams.f; rw [within_eq]; rfl

/-- A depot in its bounds. -/
def OkDepot (d : S51) : Prop := ((0 ≤ d.f0 ∧ d.f0 ≤ 100000) ∧ 0 ≤ d.f1 ∧ d.f1 ≤ 100000) ∧ 0 ≤ d.f2 ∧ d.f2 ≤ 100000000
instance (d : S51) : Decidable (OkDepot d) := by unfold OkDepot; infer_instance
def AreDepotsM (xs : List S51) : Prop := (∀ d ∈ xs, OkDepot d) ∧ xs.length ≤ 8
instance (xs : List S51) : Decidable (AreDepotsM xs) := by unfold AreDepotsM; infer_instance
theorem rdDepot {xs : List S51} {i : Int} (h0 : 0 ≤ i) (h1 : i < xs.length) : rd_T51 xs i = xs[i.toNat]'(by omega) := by
  simp [rd_T51, List.getD_eq_getElem?_getD, List.getElem?_eq_getElem (show i.toNat < xs.length by omega)]
theorem all_drop {α : Type} {p : α → Prop} {xs : List α} {i : Nat} (h : i < xs.length) : (∀ x ∈ xs.drop i, p x) ↔ p xs[i] ∧ ∀ x ∈ xs.drop (i + 1), p x := by
  rw [List.drop_eq_getElem_cons h, List.forall_mem_cons]
theorem spec_areDepots_loop (xs : List S51) (hn : xs.length ≤ 9000000000000000000) (d : Nat) : ∀ (k : Nat) (i : Int), 0 ≤ i → i ≤ xs.length → ((xs.length : Int) - i).toNat ≤ d → d < k →
    spec_AreDepots.l0 k xs i = some (decide ((∀ x ∈ xs.drop i.toNat, OkDepot x) ∧ xs.length ≤ 8)) := by
  induction d with
  | zero =>
    intro k i h0 h1 hd hk
    obtain ⟨k, rfl⟩ : ∃ m, k = m + 1 := ⟨k - 1, by omega⟩
    simp only [spec_AreDepots.l0]
    rw [if_neg (by omega), List.drop_eq_nil_of_le (by omega)]
    congr 1
    simp
    omega
  | succ d ih =>
    intro k i h0 h1 hd hk
    obtain ⟨k, rfl⟩ : ∃ m, k = m + 1 := ⟨k - 1, by omega⟩
    simp only [spec_AreDepots.l0]
    by_cases hlt : i < (xs.length : Int)
    · rw [if_pos hlt, if_pos h0, rdDepot h0 hlt, l15Place_eq, l01In_eq]
      have hall := all_drop (p := OkDepot) (xs := xs) (i := i.toNat) (by omega)
      simp only [Option.bind_some, decide_eq_true_eq]
      by_cases h1 : (0 ≤ (xs[i.toNat]'(by omega)).f0 ∧ (xs[i.toNat]'(by omega)).f0 ≤ 100000) ∧ 0 ≤ (xs[i.toNat]'(by omega)).f1 ∧ (xs[i.toNat]'(by omega)).f1 ≤ 100000
      · rw [if_pos h1]
        by_cases h2 : 0 ≤ (xs[i.toNat]'(by omega)).f2 ∧ (xs[i.toNat]'(by omega)).f2 ≤ 100000000
        · rw [if_pos h2, w64 (by omega) (by omega), ih k (i + 1) (by omega) (by omega) (by omega) (by omega)]
          rw [show (i + 1).toNat = i.toNat + 1 by omega]
          congr 1
          rw [decide_eq_decide, hall]
          exact ⟨fun h => ⟨⟨⟨h1, h2⟩, h.1⟩, h.2⟩, fun h => ⟨h.1.2, h.2⟩⟩
        · rw [if_neg h2, decide_eq_false]
          rw [hall]
          exact fun h => h2 h.1.1.2
      · rw [if_neg h1, decide_eq_false]
        rw [hall]
        exact fun h => h1 h.1.1.1
    · rw [if_neg hlt, List.drop_eq_nil_of_le (by omega)]
      congr 1
      simp
      omega
theorem spec_AreDepots_ev (xs : List S51) (hn : xs.length ≤ 9000000000000000000) : Ev (fun k => spec_AreDepots.f k xs) (decide (AreDepotsM xs)) :=
  ⟨xs.length + 1, fun k hk => by
    simp only [spec_AreDepots.f]
    rw [spec_areDepots_loop xs hn xs.length k 0 (by omega) (by omega) (by omega) (by omega)]
    rfl⟩
theorem impl_areDepots_loop (xs : List S51) (hn : xs.length ≤ 8) (d : Nat) : ∀ (k : Nat) (i : Int), 0 ≤ i → i ≤ xs.length → ((xs.length : Int) - i).toNat ≤ d → d < k →
    impl_AreDepots.l0 k xs (xs.length : Int) i = some (decide ((∀ x ∈ xs.drop i.toNat, OkDepot x))) := by
  induction d with
  | zero =>
    intro k i h0 h1 hd hk
    obtain ⟨k, rfl⟩ : ∃ m, k = m + 1 := ⟨k - 1, by omega⟩
    simp only [impl_AreDepots.l0]
    rw [if_neg (by omega), List.drop_eq_nil_of_le (by omega)]
    simp
  | succ d ih =>
    intro k i h0 h1 hd hk
    obtain ⟨k, rfl⟩ : ∃ m, k = m + 1 := ⟨k - 1, by omega⟩
    simp only [impl_AreDepots.l0]
    by_cases hlt : i < (xs.length : Int)
    · rw [if_pos hlt, if_pos h0, if_pos hlt, rdDepot h0 hlt, isPlace_eq, areGrams_eq]
      have hall := all_drop (p := OkDepot) (xs := xs) (i := i.toNat) (by omega)
      simp only [Option.bind_some, decide_eq_true_eq]
      by_cases h1 : (0 ≤ (xs[i.toNat]'(by omega)).f0 ∧ (xs[i.toNat]'(by omega)).f0 ≤ 100000) ∧ 0 ≤ (xs[i.toNat]'(by omega)).f1 ∧ (xs[i.toNat]'(by omega)).f1 ≤ 100000
      · rw [if_pos h1]
        by_cases h2 : 0 ≤ (xs[i.toNat]'(by omega)).f2 ∧ (xs[i.toNat]'(by omega)).f2 ≤ 100000000
        · rw [if_pos h2, w64 (by omega) (by omega), ih k (i + 1) (by omega) (by omega) (by omega) (by omega)]
          rw [show (i + 1).toNat = i.toNat + 1 by omega]
          congr 1
          rw [decide_eq_decide, hall]
          exact ⟨fun h => ⟨⟨h1, h2⟩, h⟩, fun h => h.2⟩
        · rw [if_neg h2, decide_eq_false]
          rw [hall]
          exact fun h => h2 h.1.2
      · rw [if_neg h1, decide_eq_false]
        rw [hall]
        exact fun h => h1 h.1.1
    · rw [if_neg hlt, List.drop_eq_nil_of_le (by omega)]
      simp
theorem impl_AreDepots_ev (xs : List S51) : Ev (fun k => impl_AreDepots.f k xs) (decide (AreDepotsM xs)) := by
  by_cases h : xs.length ≤ 8
  · refine ⟨xs.length + 1, fun k hk => ?_⟩
    simp only [impl_AreDepots.f]
    rw [if_neg (by omega), impl_areDepots_loop xs h xs.length k 0 (by omega) (by omega) (by omega) (by omega)]
    congr 1
    rw [decide_eq_decide]
    exact ⟨fun q => ⟨q, h⟩, fun q => q.1⟩
  · refine ⟨0, fun k _ => ?_⟩
    simp only [impl_AreDepots.f]
    rw [if_pos (by omega), decide_eq_false]
    exact fun q => h q.2

theorem sq_le {a b : Int} (h0 : 0 ≤ a) (h : a ≤ b) : 0 ≤ a * a ∧ a * a ≤ b * b := ⟨Int.mul_nonneg h0 h0, Int.mul_le_mul h h h0 (by omega)⟩
theorem cube_le {a b : Int} (h0 : 0 ≤ a) (h : a ≤ b) : 0 ≤ a * a * a ∧ a * a * a ≤ b * b * b := by
  obtain ⟨h1, h2⟩ := sq_le h0 h
  exact ⟨Int.mul_nonneg h1 h0, Int.mul_le_mul h2 h h0 (by omega)⟩
theorem cube_lt {a b : Int} (h0 : 0 ≤ a) (h : a < b) : a * a * a < b * b * b := by
  obtain ⟨h1, h2⟩ := cube_le h0 (show a ≤ b - 1 by omega)
  obtain ⟨c, rfl⟩ : ∃ c, b = c + 1 := ⟨b - 1, by omega⟩
  have e : (c + 1) * (c + 1) * (c + 1) = c * c * c + (3 * (c * c) + 3 * c + 1) := by
    simp only [Int.add_mul, Int.mul_add, Int.mul_one, Int.one_mul]
    omega
  have hc : 0 ≤ c := by omega
  have := Int.mul_nonneg hc hc
  rw [e]
  have e2 : c + 1 - 1 = c := by omega
  rw [e2] at h2
  omega

/-- The square of the distance. -/
def sqM (d : S51) (x y : Int) : Int := (d.f0 - x) * (d.f0 - x) + (d.f1 - y) * (d.f1 - y)
theorem sq_bound {a : Int} (h0 : -100000 ≤ a) (h1 : a ≤ 100000) : 0 ≤ a * a ∧ a * a ≤ 10000000000 := by
  by_cases h : 0 ≤ a
  · have := sq_le h h1
    omega
  · have := sq_le (show 0 ≤ -a by omega) (show -a ≤ 100000 by omega)
    rw [Int.neg_mul_neg] at this
    omega
theorem sqM_bound {d : S51} (hd : OkDepot d) {x y : Int} (hx : 0 ≤ x ∧ x ≤ 100000) (hy : 0 ≤ y ∧ y ≤ 100000) : 0 ≤ sqM d x y ∧ sqM d x y ≤ 20000000000 := by
  obtain ⟨⟨⟨h1, h2⟩, h3, h4⟩, _⟩ := hd
  have a := sq_bound (show -100000 ≤ d.f0 - x by omega) (by omega)
  have b := sq_bound (show -100000 ≤ d.f1 - y by omega) (by omega)
  unfold sqM
  omega
theorem squareW {a b x y : Int} (ha : 0 ≤ a ∧ a ≤ 100000) (hb : 0 ≤ b ∧ b ≤ 100000) (hx : 0 ≤ x ∧ x ≤ 100000) (hy : 0 ≤ y ∧ y ≤ 100000) :
    wrap64 (wrap64 (wrap64 (a - x) * wrap64 (a - x)) + wrap64 (wrap64 (b - y) * wrap64 (b - y))) = (a - x) * (a - x) + (b - y) * (b - y) := by
  have h1 := sq_bound (show -100000 ≤ a - x by omega) (by omega)
  have h2 := sq_bound (show -100000 ≤ b - y by omega) (by omega)
  rw [w64 (x := a - x) (by omega) (by omega), w64 (x := b - y) (by omega) (by omega), w64 (x := (a - x) * (a - x)) (by omega) (by omega), w64 (x := (b - y) * (b - y)) (by omega) (by omega), w64 (by omega) (by omega)]
theorem OkDepot.x {d : S51} (h : OkDepot d) : 0 ≤ d.f0 ∧ d.f0 ≤ 100000 := h.1.1
theorem OkDepot.y {d : S51} (h : OkDepot d) : 0 ≤ d.f1 ∧ d.f1 ≤ 100000 := h.1.2
theorem OkDepot.g {d : S51} (h : OkDepot d) : 0 ≤ d.f2 ∧ d.f2 ≤ 100000000 := h.2
theorem ok_at {xs : List S51} (h : AreDepotsM xs) {i : Int} (h0 : 0 ≤ i) (h1 : i < xs.length) : OkDepot (rd_T51 xs i) := by
  rw [rdDepot h0 h1]
  exact h.1 _ (List.getElem_mem _)

/-- A loop over the numbers 0 to n - 1: d rounds from i on. -/
def forM {S ρ : Type} (step : S → Int → ρ ⊕ S) (out : S → ρ) : Nat → S → Int → ρ
  | 0, s, _ => out s
  | d + 1, s, i => match step s i with
    | .inl r => r
    | .inr s' => forM step out d s' (i + 1)
theorem Ev_for {S ρ : Type} {F : Nat → S → Int → Option ρ} {step : S → Int → ρ ⊕ S} {out : S → ρ} {n : Nat} (Inv : S → Int → Prop)
    (hend : ∀ s, Inv s n → ∃ K, ∀ k, K ≤ k → F k s n = some (out s))
    (hstep : ∀ (s : S) (i : Int), 0 ≤ i → i < n → Inv s i → (∃ r, step s i = .inl r ∧ ∃ K, ∀ k, K ≤ k → F k s i = some r) ∨ (∃ s', step s i = .inr s' ∧ Inv s' (i + 1) ∧ ∃ K, ∀ k, K ≤ k → F (k + 1) s i = F k s' (i + 1))) :
    ∀ (d : Nat) (s : S) (i : Int), 0 ≤ i → i + d = n → Inv s i → Ev (fun k => F k s i) (forM step out d s i) := by
  intro d
  induction d with
  | zero =>
    intro s i h0 h1 hI
    obtain rfl : i = n := by omega
    exact hend s hI
  | succ d ih =>
    intro s i h0 h1 hI
    rcases hstep s i h0 (by omega) hI with ⟨r, hr, hK⟩ | ⟨s', hs, hI', K, hK⟩
    · simp only [forM, hr]
      exact hK
    · simp only [forM, hs]
      obtain ⟨K', h⟩ := ih s' (i + 1) (by omega) (by omega) hI'
      refine ⟨K + K' + 1, fun k hk => ?_⟩
      obtain ⟨k, rfl⟩ : ∃ m, k = m + 1 := ⟨k - 1, by omega⟩
      exact (hK k (by omega)).trans (h k (by omega))
/-- What holds at the end of a loop. -/
theorem forM_ind {S ρ : Type} {step : S → Int → ρ ⊕ S} {out : S → ρ} {n : Nat} (Inv : S → Int → Prop) (Post : ρ → Prop) (hend : ∀ s, Inv s n → Post (out s))
    (hstep : ∀ (s : S) (i : Int), 0 ≤ i → i < n → Inv s i → (∀ r, step s i = .inl r → Post r) ∧ ∀ s', step s i = .inr s' → Inv s' (i + 1)) : ∀ (d : Nat) (s : S) (i : Int), 0 ≤ i → i + d = n → Inv s i → Post (forM step out d s i) := by
  intro d
  induction d with
  | zero =>
    intro s i h0 h1 hI
    obtain rfl : i = n := by omega
    exact hend s hI
  | succ d ih =>
    intro s i h0 h1 hI
    obtain ⟨h2, h3⟩ := hstep s i h0 (by omega) hI
    simp only [forM]
    cases hs : step s i with
    | inl r => exact h2 r hs
    | inr s' => exact ih s' (i + 1) (by omega) (by omega) (h3 s' hs)

theorem impl_squareOf_eq {d : S51} (hd : OkDepot d) {x y : Int} (hx : 0 ≤ x ∧ x ≤ 100000) (hy : 0 ≤ y ∧ y ≤ 100000) (g : Int) : impl_squareOf.f d.f0 d.f1 g x y = some (sqM d x y) := by
  unfold impl_squareOf.f; rw [squareW hd.x hd.y hx hy]; rfl
theorem spec_square_eq {d : S51} (hd : OkDepot d) {x y : Int} (hx : 0 ≤ x ∧ x ≤ 100000) (hy : 0 ≤ y ∧ y ≤ 100000) (g : Int) : spec_l27Square.f d.f0 d.f1 g x y = some (sqM d x y) := by
  unfold spec_l27Square.f; rw [squareW hd.x hd.y hx hy]; rfl

theorem cubeW {a : Int} (h0 : 0 ≤ a) (h1 : a ≤ 1000000) : wrap64 (wrap64 (a * a) * a) = a * a * a := by
  obtain ⟨h2, h3⟩ := sq_le h0 h1
  obtain ⟨h4, h5⟩ := cube_le h0 h1
  rw [w64 (x := a * a) (by omega) (by omega), w64 (by omega) (by omega)]

def IsSep (c r : Int) : Prop := 0 ≤ r ∧ r ≤ 300000 ∧ c ≤ r * r * r ∧ (r = 0 ∨ (r - 1) * (r - 1) * (r - 1) < c)
theorem IsSep.same {c r q : Int} (h : IsSep c r) (k : IsSep c q) : r = q := by
  obtain ⟨h0, h1, h2, h3⟩ := h
  obtain ⟨k0, k1, k2, k3⟩ := k
  rcases Int.lt_trichotomy r q with hlt | heq | hgt
  · exfalso
    have := (cube_le h0 (show r ≤ q - 1 by omega)).2
    omega
  · exact heq
  · exfalso
    have := (cube_le k0 (show q ≤ r - 1 by omega)).2
    omega
noncomputable def sepM (c : Int) : Int := open Classical in if h : ∃ r, IsSep c r then h.choose else 0
theorem sepM_eq {c r : Int} (h : IsSep c r) : sepM c = r := by
  have hx : ∃ r, IsSep c r := ⟨r, h⟩
  unfold sepM
  rw [dif_pos hx]
  exact IsSep.same hx.choose_spec h
theorem half {x : Int} (h0 : 0 ≤ x) (h1 : x ≤ 1000000) : wrap64 (Int.tdiv (wrap64 x) 2) = x / 2 := by
  rw [w64 (x := x) (by omega) (by omega), Int.tdiv_eq_ediv_of_nonneg h0]
  exact w64 (by omega) (by omega)
theorem impl_sep_loop (c : Int) (hc : c ≤ 300000 * 300000 * 300000) (d : Nat) : ∀ (k : Nat) (lo hi : Int), 0 ≤ lo → lo ≤ hi → hi ≤ 300000 → (hi - lo).toNat ≤ d → d < k → (lo = 0 ∨ (lo - 1) * (lo - 1) * (lo - 1) < c) → c ≤ hi * hi * hi →
    ∃ r, impl_separation.l0 k c lo hi = some r ∧ IsSep c r := by
  induction d with
  | zero =>
    intro k lo hi h0 h1 h2 hd hk hl hh
    obtain ⟨k, rfl⟩ : ∃ m, k = m + 1 := ⟨k - 1, by omega⟩
    obtain rfl : lo = hi := by omega
    refine ⟨lo, ?_, h0, h2, hh, hl⟩
    simp only [impl_separation.l0]
    rw [if_neg (by omega)]
  | succ d ih =>
    intro k lo hi h0 h1 h2 hd hk hl hh
    obtain ⟨k, rfl⟩ : ∃ m, k = m + 1 := ⟨k - 1, by omega⟩
    by_cases hlt : lo < hi
    · simp only [impl_separation.l0]
      rw [if_pos hlt, half (by omega) (by omega)]
      rw [cubeW (by omega) (by omega)]
      by_cases hge : (lo + hi) / 2 * ((lo + hi) / 2) * ((lo + hi) / 2) ≥ c
      · rw [if_pos hge]
        exact ih k lo ((lo + hi) / 2) h0 (by omega) (by omega) (by omega) (by omega) hl hge
      · rw [if_neg hge, w64 (by omega) (by omega)]
        refine ih k ((lo + hi) / 2 + 1) hi (by omega) (by omega) h2 (by omega) (by omega) (.inr ?_) hh
        rw [show (lo + hi) / 2 + 1 - 1 = (lo + hi) / 2 by omega]
        omega
    · obtain rfl : lo = hi := by omega
      refine ⟨lo, ?_, h0, h2, hh, hl⟩
      simp only [impl_separation.l0]
      rw [if_neg hlt]
theorem need_bound {f g : Int} (h0 : 0 ≤ f) (h1 : f ≤ 500) (h2 : 0 ≤ g) (h3 : g ≤ 100000000) : 0 ≤ f * f * f * g ∧ f * f * f * g ≤ 12500000000000000 := by
  obtain ⟨h4, h5⟩ := cube_le h0 h1
  exact ⟨Int.mul_nonneg h4 h2, Int.le_trans (Int.mul_le_mul h5 h3 h2 (by omega)) (by omega)⟩
theorem needW {f g : Int} (h0 : 0 ≤ f) (h1 : f ≤ 500) (h2 : 0 ≤ g) (h3 : g ≤ 100000000) : wrap64 (wrap64 (wrap64 (f * f) * f) * g) = f * f * f * g := by
  obtain ⟨h4, h5⟩ := need_bound h0 h1 h2 h3
  rw [cubeW h0 (by omega)]
  exact w64 (by omega) (by omega)
theorem isSep_sepM {f g : Int} (h0 : 0 ≤ f) (h1 : f ≤ 500) (h2 : 0 ≤ g) (h3 : g ≤ 100000000) : IsSep (f * f * f * g) (sepM (f * f * f * g)) := by
  obtain ⟨h4, h5⟩ := need_bound h0 h1 h2 h3
  obtain ⟨r, _, hr⟩ := impl_sep_loop (f * f * f * g) (by omega) 300000 300001 0 300000 (by omega) (by omega) (by omega) (by omega) (by omega) (.inl rfl) (by omega)
  rw [sepM_eq hr]
  exact hr
theorem impl_separation_ev (f g : Int) (h0 : 0 ≤ f) (h1 : f ≤ 500) (h2 : 0 ≤ g) (h3 : g ≤ 100000000) : Ev (fun k => impl_separation.f k f g) (sepM (f * f * f * g)) := by
  obtain ⟨h4, h5⟩ := need_bound h0 h1 h2 h3
  refine ⟨300001, fun k hk => ?_⟩
  obtain ⟨r, hr, hs⟩ := impl_sep_loop (f * f * f * g) (by omega) 300000 k 0 300000 (by omega) (by omega) (by omega) (by omega) (by omega) (.inl rfl) (by omega)
  simp only [impl_separation.f]
  rw [needW h0 h1 h2 h3, hr, sepM_eq hs]

theorem l27Cube_eq (a : Int) (h0 : 0 ≤ a) (h1 : a ≤ 1000000) : spec_l27Cube.f a = some (a * a * a) := by
  unfold spec_l27Cube.f; rw [cubeW h0 h1]

theorem spec_need_loop (f g : Int) (h0 : 0 ≤ f) (h1 : f ≤ 500) (h2 : 0 ≤ g) (h3 : g ≤ 100000000) (d : Nat) : ∀ (k : Nat) (lo hi : Int), -1 ≤ lo → lo < hi → hi ≤ 300000 → (hi - lo).toNat ≤ d → d < k → (lo = -1 ∨ (0 ≤ lo ∧ lo * lo * lo < f * f * f * g)) → f * f * f * g ≤ hi * hi * hi →
    ∃ r, spec_l27Need.l0 k f g lo hi = some r ∧ IsSep (f * f * f * g) r := by
  obtain ⟨hb1, hb2⟩ := need_bound h0 h1 h2 h3
  induction d with
  | zero => intro k lo hi _ _ _ hd; omega
  | succ d ih =>
    intro k lo hi hl0 hlt hh hd hk hl hc
    obtain ⟨k, rfl⟩ : ∃ m, k = m + 1 := ⟨k - 1, by omega⟩
    simp only [spec_l27Need.l0]
    rw [w64 (x := lo + 1) (by omega) (by omega)]
    by_cases h : lo + 1 < hi
    · have hm : 0 ≤ (lo + hi) / 2 ∧ (lo + hi) / 2 ≤ 300000 ∧ lo < (lo + hi) / 2 ∧ (lo + hi) / 2 < hi := by omega
      rw [if_pos h, half (by omega) (by omega), l27Cube_eq _ hm.1 (by omega), l27Cube_eq f h0 (by omega)]
      simp only [Option.bind_some]
      rw [w64 (x := f * f * f * g) (by omega) (by omega)]
      by_cases hge : (lo + hi) / 2 * ((lo + hi) / 2) * ((lo + hi) / 2) ≥ f * f * f * g
      · rw [if_pos hge]
        exact ih k lo ((lo + hi) / 2) hl0 (by omega) (by omega) (by omega) (by omega) hl hge
      · rw [if_neg hge]
        exact ih k ((lo + hi) / 2) hi (by omega) (by omega) (by omega) (by omega) (by omega) (.inr ⟨hm.1, by omega⟩) hc
    · rw [if_neg h]
      refine ⟨hi, rfl, by omega, hh, hc, ?_⟩
      rcases hl with rfl | ⟨ha, hb⟩
      · exact .inl (by omega)
      · refine .inr ?_
        rw [show hi - 1 = lo by omega]
        exact hb
theorem spec_l27Need_ev (f g : Int) (h0 : 0 ≤ f) (h1 : f ≤ 500) (h2 : 0 ≤ g) (h3 : g ≤ 100000000) : Ev (fun k => spec_l27Need.f k f g) (sepM (f * f * f * g)) := by
  obtain ⟨hb1, hb2⟩ := need_bound h0 h1 h2 h3
  refine ⟨300002, fun k hk => ?_⟩
  obtain ⟨r, hr, hs⟩ := spec_need_loop f g h0 h1 h2 h3 300001 k (-1) 300000 (by omega) (by omega) (by omega) (by omega) (by omega) (.inl rfl) (by omega)
  simp only [spec_l27Need.f]
  rw [hr, sepM_eq hs]

/-- Are two depots too close, with other grams of the first? -/
noncomputable def closeM (a : S51) (g : Int) (b : S51) (f : Int) : Bool := decide (sqM a b.f0 b.f1 < sepM (f * f * f * max g b.f2) * sepM (f * f * f * max g b.f2))
theorem sep_sq {f g : Int} (h0 : 0 ≤ f) (h1 : f ≤ 500) (h2 : 0 ≤ g) (h3 : g ≤ 100000000) : 0 ≤ sepM (f * f * f * g) * sepM (f * f * f * g) ∧ sepM (f * f * f * g) * sepM (f * f * f * g) ≤ 90000000000 := by
  obtain ⟨h4, h5, _⟩ := isSep_sepM h0 h1 h2 h3
  have := sq_le h4 h5
  omega
theorem impl_areClose_ev {a b : S51} (ha : OkDepot a) (hb : OkDepot b) {g f : Int} (hg : 0 ≤ g ∧ g ≤ 100000000) (hf : 0 ≤ f ∧ f ≤ 500) : Ev (fun k => impl_areClose.f k a.f0 a.f1 g b.f0 b.f1 b.f2 f) (closeM a g b f) := by
  have hm : 0 ≤ max g b.f2 ∧ max g b.f2 ≤ 100000000 := by have := hb.g; omega
  have hs := sep_sq hf.1 hf.2 hm.1 hm.2
  unfold impl_areClose.f
  rw [mx_eq]
  refine Ev.bind (impl_separation_ev f _ hf.1 hf.2 hm.1 hm.2) (Ev_bindc (impl_squareOf_eq ha hb.x hb.y g) (Ev_some ?_))
  unfold closeM
  rw [w64 (by omega) (by omega)]
theorem spec_l27Close_ev {a b : S51} (ha : OkDepot a) (hb : OkDepot b) {g f : Int} (hg : 0 ≤ g ∧ g ≤ 100000000) (hf : 0 ≤ f ∧ f ≤ 500) : Ev (fun k => spec_l27Close.f k a.f0 a.f1 g b.f0 b.f1 b.f2 f) (closeM a g b f) := by
  have hm : 0 ≤ max g b.f2 ∧ max g b.f2 ≤ 100000000 := by have := hb.g; omega
  have hs := sep_sq hf.1 hf.2 hm.1 hm.2
  unfold spec_l27Close.f
  rw [mx_eq]
  refine Ev.bind (spec_l27Need_ev f _ hf.1 hf.2 hm.1 hm.2) (Ev_bindc (spec_square_eq ha hb.x hb.y g) (Ev_some ?_))
  unfold closeM
  rw [w64 (by omega) (by omega)]

/-- What GramsFor answers. -/
def gramsM (f d : Int) : Int := if f = 0 then 100000000 else min 100000000 (d * d * d / (f * f * f))
theorem cube_pos {a : Int} (h : 0 < a) : 0 < a * a * a := Int.mul_pos (Int.mul_pos h h) h
theorem quotW {x y : Int} (h0 : 0 ≤ x) (h1 : x ≤ 9223372036854775807) (h2 : 0 < y) : wrap64 (Int.tdiv x y) = x / y := by
  rw [Int.tdiv_eq_ediv_of_nonneg h0]
  have h3 : 0 ≤ x / y := Int.ediv_nonneg h0 (by omega)
  have h4 : x / y ≤ x := Int.ediv_le_self y h0
  exact w64 (by omega) (by omega)
theorem l27Grams_eq (f d : Int) (h0 : 0 ≤ f) (h1 : f ≤ 500) (h2 : 0 ≤ d) (h3 : d ≤ 300000) : spec_l27Grams.f f d = some (gramsM f d) := by
  unfold spec_l27Grams.f gramsM
  by_cases h : f = 0
  · simp [h]
  · have hp := cube_pos (show 0 < f by omega)
    obtain ⟨h4, h5⟩ := cube_le h2 h3
    rw [if_neg h, if_neg h, l27Cube_eq d h2 (by omega), l27Cube_eq f h0 (by omega)]
    simp only [Option.bind_some]
    rw [if_neg (by omega), quotW h4 (by omega) hp, mn_eq]

theorem sepM_le {c d : Int} (h : IsSep c (sepM c)) (h0 : 0 ≤ d) (hd : c ≤ d * d * d) : sepM c ≤ d := by
  obtain ⟨h1, _, h3, h4⟩ := h
  rcases Int.lt_or_le d (sepM c) with hlt | hle
  · exfalso
    rcases h4 with h4 | h4
    · omega
    · have := (cube_le h0 (show d ≤ sepM c - 1 by omega)).2
      omega
  · exact hle
theorem lt_sepM {c d : Int} (h : IsSep c (sepM c)) (hd : d * d * d < c) : d < sepM c := by
  obtain ⟨h1, _, h3, h4⟩ := h
  rcases Int.lt_or_le d (sepM c) with hlt | hle
  · exact hlt
  · exfalso
    have := (cube_le h1 hle).2
    omega
theorem sepM_mono {c e : Int} (h : IsSep c (sepM c)) (k : IsSep e (sepM e)) (hce : c ≤ e) : sepM c ≤ sepM e :=
  sepM_le h k.1 (Int.le_trans hce k.2.2.1)
theorem gramsM_bounds {f d : Int} (h0 : 0 ≤ f) (h1 : f ≤ 500) (h2 : 0 ≤ d) (h3 : d ≤ 300000) : 0 ≤ gramsM f d ∧ gramsM f d ≤ 100000000 ∧ f * f * f * gramsM f d ≤ d * d * d ∧ (gramsM f d < 100000000 → d * d * d < f * f * f * (gramsM f d + 1)) := by
  unfold gramsM
  obtain ⟨h4, h5⟩ := cube_le h2 h3
  by_cases hf : f = 0
  · rw [if_pos hf, hf]
    omega
  · rw [if_neg hf]
    have hp := cube_pos (show 0 < f by omega)
    have hq := Int.ediv_nonneg h4 (show 0 ≤ f * f * f by omega)
    have hm : f * f * f * (d * d * d / (f * f * f)) ≤ d * d * d := by
      have := Int.ediv_mul_le (d * d * d) (show f * f * f ≠ 0 by omega)
      rw [Int.mul_comm]
      exact this
    have hl : d * d * d < f * f * f * (d * d * d / (f * f * f) + 1) := by
      have := Int.lt_ediv_add_one_mul_self (d * d * d) hp
      rw [Int.mul_comm (f * f * f)]
      exact this
    refine ⟨by omega, by omega, ?_, fun h => ?_⟩
    · refine Int.le_trans (Int.mul_le_mul_of_nonneg_left (Int.min_le_right ..) (by omega)) hm
    · have e : min 100000000 (d * d * d / (f * f * f)) = d * d * d / (f * f * f) := by omega
      rw [e]
      exact hl

/-- The greatest number whose square is at most n. -/
def IsRoot (n r : Int) : Prop := 0 ≤ r ∧ r ≤ 150000 ∧ r * r ≤ n ∧ n < (r + 1) * (r + 1)
theorem sq_lt {a b : Int} (h0 : 0 ≤ a) (h : a < b) : a * a < b * b := by
  have h1 : a * a ≤ a * b := Int.mul_le_mul_of_nonneg_left (by omega) h0
  have h2 : a * b < b * b := Int.mul_lt_mul_of_pos_right h (by omega)
  omega
theorem spec_root_loop (n : Int) (hn : n < 150000 * 150000) (d : Nat) : ∀ (k : Nat) (lo hi : Int), 0 ≤ lo → lo < hi → hi ≤ 150000 → (hi - lo).toNat ≤ d → d < k → lo * lo ≤ n → n < hi * hi →
    ∃ r, spec_l27Root.l0 k n lo hi = some r ∧ IsRoot n r := by
  induction d with
  | zero => intro k lo hi _ _ _ hd; omega
  | succ d ih =>
    intro k lo hi hl0 hlt hh hd hk hl hc
    obtain ⟨k, rfl⟩ : ∃ m, k = m + 1 := ⟨k - 1, by omega⟩
    simp only [spec_l27Root.l0]
    rw [w64 (x := lo + 1) (by omega) (by omega)]
    by_cases h : lo + 1 < hi
    · have hm : 0 ≤ (lo + hi) / 2 ∧ (lo + hi) / 2 ≤ 150000 ∧ lo < (lo + hi) / 2 ∧ (lo + hi) / 2 < hi := by omega
      have hq := sq_le hm.1 hm.2.1
      rw [if_pos h, half (by omega) (by omega), w64 (x := (lo + hi) / 2 * ((lo + hi) / 2)) (by omega) (by omega)]
      by_cases hge : (lo + hi) / 2 * ((lo + hi) / 2) ≤ n
      · rw [if_pos hge]
        exact ih k ((lo + hi) / 2) hi (by omega) (by omega) (by omega) (by omega) (by omega) hge hc
      · rw [if_neg hge]
        exact ih k lo ((lo + hi) / 2) (by omega) (by omega) (by omega) (by omega) (by omega) hl (by omega)
    · rw [if_neg h]
      refine ⟨lo, rfl, hl0, by omega, hl, ?_⟩
      rw [show lo + 1 = hi by omega]
      exact hc
theorem root_ex (n : Int) (h0 : 0 ≤ n) (hn : n < 150000 * 150000) : ∃ r, IsRoot n r ∧ Ev (fun k => spec_l27Root.f k n) r := by
  obtain ⟨r, hr, hs⟩ := spec_root_loop n hn 150000 150001 0 150000 (by omega) (by omega) (by omega) (by omega) (by omega) (by omega) (by omega)
  refine ⟨r, hs, 150001, fun k hk => ?_⟩
  obtain ⟨q, hq, ht⟩ := spec_root_loop n hn 150000 k 0 150000 (by omega) (by omega) (by omega) (by omega) (by omega) (by omega) (by omega)
  have e : q = r := by
    obtain ⟨a1, a2, a3, a4⟩ := hs
    obtain ⟨b1, b2, b3, b4⟩ := ht
    rcases Int.lt_trichotomy q r with hlt | heq | hgt
    · exfalso
      have := (sq_le (show 0 ≤ q + 1 by omega) (show q + 1 ≤ r by omega)).2
      omega
    · exact heq
    · exfalso
      have := (sq_le (show 0 ≤ r + 1 by omega) (show r + 1 ≤ q by omega)).2
      omega
  simp only [spec_l27Root.f]
  rw [hq, e]
/-- Grams fit into a distance whose root is r if they are at most gramsM. -/
theorem sep_fits {f g n r : Int} (hf : 0 ≤ f ∧ f ≤ 500) (hg : 0 ≤ g ∧ g ≤ 100000000) (hr : IsRoot n r) : n < sepM (f * f * f * g) * sepM (f * f * f * g) ↔ ¬ g ≤ gramsM f r := by
  obtain ⟨h1, h2, h3, h4⟩ := hr
  have hs := isSep_sepM hf.1 hf.2 hg.1 hg.2
  obtain ⟨g0, g1, g2, g3⟩ := gramsM_bounds hf.1 hf.2 h1 (show r ≤ 300000 by omega)
  have hff : 0 ≤ f * f * f := Int.mul_nonneg (Int.mul_nonneg hf.1 hf.1) hf.1
  constructor
  · intro hlt hle
    have hm : f * f * f * g ≤ r * r * r := Int.le_trans (Int.mul_le_mul_of_nonneg_left hle hff) g2
    have hd := sepM_le hs h1 hm
    have := (sq_le hs.1 hd).2
    omega
  · intro hgt
    have hm : r * r * r < f * f * f * g := by
      have h5 : f * f * f * (gramsM f r + 1) ≤ f * f * f * g := Int.mul_le_mul_of_nonneg_left (by omega) hff
      have := g3 (by omega)
      omega
    have hd := lt_sepM hs hm
    have := (sq_le (show 0 ≤ r + 1 by omega) (show r + 1 ≤ sepM (f * f * f * g) by omega)).2
    omega
theorem close_iff {a b : S51} {f g r : Int} (hb : OkDepot b) (hf : 0 ≤ f ∧ f ≤ 500) (hg : 0 ≤ g ∧ g ≤ 100000000) (hr : IsRoot (sqM a b.f0 b.f1) r) : closeM a g b f = false ↔ g ≤ gramsM f r ∧ b.f2 ≤ gramsM f r := by
  have := hb.g
  unfold closeM
  rw [decide_eq_false_iff_not, sep_fits hf (show 0 ≤ max g b.f2 ∧ max g b.f2 ≤ 100000000 by omega) hr]
  omega

theorem Ev_succ {α : Type} {g : Nat → Option α} {r : α} (h : Ev (fun k => g (k + 1)) r) : Ev g r := Ev.step (fun _ => rfl) h
theorem Ev_for2 {S ρ : Type} {F : Nat → S → Int → Option ρ} {step : S → Int → ρ ⊕ S} {out : S → ρ} {n : Nat} (Inv : S → Int → Prop)
    (hend : ∀ s, Inv s n → Ev (fun k => F k s n) (out s))
    (hstep : ∀ (s : S) (i : Int), 0 ≤ i → i < n → Inv s i → (∃ r, step s i = .inl r ∧ Ev (fun k => F k s i) r) ∨ (∃ s', step s i = .inr s' ∧ Inv s' (i + 1) ∧ ∀ r, Ev (fun k => F k s' (i + 1)) r → Ev (fun k => F k s i) r)) :
    ∀ (d : Nat) (s : S) (i : Int), 0 ≤ i → i + d = n → Inv s i → Ev (fun k => F k s i) (forM step out d s i) := by
  intro d
  induction d with
  | zero =>
    intro s i h0 h1 hI
    obtain rfl : i = n := by omega
    exact hend s hI
  | succ d ih =>
    intro s i h0 h1 hI
    rcases hstep s i h0 (by omega) hI with ⟨r, hr, hK⟩ | ⟨s', hs, hI', hK⟩
    · simp only [forM, hr]
      exact hK
    · simp only [forM, hs]
      exact hK _ (ih s' (i + 1) (by omega) (by omega) hI')
/-- A loop over a list that only gathers: a fold. -/
theorem forM_fold {S ρ α : Type} (xs : List α) (rdx : Int → α) (hrd : ∀ (j : Nat) (h : j < xs.length), rdx j = xs[j]) (upd : S → α → S) (out : S → ρ) (d : Nat) : ∀ (s : S) (i : Nat), i + d = xs.length →
    forM (ρ := ρ) (fun s i => .inr (upd s (rdx i))) out d s i = out ((xs.drop i).foldl upd s) := by
  induction d with
  | zero =>
    intro s i hi
    rw [List.drop_eq_nil_of_le (by omega)]
    rfl
  | succ d ih =>
    intro s i hi
    rw [List.drop_eq_getElem_cons (show i < xs.length by omega)]
    simp only [forM, List.foldl_cons]
    have := ih (upd s (rdx i)) (i + 1) (by omega)
    rw [← hrd i (by omega)]
    exact this
theorem forM_fold0 {S ρ α : Type} (xs : List α) (rdx : Int → α) (hrd : ∀ (j : Nat) (h : j < xs.length), rdx j = xs[j]) (upd : S → α → S) (out : S → ρ) (s : S) :
    forM (ρ := ρ) (fun s i => .inr (upd s (rdx i))) out xs.length s 0 = out (xs.foldl upd s) := by
  have := forM_fold xs rdx hrd upd out xs.length s 0 (by omega)
  rw [List.drop_zero] at this
  exact this
/-- A loop that looks at each place, and stops at the first that fails. -/
theorem forM_all {p : Int → Bool} {b : Bool} {n : Nat} (d : Nat) : ∀ i : Int, 0 ≤ i → i + d = n → (forM (S := Unit) (ρ := Bool) (fun _ i => if p i = true then .inr () else .inl false) (fun _ => b) d () i = true ↔ b = true ∧ ∀ j : Int, i ≤ j → j < n → p j = true) := by
  induction d with
  | zero =>
    intro i h0 hi
    simp only [forM]
    exact ⟨fun h => ⟨h, fun j h1 h2 => by omega⟩, fun h => h.1⟩
  | succ d ih =>
    intro i h0 hi
    simp only [forM]
    by_cases hp : p i = true
    · rw [if_pos hp]
      refine (ih (i + 1) (by omega) (by omega)).trans ⟨fun h => ⟨h.1, fun j h1 h2 => ?_⟩, fun h => ⟨h.1, fun j h1 h2 => h.2 j (by omega) h2⟩⟩
      by_cases hj : j = i
      · rw [hj]; exact hp
      · exact h.2 j (by omega) h2
    · rw [if_neg hp]
      exact ⟨(fun h => by cases h), fun h => absurd (h.2 i (Int.le_refl _) (by omega)) hp⟩

/-- A loop that never stops before its end. -/
def foldU {S : Type} (upd : S → Int → S) : Nat → S → Int → S
  | 0, s, _ => s
  | d + 1, s, i => foldU upd d (upd s i) (i + 1)
theorem foldU_ind {S : Type} {upd : S → Int → S} {n : Int} (Inv : S → Int → Prop) (hstep : ∀ (s : S) (i : Int), 0 ≤ i → i < n → Inv s i → Inv (upd s i) (i + 1)) : ∀ (d : Nat) (s : S) (i : Int), 0 ≤ i → i + d = n → Inv s i → Inv (foldU upd d s i) n := by
  intro d
  induction d with
  | zero => intro s i h0 h1 hI; obtain rfl : i = n := by omega
            exact hI
  | succ d ih => intro s i h0 h1 hI; exact ih _ _ (by omega) (by omega) (hstep s i h0 (by omega) hI)
theorem Ev_forK {S τ : Type} {F : Nat → S → Int → Option τ} {upd : S → Int → S} {n : Int} {r : τ} (Inv : S → Int → Prop)
    (hstep : ∀ (s : S) (i : Int), 0 ≤ i → i < n → Inv s i → Inv (upd s i) (i + 1) ∧ (Ev (fun k => F k (upd s i) (i + 1)) r → Ev (fun k => F k s i) r)) :
    ∀ (d : Nat) (s : S) (i : Int), 0 ≤ i → i + d = n → Inv s i → (Inv (foldU upd d s i) n → Ev (fun k => F k (foldU upd d s i) n) r) → Ev (fun k => F k s i) r := by
  intro d
  induction d with
  | zero => intro s i h0 h1 hI h; obtain rfl : i = n := by omega
            exact h hI
  | succ d ih =>
    intro s i h0 h1 hI h
    obtain ⟨h2, h3⟩ := hstep s i h0 (by omega) hI
    exact h3 (ih _ _ (by omega) (by omega) h2 h)

theorem isFactor_eq (a : Int) : impl_isFactor.f a = some (decide (0 ≤ a ∧ a ≤ 500)) := by
  unfold impl_isFactor.f; rw [within_eq]; rfl

theorem isIndex_eq (i : Int) (n : Nat) (hn : n ≤ 9000000000000000000) : impl_isIndex.f i (n : Int) = some (decide (0 ≤ i ∧ i ≤ (n : Int) - 1)) := by
  unfold impl_isIndex.f; rw [w64 (by omega) (by omega), within_eq]; rfl

/-- No other depot is too close. -/
def Far (xs : List S51) (f c g : Int) : Prop := ∀ j : Int, 0 ≤ j → j < xs.length → j ≠ c → closeM (rd_T51 xs c) g (rd_T51 xs j) f = false
theorem root_at {xs : List S51} (hx : AreDepotsM xs) {c j : Int} (h0 : 0 ≤ c) (h1 : c < xs.length) (h2 : 0 ≤ j) (h3 : j < xs.length) : ∃ r, IsRoot (sqM (rd_T51 xs c) (rd_T51 xs j).f0 (rd_T51 xs j).f1) r ∧ Ev (fun k => spec_l27Root.f k (sqM (rd_T51 xs c) (rd_T51 xs j).f0 (rd_T51 xs j).f1)) r := by
  have := sqM_bound (ok_at hx h0 h1) (ok_at hx h2 h3).x (ok_at hx h2 h3).y
  exact root_ex _ this.1 (by omega)
theorem Far.mono {xs : List S51} (hx : AreDepotsM xs) {f c g e : Int} (hf : 0 ≤ f ∧ f ≤ 500) (h0 : 0 ≤ c) (h1 : c < xs.length) (hg : 0 ≤ g) (hge : g ≤ e) (he : e ≤ 100000000) (h : Far xs f c e) : Far xs f c g := fun j h2 h3 hj => by
  obtain ⟨r, hr, _⟩ := root_at hx h0 h1 h2 h3
  have h4 := (close_iff (ok_at hx h2 h3) hf (by omega) hr).1 (h j h2 h3 hj)
  exact (close_iff (ok_at hx h2 h3) hf (by omega) hr).2 ⟨by omega, h4.2⟩
/-- The greatest number of grams, or -1. -/
def IsLimit (xs : List S51) (f c r : Int) : Prop := -1 ≤ r ∧ r ≤ 100000000 ∧ (0 ≤ r → Far xs f c r) ∧ (r < 100000000 → ¬ Far xs f c (r + 1))
theorem IsLimit.same {xs : List S51} (hx : AreDepotsM xs) {f c r q : Int} (hf : 0 ≤ f ∧ f ≤ 500) (h0 : 0 ≤ c) (h1 : c < xs.length) (h : IsLimit xs f c r) (k : IsLimit xs f c q) : r = q := by
  obtain ⟨a1, a2, a3, a4⟩ := h
  obtain ⟨b1, b2, b3, b4⟩ := k
  rcases Int.lt_trichotomy r q with hlt | heq | hgt
  · exact absurd (Far.mono hx hf h0 h1 (by omega) (show r + 1 ≤ q by omega) b2 (b3 (by omega))) (a4 (by omega))
  · exact heq
  · exact absurd (Far.mono hx hf h0 h1 (by omega) (show q + 1 ≤ r by omega) a2 (a3 (by omega))) (b4 (by omega))
def limitOut (r : Int) : Int × Int := if r < 0 then (0, 4) else (r, 0)
noncomputable def closeU (xs : List S51) (f c g : Int) (s : Bool) (j : Int) : Bool := if j = c then s else if closeM (rd_T51 xs c) g (rd_T51 xs j) f = true then true else s
theorem closeU_far (xs : List S51) (f c g : Int) : foldU (closeU xs f c g) xs.length false 0 = false ↔ Far xs f c g := by
  have := foldU_ind (upd := closeU xs f c g) (n := xs.length) (fun s i => s = false ↔ ∀ j : Int, 0 ≤ j → j < i → j ≠ c → closeM (rd_T51 xs c) g (rd_T51 xs j) f = false) (fun s i h0 h1 hI => by
    unfold closeU
    by_cases hc : i = c
    · rw [if_pos hc, hI]
      exact ⟨fun h j h2 h3 h4 => h j h2 (by omega) h4, fun h j h2 h3 h4 => h j h2 (by omega) h4⟩
    · rw [if_neg hc]
      by_cases hm : closeM (rd_T51 xs c) g (rd_T51 xs i) f = true
      · rw [if_pos hm]
        exact ⟨(fun h => by cases h), fun h => by rw [h i h0 (by omega) hc] at hm; exact hm.symm⟩
      · rw [if_neg hm, hI]
        refine ⟨fun h j h2 h3 h4 => ?_, fun h j h2 h3 h4 => h j h2 (by omega) h4⟩
        by_cases hj : j = i
        · rw [hj]; simpa using hm
        · exact h j h2 (by omega) h4) xs.length false 0 (by omega) (by omega) ⟨fun _ j h2 h3 => by omega, fun _ => rfl⟩
  exact this
theorem floorHalf {x : Int} (h0 : -2 ≤ x) (h1 : x ≤ 1000000000) : impl_floorDiv.f x 2 = some (x / 2) := by
  unfold impl_floorDiv.f
  rw [if_neg (by decide)]
  by_cases h : 0 ≤ x
  · rw [Int.tmod_eq_emod_of_nonneg h, Int.tdiv_eq_ediv_of_nonneg h, if_neg (by omega), w64 (by omega) (by omega)]
  · have : x = -1 ∨ x = -2 := by omega
    rcases this with rfl | rfl
    · rw [if_pos (by decide), show Int.tdiv (-1) 2 = 0 from rfl, w64 (x := 0) (by omega) (by omega), w64 (by omega) (by omega)]
      rfl
    · rw [if_neg (by decide), show Int.tdiv (-2) 2 = -1 from rfl, w64 (by omega) (by omega)]
      rfl
theorem impl_limit_loop {xs : List S51} (hx : AreDepotsM xs) {f c : Int} (hf : 0 ≤ f ∧ f ≤ 500) (h0 : 0 ≤ c) (h1 : c < xs.length) (d : Nat) : ∀ (lo hi : Int), -1 ≤ lo → lo ≤ hi → hi ≤ 100000000 → (hi - lo).toNat ≤ d → (0 ≤ lo → Far xs f c lo) → (hi < 100000000 → ¬ Far xs f c (hi + 1)) →
    ∃ r, IsLimit xs f c r ∧ Ev (fun k => impl_LimitOf.l0 k xs f c lo hi) (limitOut r) := by
  have hn := hx.2
  induction d with
  | zero =>
    intro lo hi h2 h3 h4 hd hl hh
    have : lo = hi := by omega
    subst this
    refine ⟨lo, ⟨h2, h4, hl, hh⟩, Ev_succ (by
      simp only [impl_LimitOf.l0]
      refine Ev_neg (by omega) ?_
      unfold limitOut
      exact Ev_ite (fun h => by rw [if_pos h]; exact Ev.now _) (fun h => by rw [if_neg h]; exact Ev.now _))⟩
  | succ d ih =>
    intro lo hi h2 h3 h4 hd hl hh
    by_cases hlt : lo < hi
    · have hm : lo < (lo + hi + 1) / 2 ∧ (lo + hi + 1) / 2 ≤ hi ∧ 0 ≤ (lo + hi + 1) / 2 := by omega
      have hw : wrap64 (wrap64 (lo + hi) + 1) = lo + hi + 1 := by rw [w64 (x := lo + hi) (by omega) (by omega), w64 (by omega) (by omega)]
      have hfar := closeU_far xs f c ((lo + hi + 1) / 2)
      have hloop : ∀ r, (foldU (closeU xs f c ((lo + hi + 1) / 2)) xs.length false 0 = true → Ev (fun k => impl_LimitOf.l0 k xs f c lo ((lo + hi + 1) / 2 - 1)) r) → (foldU (closeU xs f c ((lo + hi + 1) / 2)) xs.length false 0 = false → Ev (fun k => impl_LimitOf.l0 k xs f c ((lo + hi + 1) / 2) hi) r) → Ev (fun k => impl_LimitOf.l0 k xs f c lo hi) r := fun r hy hn' => Ev_succ (by
        simp only [impl_LimitOf.l0]
        refine Ev_pos hlt ?_
        rw [hw, floorHalf (by omega) (by omega)]
        simp only [Option.bind_some]
        refine Ev_pos h0 (Ev_pos h1 ?_)
        refine Ev_forK (F := fun k s j => impl_LimitOf.l1 k xs f c lo hi ((lo + hi + 1) / 2) s xs (xs.length : Int) j (rd_T51 xs c).f0 (rd_T51 xs c).f1 ((lo + hi + 1) / 2)) (upd := closeU xs f c ((lo + hi + 1) / 2)) (n := xs.length) (fun _ _ => True) (fun s j h5 h6 _ => ⟨trivial, fun hr => Ev_succ (by
          simp only [impl_LimitOf.l1]
          refine Ev_pos h6 (Ev_pos h5 (Ev_pos h6 ?_))
          rw [w64 (by omega) (by omega)]
          unfold closeU at hr
          refine Ev_ite (fun hc => by rw [if_pos hc] at hr; exact hr) (fun hc => ?_)
          rw [if_neg hc] at hr
          refine Ev.bind (impl_areClose_ev (ok_at hx h0 h1) (ok_at hx h5 h6) (by omega) hf) ?_
          exact Ev_ite (fun hq => by rw [if_pos hq] at hr; exact hr) (fun hq => by rw [if_neg hq] at hr; exact hr))⟩) xs.length false 0 (by omega) (by omega) trivial (fun _ => Ev_succ (by
          simp only [impl_LimitOf.l1]
          refine Ev_neg (by omega) ?_
          rw [w64 (by omega) (by omega)]
          exact Ev_ite (fun h => hy h) (fun h => hn' (by simpa using h)))))
      by_cases hF : Far xs f c ((lo + hi + 1) / 2)
      · obtain ⟨r, hr, he⟩ := ih ((lo + hi + 1) / 2) hi (by omega) (by omega) h4 (by omega) (fun _ => hF) hh
        exact ⟨r, hr, hloop _ (fun h => by rw [hfar.2 hF] at h; cases h) (fun _ => he)⟩
      · obtain ⟨r, hr, he⟩ := ih lo ((lo + hi + 1) / 2 - 1) h2 (by omega) (by omega) (by omega) hl (fun _ => by rw [show (lo + hi + 1) / 2 - 1 + 1 = (lo + hi + 1) / 2 by omega]; exact hF)
        exact ⟨r, hr, hloop _ (fun _ => he) (fun h => absurd (hfar.1 h) hF)⟩
    · have : lo = hi := by omega
      subst this
      exact ih lo lo h2 h3 h4 (by omega) hl hh
/-- What the other depots up to i leave. -/
def LimitAt (xs : List S51) (f c o i : Int) : Prop := 0 ≤ o ∧ o ≤ 100000000 ∧ (∀ j : Int, 0 ≤ j → j < i → j ≠ c → closeM (rd_T51 xs c) o (rd_T51 xs j) f = false) ∧ (o < 100000000 → ∃ j : Int, 0 ≤ j ∧ j < i ∧ j ≠ c ∧ closeM (rd_T51 xs c) (o + 1) (rd_T51 xs j) f = true)
theorem spec_limit_loop {xs : List S51} (hx : AreDepotsM xs) {f c : Int} (hf : 0 ≤ f ∧ f ≤ 500) (h0 : 0 ≤ c) (h1 : c < xs.length) (d : Nat) : ∀ (o i g : Int), 0 ≤ i → i + d = xs.length → LimitAt xs f c o i →
    ∃ r, IsLimit xs f c r ∧ Ev (fun k => spec_LimitOf.l0 k xs f c o i (rd_T51 xs c).f0 (rd_T51 xs c).f1 g) (limitOut r) := by
  have hn := hx.2
  induction d with
  | zero =>
    intro o i g h2 h3 ⟨h4, h5, h6, h7⟩
    obtain rfl : i = xs.length := by omega
    refine ⟨o, ⟨by omega, h5, fun _ => h6, fun h8 hF => ?_⟩, Ev_succ (by
      simp only [spec_LimitOf.l0]
      refine Ev_neg (by omega) (Ev_some ?_)
      unfold limitOut
      rw [if_neg (by omega)])⟩
    obtain ⟨j, h9, h10, h11, h12⟩ := h7 h8
    rw [hF j h9 h10 h11] at h12
    cases h12
  | succ d ih =>
    intro o i g h2 h3 ⟨h4, h5, h6, h7⟩
    have hi : i < xs.length := by omega
    by_cases hc : i = c
    · obtain ⟨r, hr, he⟩ := ih o (i + 1) g (by omega) (by omega) ⟨h4, h5, fun j h8 h9 h10 => h6 j h8 (by omega) h10, fun h8 => by
        obtain ⟨j, h9, h10, h11⟩ := h7 h8
        exact ⟨j, h9, by omega, h11⟩⟩
      exact ⟨r, hr, Ev_succ (by
        simp only [spec_LimitOf.l0]
        rw [w64 (by omega) (by omega)]
        exact Ev_pos hi (Ev_pos hc he))⟩
    · have hd := ok_at hx h0 h1
      have hb := ok_at hx h2 hi
      obtain ⟨q, hq, hqe⟩ := root_at hx h0 h1 h2 hi
      obtain ⟨g0, g1, g2, g3⟩ := gramsM_bounds hf.1 hf.2 hq.1 (show q ≤ 300000 by have := hq.2.1; omega)
      by_cases hz : closeM (rd_T51 xs c) 0 (rd_T51 xs i) f = true
      · refine ⟨-1, ⟨by omega, by omega, fun h => by omega, fun _ hF => ?_⟩, Ev_succ (by
          simp only [spec_LimitOf.l0]
          refine Ev_pos hi (Ev_neg hc (Ev_pos h2 (Ev.bind (spec_l27Close_ev hd hb (by omega) hf) (Ev_pos hz (Ev.now _)))))) ⟩
        have := hF i h2 hi hc
        rw [show (-1 : Int) + 1 = 0 by omega, hz] at this
        cases this
      · have hz' : closeM (rd_T51 xs c) 0 (rd_T51 xs i) f = false := by simpa using hz
        have hbg := ((close_iff hb hf (by omega) hq).1 hz').2
        obtain ⟨r, hr, he⟩ := ih (min o (gramsM f q)) (i + 1) 0 (by omega) (by omega) ⟨by omega, by omega, fun j h8 h9 h10 => by
            by_cases hj : j = i
            · rw [hj]
              exact (close_iff hb hf (by omega) hq).2 ⟨by omega, hbg⟩
            · obtain ⟨p, hp, _⟩ := root_at hx h0 h1 h8 (show j < xs.length by omega)
              have hbj := ok_at hx h8 (show j < xs.length by omega)
              have := (close_iff hbj hf (by omega) hp).1 (h6 j h8 (by omega) h10)
              exact (close_iff hbj hf (by omega) hp).2 ⟨by omega, this.2⟩, fun h8 => by
            by_cases hmin : o ≤ gramsM f q
            · rw [show min o (gramsM f q) = o by omega] at h8 ⊢
              obtain ⟨j, h9, h10, h11⟩ := h7 h8
              exact ⟨j, h9, by omega, h11⟩
            · rw [show min o (gramsM f q) = gramsM f q by omega] at h8 ⊢
              refine ⟨i, h2, by omega, hc, ?_⟩
              by_cases hcl : closeM (rd_T51 xs c) (gramsM f q + 1) (rd_T51 xs i) f = true
              · exact hcl
              · have := (close_iff (g := gramsM f q + 1) hb hf (by omega) hq).1 (by simpa using hcl)
                omega⟩
        refine ⟨r, hr, Ev_succ (by
          simp only [spec_LimitOf.l0]
          refine Ev_pos hi (Ev_neg hc (Ev_pos h2 (Ev.bind (spec_l27Close_ev hd hb (by omega) hf) (Ev_neg hz ?_))))
          refine Ev_bindc (spec_square_eq hd hb.x hb.y 0) (Ev.bind hqe (Ev_bindc (l27Grams_eq f q hf.1 hf.2 hq.1 (by have := hq.2.1; omega)) ?_))
          rw [w64 (by omega) (by omega), mn_eq]
          exact he)⟩

theorem limit_tells (xs : List S51) (f c : Int) (hn : xs.length ≤ 1000000) : ∃ r1 r2, Ev (fun k => spec_LimitOf.f k xs f c) (r1, r2) ∧ Ev (fun k => impl_LimitOf.f k xs f c) (r1, r2) ∧ (r2 = 0 → AreDepotsM xs ∧ (0 ≤ f ∧ f ≤ 500) ∧ 0 ≤ c ∧ c < xs.length ∧ 0 ≤ r1 ∧ r1 ≤ 100000000 ∧ Far xs f c r1) := by
  unfold spec_LimitOf.f impl_LimitOf.f
  by_cases hx : AreDepotsM xs
  · have hl := hx.2
    by_cases hok : (0 ≤ f ∧ f ≤ 500) ∧ 0 ≤ c ∧ c ≤ (xs.length : Int) - 1
    · obtain ⟨hf, h0, h1⟩ := hok
      obtain ⟨r, hr, he⟩ := spec_limit_loop hx hf h0 (by omega) xs.length 100000000 0 (rd_T51 xs c).f2 (by omega) (by omega) ⟨by omega, by omega, fun j h2 h3 => by omega, fun h => by omega⟩
      obtain ⟨q, hq, hk⟩ := impl_limit_loop hx hf h0 (by omega) 100000001 (-1) 100000000 (by omega) (by omega) (by omega) (by omega) (fun h => by omega) (fun h => by omega)
      obtain rfl := IsLimit.same hx hf h0 (by omega) hr hq
      refine ⟨(limitOut r).1, (limitOut r).2, ?_, ?_, fun hz => ?_⟩
      · refine Ev.bind (spec_AreDepots_ev xs (by omega)) (Ev_pos (decide_eq_true hx) ?_)
        rw [l01In_eq, w64 (by omega) (by omega), l01In_eq]
        simp only [Option.bind_some]
        refine Ev_pos (decide_eq_true hf) (Ev_succ (by
          rw [decide_eq_true (show 0 ≤ c ∧ c ≤ (xs.length : Int) - 1 from ⟨h0, h1⟩)]
          simp only [spec_LimitOf.j0, Bool.not_true, Bool.false_eq_true, if_false]
          exact Ev_pos h0 (Ev_pos (by omega) he)))
      · refine Ev.bind (impl_AreDepots_ev xs) (Ev_pos (decide_eq_true hx) ?_)
        rw [isFactor_eq, isIndex_eq _ _ (by omega)]
        simp only [Option.bind_some]
        refine Ev_pos (decide_eq_true hf) (Ev_succ (by
          rw [decide_eq_true (show 0 ≤ c ∧ c ≤ (xs.length : Int) - 1 from ⟨h0, h1⟩)]
          simp only [impl_LimitOf.j0, Bool.not_true, Bool.false_eq_true, if_false]
          exact hk))
      · unfold limitOut at hz ⊢
        by_cases hneg : r < 0
        · rw [if_pos hneg] at hz
          exact absurd hz (by decide)
        · rw [if_neg hneg]
          exact ⟨hx, hf, h0, by omega, by omega, hr.2.1, hr.2.2.1 (by omega)⟩
    · refine ⟨0, 2, ?_, ?_, fun h => absurd h (by decide)⟩
      · refine Ev.bind (spec_AreDepots_ev xs (by omega)) (Ev_pos (decide_eq_true hx) ?_)
        rw [l01In_eq, w64 (by omega) (by omega), l01In_eq]
        simp only [Option.bind_some]
        refine Ev_ite (fun hf => ?_) (fun _ => Ev_succ (by simp only [spec_LimitOf.j0, if_true]; exact Ev.now _))
        have hf' := of_decide_eq_true hf
        rw [decide_eq_false (fun h => hok ⟨hf', h⟩)]
        exact Ev_succ (by simp only [spec_LimitOf.j0, Bool.not_false, if_true]; exact Ev.now _)
      · refine Ev.bind (impl_AreDepots_ev xs) (Ev_pos (decide_eq_true hx) ?_)
        rw [isFactor_eq, isIndex_eq _ _ (by omega)]
        simp only [Option.bind_some]
        refine Ev_ite (fun hf => ?_) (fun _ => Ev_succ (by simp only [impl_LimitOf.j0, if_true]; exact Ev.now _))
        have hf' := of_decide_eq_true hf
        rw [decide_eq_false (fun h => hok ⟨hf', h⟩)]
        exact Ev_succ (by simp only [impl_LimitOf.j0, Bool.not_false, if_true]; exact Ev.now _)
  · refine ⟨0, 1, ?_, ?_, fun h => absurd h (by decide)⟩
    · exact Ev.bind (spec_AreDepots_ev xs (by omega)) (Ev_neg (by simpa using hx) (Ev.now _))
    · exact Ev.bind (impl_AreDepots_ev xs) (Ev_neg (by simpa using hx) (Ev.now _))

theorem l27Code_eq (a b : Int) : spec_l27Code.f a b = some (if (0 ≤ a ∧ a ≤ 500) ∧ 0 ≤ b ∧ b ≤ 100000000 then 0 else 2) := by
  unfold spec_l27Code.f; rw [l01In_eq, l01In_eq]
  by_cases h1 : 0 ≤ a ∧ a ≤ 500 <;> by_cases h2 : 0 ≤ b ∧ b ≤ 100000000 <;> simp [h1, h2]

noncomputable def rowU (xs : List S51) (f i : Int) (s : List (List Int)) (j : Int) : List (List Int) := if closeM (rd_T51 xs i) (rd_T51 xs i).f2 (rd_T51 xs j) f = true then s ++ [[i, j]] else s
noncomputable def pairsU (xs : List S51) (f : Int) (s : List (List Int)) (i : Int) : List (List Int) := foldU (rowU xs f i) (xs.length - 1 - i.toNat) s (i + 1)
noncomputable def pairsM (xs : List S51) (f : Int) : List (List Int) := foldU (pairsU xs f) xs.length [] 0
theorem rowU_length {xs : List S51} {f i : Int} {s : List (List Int)} {j c : Int} (h : (s.length : Int) ≤ c + j) : ((rowU xs f i s j).length : Int) ≤ c + (j + 1) := by
  unfold rowU
  split
  · rw [List.length_append]; simp; omega
  · omega
theorem pairsU_length {xs : List S51} {f i : Int} {s : List (List Int)} (hn : xs.length ≤ 8) (h0 : 0 ≤ i) (h1 : i < xs.length) (h : (s.length : Int) ≤ 10 * i) : ((pairsU xs f s i).length : Int) ≤ 10 * (i + 1) := by
  have := foldU_ind (upd := rowU xs f i) (n := xs.length) (fun s j => (s.length : Int) ≤ 10 * i + j) (fun s j _ _ hI => rowU_length hI) (xs.length - 1 - i.toNat) s (i + 1) (by omega) (by omega) (by omega)
  unfold pairsU
  omega
theorem pairsM_length {xs : List S51} (hn : xs.length ≤ 8) (f : Int) : (pairsM xs f).length ≤ 80 := by
  have := foldU_ind (upd := pairsU xs f) (n := xs.length) (fun s i => (s.length : Int) ≤ 10 * i) (fun s i h0 h1 hI => pairsU_length hn h0 h1 hI) xs.length [] 0 (by omega) (by omega) (by simp)
  unfold pairsM
  omega
theorem impl_closePairs_ev {xs : List S51} (hx : AreDepotsM xs) {f : Int} (hf : 0 ≤ f ∧ f ≤ 500) : Ev (fun k => impl_closePairs.f k xs f) (pairsM xs f) := by
  have hn := hx.2
  unfold impl_closePairs.f
  refine Ev_forK (F := fun k s i => impl_closePairs.l0 k xs f s xs (xs.length : Int) i) (upd := pairsU xs f) (n := xs.length) (fun s i => (s.length : Int) ≤ 10 * i) (fun s i h0 h1 hI => ⟨pairsU_length hn h0 h1 hI, fun h => ?_⟩) xs.length [] 0 (by omega) (by omega) (by simp) (fun _ => Ev_succ (by simp only [impl_closePairs.l0]; exact Ev_neg (by omega) (Ev.now _)))
  refine Ev_succ (by
    simp only [impl_closePairs.l0]
    refine Ev_pos h1 (Ev_pos h0 (Ev_pos h1 ?_))
    rw [w64 (by omega) (by omega)]
    refine Ev_forK (F := fun k s j => impl_closePairs.l1 k xs f s i j xs (xs.length : Int) i (rd_T51 xs i).f0 (rd_T51 xs i).f1 (rd_T51 xs i).f2) (upd := rowU xs f i) (n := xs.length) (fun s j => i < j ∧ (s.length : Int) ≤ 10 * i + j) (fun s j h2 h3 hJ => ⟨⟨by omega, rowU_length hJ.2⟩, fun hr => ?_⟩) (xs.length - 1 - i.toNat) s (i + 1) (by omega) (by omega) (by omega) (fun _ => ?_)
    · have hd := ok_at hx h0 h1
      refine Ev_succ (by
        simp only [impl_closePairs.l1]
        refine Ev_pos h3 (Ev_pos h2 (Ev.bind (impl_areClose_ev hd (ok_at hx h2 h3) hd.g hf) ?_))
        rw [w64 (by omega) (by omega)]
        unfold rowU at hr
        refine Ev_ite (fun hc => ?_) (fun hc => ?_)
        · rw [if_pos hc] at hr
          exact Ev_pos (by omega) hr
        · rw [if_neg hc] at hr
          exact hr)
    · refine Ev_succ (by
        simp only [impl_closePairs.l1]
        rw [w64 (x := i + 1) (by omega) (by omega)]
        exact Ev_neg (by omega) h))
theorem spec_TooClose_ev {xs : List S51} (hn : xs.length ≤ 1000000) (f : Int) : Ev (fun k => spec_TooClose.f k xs f) (if AreDepotsM xs then (if 0 ≤ f ∧ f ≤ 500 then (pairsM xs f, 0) else ([], 2)) else ([], 1)) := by
  unfold spec_TooClose.f
  refine Ev.bind (spec_AreDepots_ev xs (by omega)) ?_
  simp only [decide_eq_true_eq]
  refine Ev_ite (fun hx => ?_) (fun hx => by rw [if_neg hx]; exact Ev.now _)
  rw [if_pos hx, l27Code_eq]
  simp only [Option.bind_some]
  by_cases hf : 0 ≤ f ∧ f ≤ 500
  · rw [if_pos hf, if_pos ⟨hf, by omega, by omega⟩]
    have hn := hx.2
    refine Ev_pos rfl ?_
    refine Ev_forK (F := fun k s i => spec_TooClose.l0 k xs f s i) (upd := pairsU xs f) (n := xs.length) (fun s i => (s.length : Int) ≤ 10 * i) (fun s i h0 h1 hI => ⟨pairsU_length hn h0 h1 hI, fun h => ?_⟩) xs.length [] 0 (by omega) (by omega) (by simp) (fun _ => Ev_succ (by simp only [spec_TooClose.l0]; exact Ev_neg (by omega) (Ev.now _)))
    refine Ev_succ (by
      simp only [spec_TooClose.l0]
      refine Ev_pos h1 ?_
      rw [w64 (by omega) (by omega)]
      refine Ev_forK (F := fun k s j => spec_TooClose.l1 k xs f s i j) (upd := rowU xs f i) (n := xs.length) (fun s j => i < j ∧ (s.length : Int) ≤ 10 * i + j) (fun s j h2 h3 hJ => ⟨⟨by omega, rowU_length hJ.2⟩, fun hr => ?_⟩) (xs.length - 1 - i.toNat) s (i + 1) (by omega) (by omega) (by omega) (fun _ => ?_)
      · have hd := ok_at hx h0 h1
        refine Ev_succ (by
          simp only [spec_TooClose.l1]
          refine Ev_pos h3 (Ev_pos h0 (Ev_pos h1 (Ev_pos h2 (Ev.bind (spec_l27Close_ev hd (ok_at hx h2 h3) hd.g hf) ?_))))
          rw [w64 (by omega) (by omega)]
          unfold rowU at hr
          refine Ev_ite (fun hc => ?_) (fun hc => ?_)
          · rw [if_pos hc] at hr
            exact Ev_pos (by omega) hr
          · rw [if_neg hc] at hr
            exact hr)
      · refine Ev_succ (by
          simp only [spec_TooClose.l1]
          rw [w64 (x := i + 1) (by omega) (by omega)]
          exact Ev_neg (by omega) h))
  · rw [if_neg hf, if_neg (fun q => hf q.1)]
    exact Ev_neg (by omega) (Ev.now _)

/-- A pair that is too close. -/
def Close (xs : List S51) (f i j : Int) : Prop := closeM (rd_T51 xs i) (rd_T51 xs i).f2 (rd_T51 xs j) f = true
theorem mem_row (xs : List S51) (f : Int) (p : List Int) {i : Int} (h0 : 0 ≤ i) (h1 : i < xs.length) (s : List (List Int)) : p ∈ pairsU xs f s i ↔ p ∈ s ∨ ∃ j : Int, i < j ∧ j < xs.length ∧ Close xs f i j ∧ p = [i, j] := by
  have := foldU_ind (upd := rowU xs f i) (n := xs.length) (fun s' j => i < j ∧ (p ∈ s' ↔ p ∈ s ∨ ∃ j' : Int, i < j' ∧ j' < j ∧ Close xs f i j' ∧ p = [i, j'])) (fun s' j h2 h3 hJ => by
    refine ⟨by omega, ?_⟩
    unfold rowU
    by_cases hc : closeM (rd_T51 xs i) (rd_T51 xs i).f2 (rd_T51 xs j) f = true
    · rw [if_pos hc, List.mem_append, hJ.2, List.mem_singleton]
      constructor
      · rintro ((h | ⟨j', a1, a2, a3, a4⟩) | h)
        · exact .inl h
        · exact .inr ⟨j', a1, by omega, a3, a4⟩
        · exact .inr ⟨j, hJ.1, by omega, hc, h⟩
      · rintro (h | ⟨j', a1, a2, a3, a4⟩)
        · exact .inl (.inl h)
        · by_cases hj : j' = j
          · subst hj
            exact .inr a4
          · exact .inl (.inr ⟨j', a1, by omega, a3, a4⟩)
    · rw [if_neg hc, hJ.2]
      constructor
      · rintro (h | ⟨j', a1, a2, a3, a4⟩)
        · exact .inl h
        · exact .inr ⟨j', a1, by omega, a3, a4⟩
      · rintro (h | ⟨j', a1, a2, a3, a4⟩)
        · exact .inl h
        · by_cases hj : j' = j
          · subst hj
            exact absurd a3 hc
          · exact .inr ⟨j', a1, by omega, a3, a4⟩) (xs.length - 1 - i.toNat) s (i + 1) (by omega) (by omega) ⟨by omega, by
      constructor
      · exact fun h => .inl h
      · rintro (h | ⟨j', a1, a2, _⟩)
        · exact h
        · omega⟩
  exact this.2
theorem mem_pairs (xs : List S51) (f : Int) (p : List Int) : p ∈ pairsM xs f ↔ ∃ i j : Int, 0 ≤ i ∧ i < j ∧ j < xs.length ∧ Close xs f i j ∧ p = [i, j] := by
  have := foldU_ind (upd := pairsU xs f) (n := xs.length) (fun s i => p ∈ s ↔ ∃ i' j : Int, 0 ≤ i' ∧ i' < i ∧ i' < j ∧ j < xs.length ∧ Close xs f i' j ∧ p = [i', j]) (fun s i h0 h1 hI => by
    rw [mem_row xs f p h0 h1 s, hI]
    constructor
    · rintro (⟨i', j, a1, a2, a3⟩ | ⟨j, a1, a2, a3⟩)
      · exact ⟨i', j, a1, by omega, a3⟩
      · exact ⟨i, j, h0, by omega, a1, a2, a3⟩
    · rintro ⟨i', j, a1, a2, a3, a4⟩
      by_cases hi : i' = i
      · subst hi
        exact .inr ⟨j, a3, a4⟩
      · exact .inl ⟨i', j, a1, by omega, a3, a4⟩) xs.length [] 0 (by omega) (by omega) (by
      constructor
      · intro h; cases h
      · rintro ⟨i', j, a1, a2, _⟩; omega)
  refine Iff.trans this ?_
  constructor
  · rintro ⟨i, j, a1, a2, a3, a4⟩
    exact ⟨i, j, a1, a3, a4⟩
  · rintro ⟨i, j, a1, a3, a4⟩
    exact ⟨i, j, a1, by omega, a3, a4⟩
theorem no_pairs (xs : List S51) (f : Int) : (pairsM xs f).length = 0 ↔ ∀ i j : Int, 0 ≤ i → i < j → j < xs.length → ¬ Close xs f i j := by
  constructor
  · intro h i j h0 h1 h2 h3
    have := (mem_pairs xs f [i, j]).2 ⟨i, j, h0, h1, h2, h3, rfl⟩
    rw [List.eq_nil_of_length_eq_zero h] at this
    cases this
  · intro h
    rw [List.length_eq_zero_iff, List.eq_nil_iff_forall_not_mem]
    intro p hp
    obtain ⟨i, j, a1, a2, a3, a4, _⟩ := (mem_pairs xs f p).1 hp
    exact h i j a1 a2 a3 a4

noncomputable def greatestM (xs : List S51) : Nat → Int
  | 0 => 0
  | n + 1 => if (pairsM xs ((n + 1 : Nat) : Int)).length = 0 then ((n + 1 : Nat) : Int) else greatestM xs n
theorem sep0 : sepM 0 = 0 := sepM_eq ⟨by omega, by omega, by omega, .inl rfl⟩
theorem pairs0 {xs : List S51} (hx : AreDepotsM xs) : pairsM xs 0 = [] := by
  have hrow : ∀ (i : Int) (s : List (List Int)) (j : Int), 0 ≤ j → j < xs.length → 0 ≤ i → i < xs.length → rowU xs 0 i s j = s := fun i s j h0 h1 h2 h3 => by
    unfold rowU closeM
    have e : (0 * 0 * 0 * max (rd_T51 xs i).f2 (rd_T51 xs j).f2 : Int) = 0 := by omega
    rw [e, sep0, if_neg]
    have := sqM_bound (ok_at hx h2 h3) (ok_at hx h0 h1).x (ok_at hx h0 h1).y
    simp only [decide_eq_true_eq]
    omega
  have := foldU_ind (upd := pairsU xs 0) (n := xs.length) (fun s _ => s = []) (fun s i h0 h1 hI => by
    have := foldU_ind (upd := rowU xs 0 i) (n := xs.length) (fun s _ => s = []) (fun s j h2 h3 hJ => by rw [hrow i s j h2 h3 h0 h1]; exact hJ) (xs.length - 1 - i.toNat) s (i + 1) (by omega) (by omega) hI
    exact this) xs.length [] 0 (by omega) (by omega) rfl
  exact this
theorem impl_greatest_loop {xs : List S51} (hx : AreDepotsM xs) : ∀ n : Nat, n ≤ 500 → Ev (fun k => impl_GreatestFactor.l0 k xs (n : Int)) (greatestM xs n, 0) := by
  intro n
  induction n with
  | zero =>
    intro _
    refine Ev_succ (by
      simp only [impl_GreatestFactor.l0]
      refine Ev.bind (impl_closePairs_ev hx (by omega)) ?_
      have e : ((0 : Nat) : Int) = 0 := rfl
      rw [e, pairs0 hx]
      exact Ev_neg (by simp) (Ev.now _))
  | succ n ih =>
    intro hn
    refine Ev_succ (by
      simp only [impl_GreatestFactor.l0]
      refine Ev.bind (impl_closePairs_ev hx (by omega)) ?_
      unfold greatestM
      refine Ev_ite (fun h => ?_) (fun h => ?_)
      · rw [if_neg (by omega), w64 (by omega) (by omega), show ((n + 1 : Nat) : Int) - 1 = (n : Int) by omega]
        exact ih (by omega)
      · rw [if_pos (by omega)]
        exact Ev.now _)
theorem spec_greatest_loop {xs : List S51} (hx : AreDepotsM xs) : ∀ n : Nat, n ≤ 500 → Ev (fun k => spec_GreatestFactor.l0 k xs (n : Int)) (greatestM xs n, 0) := by
  have hn8 := hx.2
  intro n
  induction n with
  | zero =>
    intro _
    refine Ev_succ (by
      simp only [spec_GreatestFactor.l0]
      exact Ev_neg (by omega) (Ev.now _))
  | succ n ih =>
    intro hn
    refine Ev_succ (by
      simp only [spec_GreatestFactor.l0]
      refine Ev_pos (by omega) (Ev.bind (spec_TooClose_ev (by omega) _) ?_)
      rw [if_pos hx, if_pos (show (0 : Int) ≤ ((n + 1 : Nat) : Int) ∧ ((n + 1 : Nat) : Int) ≤ 500 by omega)]
      unfold greatestM
      refine Ev_ite (fun h => ?_) (fun h => ?_)
      · simp only at h
        rw [if_pos (by omega)]
        exact Ev.now _
      · simp only at h
        rw [if_neg (by omega), w64 (by omega) (by omega), show ((n + 1 : Nat) : Int) - 1 = (n : Int) by omega]
        exact ih (by omega))
theorem core_FnExactGreatestFactor (xs : List S51) (hn : xs.length ≤ 1000000) : ∃ r1 r2, Ev (fun k => spec_GreatestFactor.f k xs) (r1, r2) ∧ Ev (fun k => impl_GreatestFactor.f k xs) (r1, r2) := by
  by_cases hx : AreDepotsM xs
  · refine ⟨greatestM xs 500, 0, ?_, ?_⟩
    · unfold spec_GreatestFactor.f
      refine Ev.bind (spec_AreDepots_ev xs (by omega)) (Ev_pos (decide_eq_true hx) ?_)
      exact spec_greatest_loop hx 500 (by omega)
    · unfold impl_GreatestFactor.f
      refine Ev.bind (impl_AreDepots_ev xs) (Ev_pos (decide_eq_true hx) ?_)
      exact impl_greatest_loop hx 500 (by omega)
  · refine ⟨0, 1, ?_, ?_⟩
    · unfold spec_GreatestFactor.f
      exact Ev.bind (spec_AreDepots_ev xs (by omega)) (Ev_neg (by simpa using hx) (Ev.now _))
    · unfold impl_GreatestFactor.f
      exact Ev.bind (impl_AreDepots_ev xs) (Ev_neg (by simpa using hx) (Ev.now _))

theorem Close.mono {xs : List S51} (hx : AreDepotsM xs) {f e i j : Int} (hf : 0 ≤ f) (hfe : f ≤ e) (he : e ≤ 500) (h0 : 0 ≤ i) (h1 : i < xs.length) (h2 : 0 ≤ j) (h3 : j < xs.length) (h : Close xs f i j) : Close xs e i j := by
  have hi := (ok_at hx h0 h1).g
  have hj := (ok_at hx h2 h3).g
  unfold Close closeM at h ⊢
  simp only [decide_eq_true_eq] at h ⊢
  have hm : 0 ≤ max (rd_T51 xs i).f2 (rd_T51 xs j).f2 ∧ max (rd_T51 xs i).f2 (rd_T51 xs j).f2 ≤ 100000000 := by omega
  have a := isSep_sepM hf (show f ≤ 500 by omega) hm.1 hm.2
  have b := isSep_sepM (show 0 ≤ e by omega) he hm.1 hm.2
  have := (sq_le a.1 (sepM_mono a b (Int.mul_le_mul_of_nonneg_right (cube_le hf hfe).2 hm.1))).2
  omega
theorem greatestM_bound (xs : List S51) : ∀ n : Nat, greatestM xs n ≤ n := by
  intro n
  induction n with
  | zero => exact Int.le_refl _
  | succ n ih =>
    unfold greatestM
    split
    · exact Int.le_refl _
    · omega
theorem greatest_iff {xs : List S51} (hx : AreDepotsM xs) : ∀ n : Nat, n ≤ 500 → ∀ f : Int, 0 ≤ f → f ≤ n → ((pairsM xs f).length = 0 ↔ f ≤ greatestM xs n) := by
  intro n
  induction n with
  | zero =>
    intro _ f h0 h1
    obtain rfl : f = 0 := by omega
    rw [pairs0 hx]
    exact ⟨fun _ => Int.le_refl _, fun _ => rfl⟩
  | succ n ih =>
    intro hn f h0 h1
    unfold greatestM
    by_cases hp : (pairsM xs ((n + 1 : Nat) : Int)).length = 0
    · rw [if_pos hp]
      refine ⟨fun _ => h1, fun _ => ?_⟩
      rw [no_pairs] at hp ⊢
      exact fun i j a1 a2 a3 a4 => hp i j a1 a2 a3 (Close.mono hx h0 h1 (by omega) a1 (by omega) (by omega) a3 a4)
    · rw [if_neg hp]
      by_cases hf : f = ((n + 1 : Nat) : Int)
      · rw [hf]
        have := greatestM_bound xs n
        exact ⟨fun h => absurd h hp, fun h => by omega⟩
      · exact ih (by omega) f h0 (by omega)
theorem greatest_tells (xs : List S51) (hn : xs.length ≤ 1000000) : ∃ g e, Ev (fun k => spec_GreatestFactor.f k xs) (g, e) ∧ Ev (fun k => impl_GreatestFactor.f k xs) (g, e) ∧ (decide (AreDepotsM xs) != (e == 0)) = false ∧ (AreDepotsM xs → g = greatestM xs 500) := by
  by_cases hx : AreDepotsM xs
  · refine ⟨greatestM xs 500, 0, ?_, ?_, ?_, fun _ => rfl⟩
    · unfold spec_GreatestFactor.f
      refine Ev.bind (spec_AreDepots_ev xs (by omega)) (Ev_pos (decide_eq_true hx) ?_)
      exact spec_greatest_loop hx 500 (by omega)
    · unfold impl_GreatestFactor.f
      refine Ev.bind (impl_AreDepots_ev xs) (Ev_pos (decide_eq_true hx) ?_)
      exact impl_greatest_loop hx 500 (by omega)
    · rw [decide_eq_true hx]; rfl
  · refine ⟨0, 1, ?_, ?_, ?_, fun h => absurd h hx⟩
    · unfold spec_GreatestFactor.f
      exact Ev.bind (spec_AreDepots_ev xs (by omega)) (Ev_neg (by simpa using hx) (Ev.now _))
    · unfold impl_GreatestFactor.f
      exact Ev.bind (impl_AreDepots_ev xs) (Ev_neg (by simpa using hx) (Ev.now _))
    · rw [decide_eq_false hx]; rfl

theorem likeInts_refl (xs : List Int) (hn : xs.length ≤ 1000) : Ev (fun k => laws_likeInts.f k xs xs) true := by
  have h : ∀ (d : Nat) (i : Int), 0 ≤ i → i + d = xs.length → Ev (fun k => laws_likeInts.l0 k xs xs i) true := by
    intro d
    induction d with
    | zero =>
      intro i h0 h1
      exact Ev_succ (by
        simp only [laws_likeInts.l0]
        exact Ev_neg (by omega) (Ev.now _))
    | succ d ih =>
      intro i h0 h1
      refine Ev_succ (by
        simp only [laws_likeInts.l0]
        rw [w64 (x := i + 1) (by omega) (by omega)]
        exact Ev_pos (by omega) (Ev_pos h0 (Ev_pos (by omega) (Ev_pos (by first | trivial | rfl) (ih (i + 1) (by omega) (by omega))))))
  unfold laws_likeInts.f
  exact Ev_pos rfl (h xs.length 0 (by omega) (by omega))
theorem likeRows_refl (xs : List (List Int)) (hn : xs.length ≤ 1000 ∧ ∀ p ∈ xs, p.length ≤ 1000) : Ev (fun k => laws_likeRows.f k xs xs) true := by
  have h : ∀ (d : Nat) (i : Int), 0 ≤ i → i + d = xs.length → Ev (fun k => laws_likeRows.l0 k xs xs i) true := by
    intro d
    induction d with
    | zero =>
      intro i h0 h1
      exact Ev_succ (by
        simp only [laws_likeRows.l0]
        exact Ev_neg (by omega) (Ev.now _))
    | succ d ih =>
      intro i h0 h1
      have hp : (rd_L3 xs i).length ≤ 1000 := by
        refine hn.2 _ ?_
        show xs.getD i.toNat [] ∈ xs
        rw [List.getD_eq_getElem?_getD, List.getElem?_eq_getElem (show i.toNat < xs.length by omega)]
        exact List.getElem_mem _
      refine Ev_succ (by
        simp only [laws_likeRows.l0]
        rw [w64 (x := i + 1) (by omega) (by omega)]
        exact Ev_pos (by omega) (Ev_pos h0 (Ev_pos (by omega) (Ev.bind (likeInts_refl _ (by omega)) (Ev_pos rfl (ih (i + 1) (by omega) (by omega)))))))
  unfold laws_likeRows.f
  exact Ev_pos rfl (h xs.length 0 (by omega) (by omega))
theorem likeDepots_refl (xs : List S51) (hn : xs.length ≤ 1000) : Ev (fun k => laws_likeDepots.f k xs xs) true := by
  have h : ∀ (d : Nat) (i : Int), 0 ≤ i → i + d = xs.length → Ev (fun k => laws_likeDepots.l0 k xs xs i) true := by
    intro d
    induction d with
    | zero =>
      intro i h0 h1
      exact Ev_succ (by
        simp only [laws_likeDepots.l0]
        exact Ev_neg (by omega) (Ev.now _))
    | succ d ih =>
      intro i h0 h1
      refine Ev_succ (by
        simp only [laws_likeDepots.l0]
        rw [w64 (x := i + 1) (by omega) (by omega)]
        exact Ev_pos (by omega) (Ev_pos h0 (Ev_pos (by omega) (Ev_neg (by simp) (ih (i + 1) (by omega) (by omega))))))
  unfold laws_likeDepots.f
  exact Ev_pos rfl (h xs.length 0 (by omega) (by omega))

/-- The source of the draws: the code's bytes, the place in it, the seed. -/
def Rd (c : List Int) (i seed : Int) : Prop := (∀ b ∈ c, 0 ≤ b ∧ b ≤ 255) ∧ c.length ≤ 4096 ∧ 0 ≤ i ∧ i ≤ c.length ∧ 0 ≤ seed ∧ seed < 2147483647
theorem rd_byte {c : List Int} (hc : ∀ b ∈ c, 0 ≤ b ∧ b ≤ 255) (i : Int) : 0 ≤ rd c i ∧ rd c i ≤ 255 := by
  unfold rd
  by_cases h : i.toNat < c.length
  · rw [List.getD_eq_getElem?_getD, List.getElem?_eq_getElem h]
    exact hc _ (List.getElem_mem h)
  · rw [List.getD_eq_getElem?_getD, List.getElem?_eq_none (by omega)]
    simp
theorem next_tells {c : List Int} {i seed : Int} (hr : Rd c i seed) (n : Int) (hn : n ≤ 4000000000000000000) : ∃ x i' s', spec_l01Next.f c i seed n = some (x, i', s') ∧ Rd c i' s' ∧ 0 ≤ x ∧ (1 ≤ n → x < n) := by
  obtain ⟨hc, hl, h0, h1, h2, h3⟩ := hr
  have e1 : wrap64 (wrap64 (seed * 48271) + 29) = seed * 48271 + 29 := by rw [w64 (x := seed * 48271) (by omega) (by omega), w64 (by omega) (by omega)]
  have e2 : Int.tmod (seed * 48271 + 29) 2147483647 = (seed * 48271 + 29) % 2147483647 := Int.tmod_eq_emod_of_nonneg (by omega)
  obtain ⟨s1, hs1⟩ : ∃ s1, s1 = (seed * 48271 + 29) % 2147483647 := ⟨_, rfl⟩
  have b0 : 0 ≤ s1 ∧ s1 < 2147483647 := by omega
  have e3 : wrap64 (Int.tdiv s1 31) = s1 / 31 := by
    rw [Int.tdiv_eq_ediv_of_nonneg b0.1]; exact w64 (by omega) (by omega)
  unfold spec_l01Next.f
  rw [e1, e2, ← hs1, e3]
  by_cases hn1 : n ≤ 1
  · rw [if_pos hn1]
    exact ⟨0, i, seed, rfl, ⟨hc, hl, h0, h1, h2, h3⟩, by omega, by omega⟩
  · rw [if_neg hn1]
    have hm : ∀ x : Int, 0 ≤ x → 0 ≤ Int.tmod x n ∧ Int.tmod x n < n := fun x hx => by
      rw [Int.tmod_eq_emod_of_nonneg hx]
      exact ⟨Int.emod_nonneg x (by omega), Int.emod_lt_of_pos x (by omega)⟩
    by_cases hi : i < (c.length : Int)
    · have hb := rd_byte hc i
      have w1 : wrap64 (i + 1) = i + 1 := w64 (by omega) (by omega)
      have w2 : wrap64 (i + 1 - 1) = i := by rw [w64 (by omega) (by omega)]; omega
      have w3 : wrap64 (rd c i) = rd c i := w64 (by omega) (by omega)
      have w4 : wrap64 (s1 / 31 + rd c i) = s1 / 31 + rd c i := w64 (by omega) (by omega)
      rw [if_pos hi, if_pos h0, w1, w2, w3, w4]
      have r1 := hm (rd c i) hb.1
      have r2 := hm (s1 / 31 + rd c i) (by omega)
      have hR : Rd c (i + 1) s1 := ⟨hc, hl, by omega, by omega, b0.1, b0.2⟩
      by_cases h256 : n ≤ 256
      · rw [if_pos h256]
        by_cases ht : Int.tmod (i + 1) 2 = 0
        · rw [if_pos ht, if_pos h0, if_pos hi, if_neg (by omega)]
          exact ⟨_, _, _, rfl, hR, r1.1, fun _ => r1.2⟩
        · rw [if_neg ht, if_neg (by omega)]
          exact ⟨_, _, _, rfl, hR, r2.1, fun _ => r2.2⟩
      · rw [if_neg h256, if_neg (by omega)]
        exact ⟨_, _, _, rfl, hR, r2.1, fun _ => r2.2⟩
    · have r3 := hm (s1 / 31) (by omega)
      rw [if_neg hi, if_neg (by omega)]
      exact ⟨_, _, _, rfl, ⟨hc, hl, h0, h1, b0.1, b0.2⟩, r3.1, fun _ => r3.2⟩
theorem from_tells (c : List Int) (hc : ∀ b ∈ c, 0 ≤ b ∧ b ≤ 255) (hl : c.length ≤ 4096) : ∃ seed, Ev (fun k => spec_l01From.f k c) (c, 0, seed) ∧ Rd c 0 seed := by
  have h := Ev_for (F := fun k s i => spec_l01From.l0 k c i c 0 s) (step := fun s i => if i < 64 then .inr ((s * 83 + rd c i) % 2147483647) else .inl (c, 0, s)) (out := fun s => (c, 0, s)) (n := c.length) (fun s i => 0 ≤ s ∧ s < 2147483647)
    (fun s hI => ⟨1, fun k hk => by
      obtain ⟨k, rfl⟩ : ∃ m, k = m + 1 := ⟨k - 1, by omega⟩
      simp only [spec_l01From.l0]
      rw [if_neg (by omega)]⟩)
    (fun s i h0 h1 hI => by
      have hb := rd_byte hc i
      by_cases h64 : i < 64
      · refine .inr ⟨_, if_pos h64, by omega, 0, fun k _ => ?_⟩
        simp only [spec_l01From.l0]
        rw [if_pos h1, if_pos h64, if_pos h0, w64 (x := i + 1) (by omega) (by omega), w64 (x := s * 83) (by omega) (by omega), w64 (x := rd c i) (by omega) (by omega), w64 (by omega) (by omega), Int.tmod_eq_emod_of_nonneg (by omega)]
      · refine .inl ⟨_, if_neg h64, 1, fun k hk => ?_⟩
        obtain ⟨k, rfl⟩ : ∃ m, k = m + 1 := ⟨k - 1, by omega⟩
        simp only [spec_l01From.l0]
        rw [if_pos h1, if_neg h64]) c.length 61043 0 (by omega) (by omega) (by omega)
  have h2 := forM_ind (step := fun s i => if i < 64 then .inr ((s * 83 + rd c i) % 2147483647) else .inl (c, 0, s)) (out := fun s => (c, (0 : Int), s)) (n := c.length) (fun s _ => 0 ≤ s ∧ s < 2147483647) (fun r => ∃ s, r = (c, (0 : Int), s) ∧ 0 ≤ s ∧ s < 2147483647) (fun s hI => ⟨s, rfl, hI⟩)
    (fun s i h0 h1 hI => ⟨fun r hr => by
        split at hr
        · cases hr
        · injection hr with hr
          exact ⟨s, hr.symm, hI⟩, fun s' hr => by
        split at hr
        · injection hr with hr
          omega
        · cases hr⟩) c.length 61043 0 (by omega) (by omega) (by omega)
  obtain ⟨s, hs, hb⟩ := h2
  refine ⟨s, ?_, hc, hl, by omega, by omega, hb.1, hb.2⟩
  rw [hs] at h
  exact h
/-- What a statement over a code knows of its bytes. -/
theorem bytes_of {c : List Int} (h : ∀ x ∈ c, (Lit.int .u8 x).wf = true) : ∀ b ∈ c, 0 ≤ b ∧ b ≤ 255 := fun b hb => by
  have h := h b hb
  simp [Lit.wf, IntKind.min, IntKind.max, IntKind.bits, IntKind.signed] at h
  omega
theorem big_eq (c : List Int) : laws_big.f c = some (decide (c.length > 4096)) := by
  unfold laws_big.f
  congr 1
  rw [decide_eq_decide]
  omega

theorem pick_tells {c : List Int} {i seed : Int} (hr : Rd c i seed) (l : List Int) (h0 : 0 < l.length) (hl : l.length ≤ 1000) : ∃ x i' s', spec_l01Pick.f c i seed l = some (x, i', s') ∧ Rd c i' s' ∧ x ∈ l := by
  obtain ⟨x, i', s', h1, h2, h3, h4⟩ := next_tells hr (l.length : Int) (by omega)
  have h4 := h4 (by omega)
  unfold spec_l01Pick.f
  rw [h1]
  simp only [Option.bind_some]
  rw [if_pos h3, if_pos h4]
  refine ⟨_, _, _, rfl, h2, ?_⟩
  unfold rd
  rw [List.getD_eq_getElem?_getD, List.getElem?_eq_getElem (show x.toNat < l.length by omega)]
  exact List.getElem_mem _

theorem good27_tells {c : List Int} {i seed : Int} (hr : Rd c i seed) : ∃ x y g i' s', spec_l27Good.f c i seed = some (x, y, g, i', s') ∧ Rd c i' s' := by
  obtain ⟨x1, i1, s1, e1, r1, _⟩ := next_tells hr 3000 (by omega)
  obtain ⟨x2, i2, s2, e2, r2, _⟩ := next_tells r1 3000 (by omega)
  obtain ⟨x3, i3, s3, e3, r3, _⟩ := next_tells r2 100000 (by omega)
  obtain ⟨x4, i4, s4, e4, r4, _⟩ := next_tells r3 2000 (by omega)
  obtain ⟨x5, i5, s5, e5, r5, _⟩ := next_tells r4 1000000 (by omega)
  obtain ⟨x6, i6, s6, e6, r6, _⟩ := pick_tells r5 [x3, x4, 0, x5] (by simp) (by simp)
  refine ⟨x1, x2, x6, i6, s6, ?_, r6⟩
  unfold spec_l27Good.f
  simp only [e1, e2, e3, e4, e5, e6, Option.bind_some]
theorem draw27_l1 (c : List Int) (d : Nat) : ∀ (xs : List S51) (i seed : Int), Rd c i seed → 9 - xs.length ≤ d → xs.length ≤ 20 → ∃ ys i' s', Ev (fun k => spec_l27Draw.l1 k xs c i seed) (ys, i', s') ∧ Rd c i' s' ∧ ys.length ≤ 20 := by
  induction d with
  | zero =>
    intro xs i seed hr hd hn
    obtain ⟨x1, i1, s1, e1, r1, h1, h2⟩ := next_tells hr 2 (by omega)
    refine ⟨xs, i1, s1, Ev.step (f := fun _ => some (xs, i1, s1)) (fun k => ?_) (Ev.now _), r1, hn⟩
    simp only [spec_l27Draw.l1, e1, Option.bind_some]
    rw [w64 (by omega) (by omega), if_neg (by omega)]
  | succ d ih =>
    intro xs i seed hr hd hn
    obtain ⟨x1, i1, s1, e1, r1, h1, h2⟩ := next_tells hr 2 (by omega)
    by_cases hlt : (xs.length : Int) < 8 + x1
    · obtain ⟨x, y, g, i2, s2, e2, r2⟩ := good27_tells r1
      obtain ⟨ys, i3, s3, h3, r3, hl⟩ := ih (xs ++ [⟨x, y, g⟩]) i2 s2 r2 (by simp; omega) (by simp; omega)
      refine ⟨ys, i3, s3, Ev.step (fun k => ?_) h3, r3, hl⟩
      simp only [spec_l27Draw.l1, e1, e2, Option.bind_some]
      rw [w64 (by omega) (by omega), if_pos hlt, if_pos (by omega)]
    · refine ⟨xs, i1, s1, Ev.step (f := fun _ => some (xs, i1, s1)) (fun k => ?_) (Ev.now _), r1, hn⟩
      simp only [spec_l27Draw.l1, e1, Option.bind_some]
      rw [w64 (by omega) (by omega), if_neg hlt]
theorem draw27_l0 (c : List Int) (d : Nat) : ∀ (xs : List S51) (n i seed : Int), Rd c i seed → n ≤ d → d ≤ 10 → xs.length + d ≤ 10 → ∃ ys i' s', Ev (fun k => spec_l27Draw.l0 k xs n c i seed) (ys, i', s') ∧ Rd c i' s' ∧ ys.length ≤ 20 := by
  induction d with
  | zero =>
    intro xs n i seed hr hn hd hx
    obtain ⟨x1, i1, s1, e1, r1, h1, h2⟩ := next_tells hr 30 (by omega)
    by_cases h0 : x1 = 0
    · obtain ⟨x2, i2, s2, e2, r2, _⟩ := pick_tells r1 [-1, 100000, 100001] (by simp) (by simp)
      obtain ⟨x3, i3, s3, e3, r3, _⟩ := pick_tells r2 [100000000, 100000001, -1] (by simp) (by simp)
      refine ⟨xs ++ [⟨x2, 0, x3⟩], i3, s3, Ev.step (f := fun _ => some (xs ++ [⟨x2, 0, x3⟩], i3, s3)) (fun k => ?_) (Ev.now _), r3, by simp; omega⟩
      simp only [spec_l27Draw.l0, e1, e2, e3, Option.bind_some]
      rw [if_neg (by omega), if_pos h0, if_pos (by omega)]
    · by_cases h1' : x1 = 1
      · obtain ⟨ys, i3, s3, h3, r3, hl⟩ := draw27_l1 c 9 xs i1 s1 r1 (by omega) (by omega)
        refine ⟨ys, i3, s3, Ev.step (fun k => ?_) h3, r3, hl⟩
        simp only [spec_l27Draw.l0, e1, Option.bind_some]
        rw [if_neg (by omega), if_neg h0, if_pos h1']
      · refine ⟨xs, i1, s1, Ev.step (f := fun _ => some (xs, i1, s1)) (fun k => ?_) (Ev.now _), r1, by omega⟩
        simp only [spec_l27Draw.l0, e1, Option.bind_some]
        rw [if_neg (by omega), if_neg h0, if_neg h1']
  | succ d ih =>
    intro xs n i seed hr hn hd hx
    by_cases hp : n > 0
    · obtain ⟨x, y, g, i2, s2, e2, r2⟩ := good27_tells hr
      obtain ⟨ys, i3, s3, h3, r3, hl⟩ := ih (xs ++ [⟨x, y, g⟩]) (n - 1) i2 s2 r2 (by omega) (by omega) (by simp; omega)
      refine ⟨ys, i3, s3, Ev.step (fun k => ?_) h3, r3, hl⟩
      simp only [spec_l27Draw.l0, e2, Option.bind_some]
      rw [if_pos hp, if_pos (by omega), w64 (by omega) (by omega)]
    · exact ih xs n i seed hr (by omega) (by omega) (by omega)
theorem draw27_tells {c : List Int} {i seed : Int} (hr : Rd c i seed) : ∃ ys i' s', Ev (fun k => spec_l27Draw.f k c i seed) (ys, i', s') ∧ Rd c i' s' ∧ ys.length ≤ 20 := by
  obtain ⟨x1, i1, s1, e1, r1, h1, h2⟩ := next_tells hr 6 (by omega)
  obtain ⟨ys, i3, s3, h3, r3, hl⟩ := draw27_l0 c 6 [] x1 i1 s1 r1 (by omega) (by omega) (by simp)
  refine ⟨ys, i3, s3, ?_, r3, hl⟩
  unfold spec_l27Draw.f
  simp only [e1, Option.bind_some]
  exact h3

theorem factor_tells {c : List Int} {i seed : Int} (hr : Rd c i seed) : ∃ x i' s', spec_l27Factor.f c i seed = some (x, i', s') ∧ Rd c i' s' := by
  obtain ⟨x1, i1, s1, e1, r1, _⟩ := next_tells hr 40 (by omega)
  obtain ⟨x2, i2, s2, e2, r2, _⟩ := next_tells r1 20 (by omega)
  obtain ⟨x3, i3, s3, e3, r3, _⟩ := next_tells r2 501 (by omega)
  obtain ⟨x4, i4, s4, e4, r4, _⟩ := pick_tells r3 [wrap64 (1 + x1), wrap64 (1 + x2), 0, x3, 500, 501] (by simp) (by simp)
  refine ⟨x4, i4, s4, ?_, r4⟩
  unfold spec_l27Factor.f
  simp only [e1, e2, e3, e4, Option.bind_some]

theorem drawLimit_tells (c : List Int) (hc : ∀ b ∈ c, 0 ≤ b ∧ b ≤ 255) (hl : c.length ≤ 4096) : ∃ xs f i, Ev (fun k => spec_DrawLimitOf.f k c) (xs, f, i) ∧ xs.length ≤ 20 := by
  obtain ⟨s0, h0, r0⟩ := from_tells c hc hl
  obtain ⟨xs, i1, s1, h1, r1, hx⟩ := draw27_tells r0
  obtain ⟨f, i2, s2, e2, r2⟩ := factor_tells r1
  have hw : wrap64 ((xs.length : Int) + 1) = (xs.length : Int) + 1 := w64 (by omega) (by omega)
  obtain ⟨x3, i3, s3, e3, r3, _⟩ := next_tells r2 ((xs.length : Int) + 1) (by omega)
  obtain ⟨x4, i4, s4, e4, r4, _⟩ := next_tells r3 24 (by omega)
  refine ⟨xs, f, wrap64 (x3 - wrap64 (Int.tdiv x4 23)), ?_, hx⟩
  unfold spec_DrawLimitOf.f
  refine Ev.bind h0 (Ev.bind h1 ?_)
  simp only [e2, hw, e3, e4, Option.bind_some]
  exact Ev.now _
theorem drawMove_tells (c : List Int) (hc : ∀ b ∈ c, 0 ≤ b ∧ b ≤ 255) (hl : c.length ≤ 4096) : ∃ xs a b g, Ev (fun k => spec_DrawMoveGrams.f k c) (xs, a, b, g) ∧ xs.length ≤ 20 := by
  obtain ⟨s0, h0, r0⟩ := from_tells c hc hl
  obtain ⟨xs, i1, s1, h1, r1, hx⟩ := draw27_tells r0
  obtain ⟨x2, i2, s2, e2, r2, b2, b2'⟩ := next_tells r1 12 (by omega)
  have hn : wrap64 ((xs.length : Int) + wrap64 (Int.tdiv x2 11)) ≤ 100 := by
    rw [Int.tdiv_eq_ediv_of_nonneg b2]
    have : x2 < 12 := b2' (by omega)
    rw [w64 (x := x2 / 11) (by omega) (by omega), w64 (by omega) (by omega)]
    omega
  obtain ⟨a, i3, s3, e3, r3, b3, _⟩ := next_tells r2 (wrap64 ((xs.length : Int) + wrap64 (Int.tdiv x2 11))) (by omega)
  obtain ⟨x4, i4, s4, e4, r4, _⟩ := next_tells r3 2000 (by omega)
  obtain ⟨g, i5, s5, e5, r5, _⟩ := pick_tells r4 [x4, 0, 100000000, 100000001, (-1)] (by simp) (by simp)
  have hno : ∀ i s, Rd c i s → ∃ b, Ev (fun k => spec_DrawMoveGrams.j0 k xs (wrap64 ((xs.length : Int) + wrap64 (Int.tdiv x2 11))) a g false c i s) (xs, a, b, g) := fun i s hr => by
    obtain ⟨b, i7, s7, e7, r7, _⟩ := next_tells hr (wrap64 ((xs.length : Int) + wrap64 (Int.tdiv x2 11))) (by omega)
    refine ⟨b, Ev_succ (by
      simp only [spec_DrawMoveGrams.j0, e7, Option.bind_some, Bool.false_eq_true, if_false]
      exact Ev.now _)⟩
  by_cases hlt : a < (xs.length : Int)
  · obtain ⟨x6, i6, s6, e6, r6, _⟩ := next_tells r5 2 (by omega)
    have hf : ∀ b q, Ev (fun k => spec_DrawMoveGrams.j0 k xs (wrap64 ((xs.length : Int) + wrap64 (Int.tdiv x2 11))) a g (x6 == 0) c i6 s6) (xs, a, b, q) → Ev (fun k => spec_DrawMoveGrams.f k c) (xs, a, b, q) := fun b q h => by
      unfold spec_DrawMoveGrams.f
      refine Ev.bind h0 (Ev.bind h1 ?_)
      simp only [e2, e3, e4, e5, e6, Option.bind_some]
      exact Ev_pos hlt h
    by_cases h6 : x6 = 0
    · obtain ⟨y, i7, s7, e7, r7, _⟩ := next_tells r6 2 (by omega)
      obtain ⟨b, i8, s8, e8, r8, _⟩ := next_tells r7 (wrap64 ((xs.length : Int) + wrap64 (Int.tdiv x2 11))) (by omega)
      refine ⟨xs, a, b, wrap64 ((rd_T51 xs a).f2 + y), hf b _ ?_, hx⟩
      rw [show (x6 == 0) = true by rw [h6]; rfl]
      refine Ev_succ (by
        simp only [spec_DrawMoveGrams.j0, e7, e8, Option.bind_some, if_true]
        exact Ev_pos b3 (Ev_pos hlt (Ev.now _)))
    · obtain ⟨b, h⟩ := hno i6 s6 r6
      refine ⟨xs, a, b, g, hf b g ?_, hx⟩
      rw [show (x6 == 0) = false by simpa using h6]
      exact h
  · obtain ⟨b, h⟩ := hno i5 s5 r5
    refine ⟨xs, a, b, g, ?_, hx⟩
    unfold spec_DrawMoveGrams.f
    refine Ev.bind h0 (Ev.bind h1 ?_)
    simp only [e2, e3, e4, e5, Option.bind_some]
    exact Ev_neg hlt h

def movedM (xs : List S51) (a b g : Int) : List S51 :=
  let ys := xs.set a.toNat ⟨(rd_T51 xs a).f0, (rd_T51 xs a).f1, wrap64 ((rd_T51 xs a).f2 - g)⟩
  ys.set b.toNat ⟨(rd_T51 ys b).f0, (rd_T51 ys b).f1, wrap64 ((rd_T51 ys b).f2 + g)⟩
def moveGramsM (xs : List S51) (a b g : Int) : List S51 × Int :=
  if AreDepotsM xs then (if 0 ≤ a ∧ a ≤ (xs.length : Int) - 1 then (if 0 ≤ b ∧ b ≤ (xs.length : Int) - 1 then (if 0 ≤ g ∧ g ≤ 100000000 then
    (if a = b then ([], 5) else if AreDepotsM (movedM xs a b g) then (movedM xs a b g, 0) else ([], 5)) else ([], 2)) else ([], 2)) else ([], 2)) else ([], 1)
theorem movedM_length (xs : List S51) (a b g : Int) : (movedM xs a b g).length = xs.length := by simp [movedM]
theorem impl_MoveGrams_ev (xs : List S51) (a b g : Int) : Ev (fun k => impl_MoveGrams.f k xs a b g) (moveGramsM xs a b g) := by
  unfold impl_MoveGrams.f moveGramsM
  refine Ev.bind (impl_AreDepots_ev xs) ?_
  simp only [decide_eq_true_eq]
  refine Ev_ite (fun h1 => ?_) (fun h1 => by rw [if_neg h1]; exact Ev.now _)
  have hl := h1.2
  rw [if_pos h1]
  simp only [isIndex_eq _ _ (show xs.length ≤ 9000000000000000000 by omega), areGrams_eq, Option.bind_some, decide_eq_true_eq]
  refine Ev_ite (fun h2 => ?_) (fun h2 => by rw [if_neg h2]; exact Ev.step (f := fun _ => some ([], 2)) (fun k => by simp [impl_MoveGrams.j0]) (Ev.now _))
  rw [if_pos h2]
  refine Ev_ite (fun h3 => ?_) (fun h3 => by rw [if_neg h3]; exact Ev.step (f := fun _ => some ([], 2)) (fun k => by simp [impl_MoveGrams.j0]) (Ev.now _))
  rw [if_pos h3]
  by_cases h4 : 0 ≤ g ∧ g ≤ 100000000
  · rw [if_pos h4]
    refine Ev.step (f := fun k => if a = b then some ([], 5) else (impl_AreDepots.f k (movedM xs a b g)).bind fun t => if t = true then some (movedM xs a b g, 0) else some ([], 5)) (fun k => ?_) ?_
    · simp only [impl_MoveGrams.j0, decide_eq_true h4, Bool.not_true, Bool.false_eq_true, if_false, Option.bind_some, List.nil_append, List.length_nil]
      rw [if_pos (by omega), if_pos h2.1, if_pos (by omega), if_pos h3.1, if_pos (by omega)]
      rfl
    · refine Ev_ite (fun h5 => by rw [if_pos h5]; exact Ev.now _) (fun h5 => ?_)
      rw [if_neg h5]
      refine Ev.bind (impl_AreDepots_ev _) ?_
      simp only [decide_eq_true_eq]
      exact Ev_ite (fun h6 => by rw [if_pos h6]; exact Ev.now _) (fun h6 => by rw [if_neg h6]; exact Ev.now _)
  · rw [if_neg h4]
    exact Ev.step (f := fun _ => some ([], 2)) (fun k => by simp [impl_MoveGrams.j0, h4]) (Ev.now _)
theorem spec_MoveGrams_ev (xs : List S51) (hn : xs.length ≤ 9000000000000000000) (a b g : Int) : Ev (fun k => spec_MoveGrams.f k xs a b g) (moveGramsM xs a b g) := by
  unfold spec_MoveGrams.f moveGramsM
  refine Ev.bind (spec_AreDepots_ev xs hn) ?_
  simp only [decide_eq_true_eq]
  refine Ev_ite (fun h1 => ?_) (fun h1 => by rw [if_neg h1]; exact Ev.now _)
  have hl := h1.2
  rw [if_pos h1]
  simp only [w64 (x := (xs.length : Int) - 1) (by omega) (by omega), l01In_eq, Option.bind_some, decide_eq_true_eq]
  refine Ev_ite (fun h2 => ?_) (fun h2 => by rw [if_neg h2]; exact Ev.step (f := fun _ => some ([], 2)) (fun k => by simp [spec_MoveGrams.j0]) (Ev.now _))
  rw [if_pos h2]
  refine Ev_ite (fun h3 => ?_) (fun h3 => by rw [if_neg h3]; exact Ev.step (f := fun _ => some ([], 2)) (fun k => by simp [spec_MoveGrams.j0]) (Ev.now _))
  rw [if_pos h3]
  by_cases h4 : 0 ≤ g ∧ g ≤ 100000000
  · rw [if_pos h4]
    refine Ev.step (f := fun k => if a = b then some ([], 5) else (spec_AreDepots.f k (movedM xs a b g)).bind fun t => if t = true then some (movedM xs a b g, 0) else some ([], 5)) (fun k => ?_) ?_
    · simp only [spec_MoveGrams.j0, decide_eq_true h4, Bool.not_true, Bool.false_eq_true, if_false, Option.bind_some, List.nil_append, List.length_nil]
      rw [if_pos (by omega), if_pos h2.1, if_pos (by omega), if_pos h3.1, if_pos (by omega)]
      rfl
    · refine Ev_ite (fun h5 => by rw [if_pos h5]; exact Ev.now _) (fun h5 => ?_)
      rw [if_neg h5]
      refine Ev.bind (spec_AreDepots_ev _ (by rw [movedM_length]; omega)) ?_
      simp only [decide_eq_true_eq]
      exact Ev_ite (fun h6 => by rw [if_pos h6]; exact Ev.now _) (fun h6 => by rw [if_neg h6]; exact Ev.now _)
  · rw [if_neg h4]
    exact Ev.step (f := fun _ => some ([], 2)) (fun k => by simp [spec_MoveGrams.j0, h4]) (Ev.now _)
theorem moveGramsM_length (xs : List S51) (a b g : Int) : (moveGramsM xs a b g).1.length ≤ 8 := by
  unfold moveGramsM
  split
  · rename_i h
    have := h.2
    repeat' split
    all_goals (first | (rw [movedM_length]; omega) | (simp; done))
  · simp

def gramSum : List S51 → Int
  | [] => 0
  | d :: l => d.f2 + gramSum l
theorem gramSum_set : ∀ (l : List S51) (i : Nat) (h : i < l.length) (d : S51), gramSum (l.set i d) = gramSum l - (l[i]'h).f2 + d.f2
  | [], i, h, d => absurd h (by simp)
  | e :: l, 0, h, d => by simp only [List.set_cons_zero, gramSum, List.getElem_cons_zero]; omega
  | e :: l, i + 1, h, d => by
    have := gramSum_set l i (by simpa using h) d
    simp only [List.set_cons_succ, gramSum, List.getElem_cons_succ]
    omega
theorem gramSum_drop (l : List S51) (i : Nat) (h : i < l.length) : gramSum (l.drop i) = (l[i]'h).f2 + gramSum (l.drop (i + 1)) := by
  rw [List.drop_eq_getElem_cons h]; rfl
theorem move_tells {xs : List S51} {a b g : Int} (h : (moveGramsM xs a b g).2 = 0) : AreDepotsM xs ∧ AreDepotsM (moveGramsM xs a b g).1 ∧ (moveGramsM xs a b g).1.length = xs.length ∧ (0 ≤ b ∧ b < xs.length) ∧ (0 ≤ g ∧ g ≤ 100000000) ∧ (rd_T51 (moveGramsM xs a b g).1 b).f2 = (rd_T51 xs b).f2 + g ∧ gramSum (moveGramsM xs a b g).1 = gramSum xs := by
  unfold moveGramsM at h ⊢
  by_cases h1 : AreDepotsM xs
  · by_cases h2 : 0 ≤ a ∧ a ≤ (xs.length : Int) - 1
    · by_cases h3 : 0 ≤ b ∧ b ≤ (xs.length : Int) - 1
      · by_cases h4 : 0 ≤ g ∧ g ≤ 100000000
        · by_cases h5 : a = b
          · rw [if_pos h1, if_pos h2, if_pos h3, if_pos h4, if_pos h5] at h; exact absurd h (by decide)
          · by_cases h6 : AreDepotsM (movedM xs a b g)
            · rw [if_pos h1, if_pos h2, if_pos h3, if_pos h4, if_neg h5, if_pos h6]
              have la : a.toNat < xs.length := by omega
              have lb : b.toNat < xs.length := by omega
              have ga := (ok_at h1 h2.1 (show a < xs.length by omega)).g
              have gb := (ok_at h1 h3.1 (show b < xs.length by omega)).g
              have hne : a.toNat ≠ b.toNat := by omega
              refine ⟨h1, h6, movedM_length .., ⟨h3.1, by omega⟩, h4, ?_, ?_⟩
              · rw [rdDepot h3.1 (by rw [movedM_length]; omega)]
                simp only [movedM, List.getElem_set_self]
                rw [rdDepot h3.1 (by rw [List.length_set]; omega), List.getElem_set_ne hne, ← rdDepot h3.1 (by omega)]
                exact w64 (by omega) (by omega)
              · simp only [movedM]
                rw [gramSum_set _ _ (by rw [List.length_set]; exact lb), gramSum_set _ _ la, List.getElem_set_ne hne]
                rw [rdDepot h3.1 (by rw [List.length_set]; omega), List.getElem_set_ne hne, ← rdDepot h3.1 (by omega), ← rdDepot h2.1 (by omega)]
                rw [w64 (x := (rd_T51 xs a).f2 - g) (by omega) (by omega), w64 (x := (rd_T51 xs b).f2 + g) (by omega) (by omega)]
                show gramSum xs - (rd_T51 xs a).f2 + ((rd_T51 xs a).f2 - g) - (rd_T51 xs b).f2 + ((rd_T51 xs b).f2 + g) = gramSum xs
                omega
            · rw [if_pos h1, if_pos h2, if_pos h3, if_pos h4, if_neg h5, if_neg h6] at h; exact absurd h (by decide)
        · rw [if_pos h1, if_pos h2, if_pos h3, if_neg h4] at h; exact absurd h (by decide)
      · rw [if_pos h1, if_pos h2, if_neg h3] at h; exact absurd h (by decide)
    · rw [if_pos h1, if_neg h2] at h; exact absurd h (by decide)
  · rw [if_neg h1] at h; exact absurd h (by decide)

theorem pairsM_two {xs : List S51} (f : Int) : ∀ p ∈ pairsM xs f, p.length = 2 := by
  unfold pairsM
  refine foldU_ind (upd := pairsU xs f) (n := xs.length) (fun s _ => ∀ p ∈ s, p.length = 2) (fun s i h0 h1 hI => ?_) xs.length [] 0 (by omega) (by omega) (by simp)
  unfold pairsU
  refine foldU_ind (upd := rowU xs f i) (n := xs.length) (fun s _ => ∀ p ∈ s, p.length = 2) (fun s j _ _ hJ => ?_) (xs.length - 1 - i.toNat) s (i + 1) (by omega) (by omega) hI
  unfold rowU
  split
  · intro p hp
    rcases List.mem_append.1 hp with hp | hp
    · exact hJ p hp
    · rw [List.mem_singleton.1 hp]; rfl
  · exact hJ
theorem impl_TooClose_ev {xs : List S51} (f : Int) : Ev (fun k => impl_TooClose.f k xs f) (if AreDepotsM xs then (if 0 ≤ f ∧ f ≤ 500 then (pairsM xs f, 0) else ([], 2)) else ([], 1)) := by
  unfold impl_TooClose.f impl_isFactor.f
  rw [within_eq]
  simp only [Option.bind_some]
  by_cases hx : AreDepotsM xs
  · rw [if_pos hx]
    refine Ev.bind (impl_AreDepots_ev xs) (Ev_pos (decide_eq_true hx) ?_)
    by_cases hf : 0 ≤ f ∧ f ≤ 500
    · rw [if_pos hf]
      exact Ev_pos (decide_eq_true hf) (Ev.bind (impl_closePairs_ev hx hf) (Ev.now _))
    · rw [if_neg hf]
      exact Ev_neg (by simpa using hf) (Ev.now _)
  · rw [if_neg hx]
    exact Ev.bind (impl_AreDepots_ev xs) (Ev_neg (by simpa using hx) (Ev.now _))
theorem core_FnExactTooClose (xs : List S51) (f : Int) (hn : xs.length ≤ 1000000) (_w : (Lit.int .i64 f).wf = true) : ∃ r1 r2, Ev (fun k => spec_TooClose.f k xs f) (r1, r2) ∧ Ev (fun k => impl_TooClose.f k xs f) (r1, r2) ∧ (r1.length ≤ 1000 ∧ ∀ p ∈ r1, p.length ≤ 1000) := by
  have h1 := spec_TooClose_ev hn f
  have h2 := impl_TooClose_ev (xs := xs) f
  by_cases hx : AreDepotsM xs
  · by_cases hf : 0 ≤ f ∧ f ≤ 500
    · rw [if_pos hx, if_pos hf] at h1 h2
      have := pairsM_length hx.2 f
      exact ⟨_, _, h1, h2, by omega, fun p hp => by rw [pairsM_two f p hp]; omega⟩
    · rw [if_pos hx, if_neg hf] at h1 h2
      exact ⟨_, _, h1, h2, by simp, by simp⟩
  · rw [if_neg hx] at h1 h2
    exact ⟨_, _, h1, h2, by simp, by simp⟩

noncomputable def tooM (xs : List S51) (f : Int) : List (List Int) × Int := if AreDepotsM xs then (if 0 ≤ f ∧ f ≤ 500 then (pairsM xs f, 0) else ([], 2)) else ([], 1)
theorem tooM_ok {xs : List S51} {f : Int} (hx : AreDepotsM xs) (hf : 0 ≤ f ∧ f ≤ 500) : tooM xs f = (pairsM xs f, 0) := by unfold tooM; rw [if_pos hx, if_pos hf]
theorem tooM_code0 {xs : List S51} {f : Int} (h : (tooM xs f).2 = 0) : AreDepotsM xs ∧ 0 ≤ f ∧ f ≤ 500 := by
  unfold tooM at h
  by_cases hx : AreDepotsM xs
  · by_cases hf : 0 ≤ f ∧ f ≤ 500
    · exact ⟨hx, hf⟩
    · rw [if_pos hx, if_neg hf] at h; exact absurd h (by decide)
  · rw [if_neg hx] at h; exact absurd h (by decide)
theorem tooM_small (xs : List S51) (f : Int) : (tooM xs f).1.length ≤ 1000 ∧ ∀ p ∈ (tooM xs f).1, p.length ≤ 1000 := by
  unfold tooM
  by_cases hx : AreDepotsM xs
  · by_cases hf : 0 ≤ f ∧ f ≤ 500
    · rw [if_pos hx, if_pos hf]
      have := pairsM_length hx.2 f
      exact ⟨by show (pairsM xs f).length ≤ 1000; omega, fun p hp => by rw [pairsM_two f p hp]; omega⟩
    · rw [if_pos hx, if_neg hf]
      exact ⟨by simp, by simp⟩
  · rw [if_neg hx]
    exact ⟨by simp, by simp⟩
/-- The depot c with other grams. -/
def regram (xs : List S51) (c g : Int) : List S51 := xs.set c.toNat ⟨(rd_T51 xs c).f0, (rd_T51 xs c).f1, g⟩
theorem regram_ok {xs : List S51} (hx : AreDepotsM xs) {c g : Int} (h0 : 0 ≤ c) (h1 : c < xs.length) (hg : 0 ≤ g ∧ g ≤ 100000000) : AreDepotsM (regram xs c g) := by
  refine ⟨fun d hd => ?_, by unfold regram; rw [List.length_set]; exact hx.2⟩
  rcases List.mem_or_eq_of_mem_set hd with hd | rfl
  · exact hx.1 d hd
  · exact ⟨(ok_at hx h0 h1).1, hg⟩
theorem regram_at {xs : List S51} {c g : Int} (h0 : 0 ≤ c) (h1 : c < xs.length) : rd_T51 (regram xs c g) c = ⟨(rd_T51 xs c).f0, (rd_T51 xs c).f1, g⟩ := by
  rw [rdDepot h0 (by unfold regram; rw [List.length_set]; exact h1)]
  exact List.getElem_set_self _
theorem regram_else {xs : List S51} {c g j : Int} (h0 : 0 ≤ c) (h2 : 0 ≤ j) (h3 : j < xs.length) (hj : j ≠ c) : rd_T51 (regram xs c g) j = rd_T51 xs j := by
  rw [rdDepot h2 (by unfold regram; rw [List.length_set]; exact h3), rdDepot h2 h3]
  exact List.getElem_set_ne (by omega) _
theorem sqM_symm (a b : S51) : sqM a b.f0 b.f1 = sqM b a.f0 a.f1 := by
  have h : ∀ x y : Int, (x - y) * (x - y) = (y - x) * (y - x) := fun x y => by
    rw [show x - y = -(y - x) by omega, Int.neg_mul_neg]
  unfold sqM
  rw [h a.f0, h a.f1]
theorem regram_far {xs : List S51} {f c g : Int} (h0 : 0 ≤ c) (h1 : c < xs.length) (hF : Far xs f c g) {i j : Int} (hi : 0 ≤ i) (hij : i < j) (hj : j < xs.length) (h : Close (regram xs c g) f i j) : i ≠ c ∧ j ≠ c := by
  unfold Close at h
  refine ⟨fun e => ?_, fun e => ?_⟩
  · subst e
    rw [regram_at h0 h1, regram_else h0 (by omega) hj (by omega)] at h
    have := hF j (by omega) hj (by omega)
    have e : closeM (⟨(rd_T51 xs i).f0, (rd_T51 xs i).f1, g⟩ : S51) g (rd_T51 xs j) f = closeM (rd_T51 xs i) g (rd_T51 xs j) f := rfl
    rw [e, this] at h
    cases h
  · subst e
    rw [regram_at h0 h1, regram_else h0 hi (by omega) (by omega)] at h
    have := hF i hi (by omega) (by omega)
    have e : closeM (rd_T51 xs i) (rd_T51 xs i).f2 (⟨(rd_T51 xs j).f0, (rd_T51 xs j).f1, g⟩ : S51) f = closeM (rd_T51 xs j) g (rd_T51 xs i) f := by
      unfold closeM
      simp only
      rw [sqM_symm (rd_T51 xs i) (rd_T51 xs j), Int.max_comm]
    rw [e, this] at h
    cases h
theorem depots_l1 {xs : List S51} {f c : Int} (hp : ∀ p ∈ pairsM xs f, p.length = 2 ∧ rd p 0 ≠ c ∧ rd p 1 ≠ c) (hn : (pairsM xs f).length ≤ 80) (d : Nat) : ∀ i : Int, 0 ≤ i → i + d = (pairsM xs f).length → Ev (fun k => laws_FnDepots.l1 k c (pairsM xs f) 0 i) true := by
  induction d with
  | zero =>
    intro i h0 h1
    exact Ev_succ (by
      simp only [laws_FnDepots.l1]
      exact Ev_neg (by omega) (Ev.now _))
  | succ d ih =>
    intro i h0 h1
    obtain ⟨a1, a2, a3⟩ : (rd_L3 (pairsM xs f) i).length = 2 ∧ rd (rd_L3 (pairsM xs f) i) 0 ≠ c ∧ rd (rd_L3 (pairsM xs f) i) 1 ≠ c := by
      refine hp _ ?_
      show (pairsM xs f).getD i.toNat [] ∈ pairsM xs f
      rw [List.getD_eq_getElem?_getD, List.getElem?_eq_getElem (show i.toNat < (pairsM xs f).length by omega)]
      exact List.getElem_mem _
    exact Ev_succ (by
      simp only [laws_FnDepots.l1]
      rw [w64 (x := i + 1) (by omega) (by omega)]
      exact Ev_pos (by omega) (Ev_pos h0 (Ev_pos (by omega) (Ev_neg a2 (Ev_pos (by omega) (Ev_neg a3 (ih (i + 1) (by omega) (by omega))))))))
theorem impl_too (xs : List S51) (f : Int) : Ev (fun k => impl_TooClose.f k xs f) (tooM xs f) := impl_TooClose_ev f
theorem spec_too (xs : List S51) (hn : xs.length ≤ 1000000) (f : Int) : Ev (fun k => spec_TooClose.f k xs f) (tooM xs f) := spec_TooClose_ev hn f
theorem depots_j3 {xs : List S51} (hn : xs.length ≤ 20) {f c r e : Int} (hl : e = 0 → AreDepotsM xs ∧ (0 ≤ f ∧ f ≤ 500) ∧ 0 ≤ c ∧ c < xs.length ∧ 0 ≤ r ∧ r ≤ 100000000 ∧ Far xs f c r) : Ev (fun k => laws_FnDepots.j3 k xs f c r e) true := by
  refine Ev_succ (by
    simp only [laws_FnDepots.j3, Option.bind_some, List.nil_append, List.length_nil]
    refine Ev_ite (fun he => ?_) (fun _ => Ev.now _)
    obtain ⟨hx, hf, h0, h1, hr0, hr1, hF⟩ := hl he
    refine Ev_pos (by omega) (Ev_pos h0 (Ev_pos h1 ?_))
    have hy := regram_ok hx h0 h1 ⟨hr0, hr1⟩
    have hyl : (regram xs c r).length = xs.length := by unfold regram; rw [List.length_set]
    refine Ev.bind (impl_too (regram xs c r) f) (Ev.bind (spec_too (regram xs c r) (by omega) f) (Ev_pos rfl (Ev.bind (likeRows_refl _ (tooM_small _ _)) ?_)))
    refine Ev_succ (by
      simp only [laws_FnDepots.j4, Bool.not_true, Bool.false_eq_true, if_false]
      rw [tooM_ok hy hf]
      have hb := pairsM_length hy.2 f
      refine depots_l1 (fun p hp => ?_) hb (pairsM (regram xs c r) f).length 0 (by omega) (by omega)
      obtain ⟨i, j, a1, a2, a3, a4, rfl⟩ := (mem_pairs _ _ _).1 hp
      have hq : i ≠ c ∧ j ≠ c := regram_far h0 h1 hF a1 a2 (by omega) a4
      exact ⟨rfl, hq.1, hq.2⟩))
theorem depots_l0 {xs : List S51} (hn : xs.length ≤ 20) {f c r e : Int} (hl : e = 0 → AreDepotsM xs ∧ (0 ≤ f ∧ f ≤ 500) ∧ 0 ≤ c ∧ c < xs.length ∧ 0 ≤ r ∧ r ≤ 100000000 ∧ Far xs f c r) {ws ys : List S51} {b g : Int} (h1 : AreDepotsM ws) (h2 : AreDepotsM ys) (h3 : ys.length = ws.length) (h4 : 0 ≤ b ∧ b < ws.length) (h5 : 0 ≤ g ∧ g ≤ 100000000) (h6 : (rd_T51 ys b).f2 = (rd_T51 ws b).f2 + g) (h7 : gramSum ys = gramSum ws) (d : Nat) : ∀ s t i : Int, 0 ≤ i → i + d = ws.length → 0 ≤ s → s ≤ 100000000 * i → 0 ≤ t → t ≤ 100000000 * i → s + gramSum (ws.drop i.toNat) = gramSum ws → t + gramSum (ys.drop i.toNat) = gramSum ys → Ev (fun k => laws_FnDepots.l0 k xs f c r e ws b g ys s t i) true := by
  have hw8 := h1.2
  induction d with
  | zero =>
    intro s t i i0 i1 s0 s1 t0 t1 hs ht
    have gb := (ok_at h1 h4.1 h4.2).g
    rw [List.drop_eq_nil_of_le (by omega)] at hs ht
    simp only [gramSum] at hs ht
    refine Ev_succ (by
      simp only [laws_FnDepots.l0]
      refine Ev_neg (by omega) (Ev_pos (by omega) (Ev.bind (impl_AreDepots_ev ys) (Ev_pos (decide_eq_true h2) (Ev_pos h4.1 (Ev_pos (by omega) (Ev_pos (by omega) (Ev_pos ?_ (depots_j3 hn hl))))))))
      rw [h6, w64 (by omega) (by omega)])
  | succ d ih =>
    intro s t i i0 i1 s0 s1 t0 t1 hs ht
    have gw := (ok_at h1 i0 (show i < ws.length by omega)).g
    have gy := (ok_at h2 i0 (show i < ys.length by omega)).g
    rw [gramSum_drop ws i.toNat (by omega), ← rdDepot i0 (by omega)] at hs
    rw [gramSum_drop ys i.toNat (by omega), ← rdDepot i0 (by omega)] at ht
    refine Ev_succ (by
      simp only [laws_FnDepots.l0]
      refine Ev_pos (by omega) (Ev_pos i0 (Ev_pos (by omega) ?_))
      rw [w64 (x := s + _) (by omega) (by omega), w64 (x := t + _) (by omega) (by omega), w64 (x := i + 1) (by omega) (by omega)]
      exact ih _ _ (i + 1) (by omega) (by omega) (by omega) (by omega) (by omega) (by omega) (by rw [show (i + 1).toNat = i.toNat + 1 by omega]; omega) (by rw [show (i + 1).toNat = i.toNat + 1 by omega]; omega))
theorem FnDepots : laws_FnDepots.Pure := by
  intro c hn0 hn1 hw
  have hc := bytes_of hw
  refine Ev.rounds ?_
  unfold laws_FnDepots.f
  rw [big_eq]
  simp only [Option.bind_some, decide_eq_true_eq]
  refine Ev_ite (fun _ => Ev.now _) (fun hb => ?_)
  have hl : c.length ≤ 4096 := by omega
  obtain ⟨xs, f, i, h1, hx⟩ := drawLimit_tells c hc hl
  obtain ⟨ws, a, b, g, h2, hws⟩ := drawMove_tells c hc hl
  obtain ⟨r, e, hs, hi, hlim⟩ := limit_tells xs f i (by omega)
  obtain ⟨gr, gc, hgs, hgi, hgc, hg⟩ := greatest_tells xs (by omega)
  refine Ev.bind h1 (Ev.bind hi (Ev.bind hs (Ev.bind (impl_too xs f) (Ev.bind (spec_too xs (by omega) f) (Ev.bind h2 (Ev.bind (impl_MoveGrams_ev ws a b g) (Ev.bind (spec_MoveGrams_ev ws (by omega) a b g) (Ev.bind hgi (Ev.bind hgs ?_)))))))))
  refine Ev_pos rfl (Ev_pos rfl (Ev_pos rfl (Ev.bind (likeRows_refl _ (tooM_small xs f)) (Ev_pos rfl (Ev_pos rfl (Ev.bind (likeDepots_refl _ (by have := moveGramsM_length ws a b g; omega)) (Ev_pos rfl (Ev_pos rfl (Ev_pos rfl (Ev.bind (impl_AreDepots_ev xs) ?_))))))))))
  simp only [hgc]
  have hj1 : Ev (fun k => laws_FnDepots.j1 k xs f i r e ws b g (moveGramsM ws a b g).1 (moveGramsM ws a b g).2 false) true := Ev_succ (by
    simp only [laws_FnDepots.j1, Bool.false_eq_true, if_false]
    refine Ev_ite (fun hm => ?_) (fun _ => depots_j3 hx hlim)
    obtain ⟨m1, m2, m3, m4, m5, m6, m7⟩ := move_tells hm
    exact depots_l0 hx hlim m1 m2 m3 m4 m5 m6 m7 ws.length 0 0 0 (by omega) (by omega) (by omega) (by omega) (by omega) (by omega) (by simp) (by simp))
  refine Ev_succ (by
    simp only [laws_FnDepots.j0, Bool.false_eq_true, if_false]
    refine Ev_ite (fun ht => ?_) (fun _ => hj1)
    obtain ⟨hd, hf⟩ := tooM_code0 ht
    have hiff := greatest_iff hd 500 (by omega) f hf.1 hf.2
    have ez : ((((tooM xs f).1.length : Int) == 0) != decide (f ≤ gr)) = false := by
      rw [tooM_ok hd hf, hg hd]
      simp only
      by_cases hq : (pairsM xs f).length = 0
      · rw [decide_eq_true (hiff.1 hq), hq]; rfl
      · rw [decide_eq_false (fun h => hq (hiff.2 h))]
        have : (((pairsM xs f).length : Int) == 0) = false := by simpa using hq
        rw [this]; rfl
    rw [ez]
    exact hj1)



end Go.Proofs.Ytmhnkhealidjjaa.Pure
