/- The statement over numbers and lists for FnNearDepots: the reference and the program answer alike for all arguments. -/
import Derived.Test.YtmhnkhealidjjaaQFnNearDepotsx7
set_option linter.unusedVariables false
set_option linter.unusedSimpArgs false
namespace Go.Proofs.Ytmhnkhealidjjaa.Pure
open Go.RowKit Go.Proofs.Ytmhnkhealidjjaa.PFnNearDepots Go.Proofs.YtmhnkhealidjjaaW.PrintWords Go.Proofs.YtmhnkhealidjjaaW.PrintLast Go.Proofs.YtmhnkhealidjjaaW.PrintMore


theorem w64 {x : Int} (h0 : -9223372036854775808 ≤ x) (h1 : x ≤ 9223372036854775807) : wrap64 x = x := by unfold wrap64; omega
theorem Ev_ite {α : Type} {c : Prop} [Decidable c] {g h : Nat → Option α} {r : α} (h1 : c → Ev g r) (h2 : ¬ c → Ev h r) : Ev (fun k => if c then g k else h k) r := by
  by_cases hc : c
  · obtain ⟨K, hK⟩ := h1 hc
    exact ⟨K, fun k hk => (if_pos hc).trans (hK k hk)⟩
  · obtain ⟨K, hK⟩ := h2 hc
    exact ⟨K, fun k hk => (if_neg hc).trans (hK k hk)⟩
theorem Ev_pos {α : Type} {c : Prop} [Decidable c] {g h : Nat → Option α} {r : α} (hc : c) (h1 : Ev g r) : Ev (fun k => if c then g k else h k) r := Ev_ite (fun _ => h1) (fun n => absurd hc n)
theorem Ev_neg {α : Type} {c : Prop} [Decidable c] {g h : Nat → Option α} {r : α} (hc : ¬ c) (h1 : Ev h r) : Ev (fun k => if c then g k else h k) r := Ev_ite (fun n => absurd n hc) (fun _ => h1)
theorem Ev_some {α : Type} {r q : α} (h : r = q) : Ev (fun _ => some r) q := h ▸ Ev.now r
theorem Ev_eq {α : Type} {g : Nat → Option α} {r q : α} (h : r = q) (k : Ev g r) : Ev g q := h ▸ k
theorem Ev_const {α : Type} {o : Option α} {r : α} (h : o = some r) : Ev (fun _ => o) r := by subst h; exact Ev.now r
theorem Ev_bindc {α β : Type} {o : Option α} {f : Nat → α → Option β} {a : α} {r : β} (h : o = some a) (k : Ev (fun n => f n a) r) : Ev (fun n => o.bind (f n)) r := by subst h; exact k
theorem Ev_unique {α : Type} {g : Nat → Option α} {r q : α} (h : Ev g r) (k : Ev g q) : r = q := by
  obtain ⟨K, h⟩ := h
  obtain ⟨L, k⟩ := k
  have h1 := h (max K L) (by omega)
  have h2 := k (max K L) (by omega)
  rw [h1] at h2
  exact Option.some.inj h2
theorem lit64 {x : Int} (h : (Lit.int .i64 x).wf = true) : -9223372036854775808 ≤ x ∧ x ≤ 9223372036854775807 := by
  have h := h
  simp [Lit.wf, IntKind.min, IntKind.max, IntKind.bits, IntKind.signed] at h
  omega
theorem mn_eq (a b : Int) : mn a b = min a b := by unfold mn; omega
theorem mx_eq (a b : Int) : mx a b = max a b := by unfold mx; omega

theorem within_eq (a lo hi : Int) : impl_within.f a lo hi = some (decide (lo ≤ a ∧ a ≤ hi)) := by
  unfold impl_within.f
  by_cases h : lo ≤ a <;> simp [h]

theorem isPlace_eq (x y : Int) : impl_isPlace.f x y = some (decide ((0 ≤ x ∧ x ≤ 100000) ∧ 0 ≤ y ∧ y ≤ 100000)) := by
  unfold impl_isPlace.f; rw [within_eq, within_eq]
  by_cases h1 : 0 ≤ x ∧ x ≤ 100000 <;> by_cases h2 : 0 ≤ y ∧ y ≤ 100000 <;> simp [h1, h2]

theorem l01In_eq (a lo hi : Int) : spec_l01In.f a lo hi = some (decide (lo ≤ a ∧ a ≤ hi)) := by
  unfold spec_l01In.f
  by_cases h : a ≥ lo
  · have : lo ≤ a := h
    simp [this]
  · have : ¬ lo ≤ a := h
    simp [this]

theorem l15Place_eq (x y : Int) : spec_l15Place.f x y = some (decide ((0 ≤ x ∧ x ≤ 100000) ∧ 0 ≤ y ∧ y ≤ 100000)) := by
  unfold spec_l15Place.f; rw [l01In_eq, l01In_eq]
  by_cases h1 : 0 ≤ x ∧ x ≤ 100000 <;> by_cases h2 : 0 ≤ y ∧ y ≤ 100000 <;> simp [h1, h2]

theorem areGrams_eq (a : Int) : impl_areGrams.f a = some (decide (0 ≤ a ∧ a ≤ 100000000)) := by
  unfold impl_areGrams.f; rw [within_eq]; rfl

/-- A depot in its bounds. -/
def OkDepot (d : S51) : Prop := ((0 ≤ d.f0 ∧ d.f0 ≤ 100000) ∧ 0 ≤ d.f1 ∧ d.f1 ≤ 100000) ∧ 0 ≤ d.f2 ∧ d.f2 ≤ 100000000
instance (d : S51) : Decidable (OkDepot d) := by unfold OkDepot; infer_instance
def AreDepotsM (xs : List S51) : Prop := (∀ d ∈ xs, OkDepot d) ∧ xs.length ≤ 8
instance (xs : List S51) : Decidable (AreDepotsM xs) := by unfold AreDepotsM; infer_instance
theorem rdDepot {xs : List S51} {i : Int} (h0 : 0 ≤ i) (h1 : i < xs.length) : rd_T51 xs i = xs[i.toNat]'(by omega) := by
  simp [rd_T51, List.getD_eq_getElem?_getD, List.getElem?_eq_getElem (show i.toNat < xs.length by omega)]
theorem all_drop {α : Type} {p : α → Prop} {xs : List α} {i : Nat} (h : i < xs.length) : (∀ x ∈ xs.drop i, p x) ↔ p xs[i] ∧ ∀ x ∈ xs.drop (i + 1), p x := by
  rw [List.drop_eq_getElem_cons h, List.forall_mem_cons]
theorem spec_areDepots_loop (xs : List S51) (hn : xs.length ≤ 9000000000000000000) (d : Nat) : ∀ (k : Nat) (i : Int), 0 ≤ i → i ≤ xs.length → ((xs.length : Int) - i).toNat ≤ d → d < k →
    spec_AreDepots.l0 k xs i = some (decide ((∀ x ∈ xs.drop i.toNat, OkDepot x) ∧ xs.length ≤ 8)) := by
  induction d with
  | zero =>
    intro k i h0 h1 hd hk
    obtain ⟨k, rfl⟩ : ∃ m, k = m + 1 := ⟨k - 1, by omega⟩
    simp only [spec_AreDepots.l0]
    rw [if_neg (by omega), List.drop_eq_nil_of_le (by omega)]
    congr 1
    simp
    omega
  | succ d ih =>
    intro k i h0 h1 hd hk
    obtain ⟨k, rfl⟩ : ∃ m, k = m + 1 := ⟨k - 1, by omega⟩
    simp only [spec_AreDepots.l0]
    by_cases hlt : i < (xs.length : Int)
    · rw [if_pos hlt, if_pos h0, rdDepot h0 hlt, l15Place_eq, l01In_eq]
      have hall := all_drop (p := OkDepot) (xs := xs) (i := i.toNat) (by omega)
      simp only [Option.bind_some, decide_eq_true_eq]
      by_cases h1 : (0 ≤ (xs[i.toNat]'(by omega)).f0 ∧ (xs[i.toNat]'(by omega)).f0 ≤ 100000) ∧ 0 ≤ (xs[i.toNat]'(by omega)).f1 ∧ (xs[i.toNat]'(by omega)).f1 ≤ 100000
      · rw [if_pos h1]
        by_cases h2 : 0 ≤ (xs[i.toNat]'(by omega)).f2 ∧ (xs[i.toNat]'(by omega)).f2 ≤ 100000000
        · rw [if_pos h2, w64 (by omega) (by omega), ih k (i + 1) (by omega) (by omega) (by omega) (by omega)]
          rw [show (i + 1).toNat = i.toNat + 1 by omega]
          congr 1
          rw [decide_eq_decide, hall]
          exact ⟨fun h => ⟨⟨⟨h1, h2⟩, h.1⟩, h.2⟩, fun h => ⟨h.1.2, h.2⟩⟩
        · rw [if_neg h2, decide_eq_false]
          rw [hall]
          exact fun h => h2 h.1.1.2
      · rw [if_neg h1, decide_eq_false]
        rw [hall]
        exact fun h => h1 h.1.1.1
    · rw [if_neg hlt, List.drop_eq_nil_of_le (by omega)]
      congr 1
      simp
      omega
theorem spec_AreDepots_ev (xs : List S51) (hn : xs.length ≤ 9000000000000000000) : Ev (fun k => spec_AreDepots.f k xs) (decide (AreDepotsM xs)) :=
  ⟨xs.length + 1, fun k hk => by
    simp only [spec_AreDepots.f]
    rw [spec_areDepots_loop xs hn xs.length k 0 (by omega) (by omega) (by omega) (by omega)]
    rfl⟩
theorem impl_areDepots_loop (xs : List S51) (hn : xs.length ≤ 8) (d : Nat) : ∀ (k : Nat) (i : Int), 0 ≤ i → i ≤ xs.length → ((xs.length : Int) - i).toNat ≤ d → d < k →
    impl_AreDepots.l0 k xs (xs.length : Int) i = some (decide ((∀ x ∈ xs.drop i.toNat, OkDepot x))) := by
  induction d with
  | zero =>
    intro k i h0 h1 hd hk
    obtain ⟨k, rfl⟩ : ∃ m, k = m + 1 := ⟨k - 1, by omega⟩
    simp only [impl_AreDepots.l0]
    rw [if_neg (by omega), List.drop_eq_nil_of_le (by omega)]
    simp
  | succ d ih =>
    intro k i h0 h1 hd hk
    obtain ⟨k, rfl⟩ : ∃ m, k = m + 1 := ⟨k - 1, by omega⟩
    simp only [impl_AreDepots.l0]
    by_cases hlt : i < (xs.length : Int)
    · rw [if_pos hlt, if_pos h0, if_pos hlt, rdDepot h0 hlt, isPlace_eq, areGrams_eq]
      have hall := all_drop (p := OkDepot) (xs := xs) (i := i.toNat) (by omega)
      simp only [Option.bind_some, decide_eq_true_eq]
      by_cases h1 : (0 ≤ (xs[i.toNat]'(by omega)).f0 ∧ (xs[i.toNat]'(by omega)).f0 ≤ 100000) ∧ 0 ≤ (xs[i.toNat]'(by omega)).f1 ∧ (xs[i.toNat]'(by omega)).f1 ≤ 100000
      · rw [if_pos h1]
        by_cases h2 : 0 ≤ (xs[i.toNat]'(by omega)).f2 ∧ (xs[i.toNat]'(by omega)).f2 ≤ 100000000
        · rw [if_pos h2, w64 (by omega) (by omega), ih k (i + 1) (by omega) (by omega) (by omega) (by omega)]
          rw [show (i + 1).toNat = i.toNat + 1 by omega]
          congr 1
          rw [decide_eq_decide, hall]
          exact ⟨fun h => ⟨⟨h1, h2⟩, h⟩, fun h => h.2⟩
        · rw [if_neg h2, decide_eq_false]
          rw [hall]
          exact fun h => h2 h.1.2
      · rw [if_neg h1, decide_eq_false]
        rw [hall]
        exact fun h => h1 h.1.1
    · rw [if_neg hlt, List.drop_eq_nil_of_le (by omega)]
      simp
theorem impl_AreDepots_ev (xs : List S51) : Ev (fun k => impl_AreDepots.f k xs) (decide (AreDepotsM xs)) := by
  by_cases h : xs.length ≤ 8
  · refine ⟨xs.length + 1, fun k hk => ?_⟩
    simp only [impl_AreDepots.f]
    rw [if_neg (by omega), impl_areDepots_loop xs h xs.length k 0 (by omega) (by omega) (by omega) (by omega)]
    congr 1
    rw [decide_eq_decide]
    exact ⟨fun q => ⟨q, h⟩, fun q => q.1⟩
  · refine ⟨0, fun k _ => ?_⟩
    simp only [impl_AreDepots.f]
    rw [if_pos (by omega), decide_eq_false]
    exact fun q => h q.2

theorem sq_le {a b : Int} (h0 : 0 ≤ a) (h : a ≤ b) : 0 ≤ a * a ∧ a * a ≤ b * b := ⟨Int.mul_nonneg h0 h0, Int.mul_le_mul h h h0 (by omega)⟩
theorem cube_le {a b : Int} (h0 : 0 ≤ a) (h : a ≤ b) : 0 ≤ a * a * a ∧ a * a * a ≤ b * b * b := by
  obtain ⟨h1, h2⟩ := sq_le h0 h
  exact ⟨Int.mul_nonneg h1 h0, Int.mul_le_mul h2 h h0 (by omega)⟩
theorem cube_lt {a b : Int} (h0 : 0 ≤ a) (h : a < b) : a * a * a < b * b * b := by
  obtain ⟨h1, h2⟩ := cube_le h0 (show a ≤ b - 1 by omega)
  obtain ⟨c, rfl⟩ : ∃ c, b = c + 1 := ⟨b - 1, by omega⟩
  have e : (c + 1) * (c + 1) * (c + 1) = c * c * c + (3 * (c * c) + 3 * c + 1) := by
    simp only [Int.add_mul, Int.mul_add, Int.mul_one, Int.one_mul]
    omega
  have hc : 0 ≤ c := by omega
  have := Int.mul_nonneg hc hc
  rw [e]
  have e2 : c + 1 - 1 = c := by omega
  rw [e2] at h2
  omega

/-- The square of the distance. -/
def sqM (d : S51) (x y : Int) : Int := (d.f0 - x) * (d.f0 - x) + (d.f1 - y) * (d.f1 - y)
theorem sq_bound {a : Int} (h0 : -100000 ≤ a) (h1 : a ≤ 100000) : 0 ≤ a * a ∧ a * a ≤ 10000000000 := by
  by_cases h : 0 ≤ a
  · have := sq_le h h1
    omega
  · have := sq_le (show 0 ≤ -a by omega) (show -a ≤ 100000 by omega)
    rw [Int.neg_mul_neg] at this
    omega
theorem sqM_bound {d : S51} (hd : OkDepot d) {x y : Int} (hx : 0 ≤ x ∧ x ≤ 100000) (hy : 0 ≤ y ∧ y ≤ 100000) : 0 ≤ sqM d x y ∧ sqM d x y ≤ 20000000000 := by
  obtain ⟨⟨⟨h1, h2⟩, h3, h4⟩, _⟩ := hd
  have a := sq_bound (show -100000 ≤ d.f0 - x by omega) (by omega)
  have b := sq_bound (show -100000 ≤ d.f1 - y by omega) (by omega)
  unfold sqM
  omega
theorem squareW {a b x y : Int} (ha : 0 ≤ a ∧ a ≤ 100000) (hb : 0 ≤ b ∧ b ≤ 100000) (hx : 0 ≤ x ∧ x ≤ 100000) (hy : 0 ≤ y ∧ y ≤ 100000) :
    wrap64 (wrap64 (wrap64 (a - x) * wrap64 (a - x)) + wrap64 (wrap64 (b - y) * wrap64 (b - y))) = (a - x) * (a - x) + (b - y) * (b - y) := by
  have h1 := sq_bound (show -100000 ≤ a - x by omega) (by omega)
  have h2 := sq_bound (show -100000 ≤ b - y by omega) (by omega)
  rw [w64 (x := a - x) (by omega) (by omega), w64 (x := b - y) (by omega) (by omega), w64 (x := (a - x) * (a - x)) (by omega) (by omega), w64 (x := (b - y) * (b - y)) (by omega) (by omega), w64 (by omega) (by omega)]
theorem OkDepot.x {d : S51} (h : OkDepot d) : 0 ≤ d.f0 ∧ d.f0 ≤ 100000 := h.1.1
theorem OkDepot.y {d : S51} (h : OkDepot d) : 0 ≤ d.f1 ∧ d.f1 ≤ 100000 := h.1.2
theorem OkDepot.g {d : S51} (h : OkDepot d) : 0 ≤ d.f2 ∧ d.f2 ≤ 100000000 := h.2
theorem ok_at {xs : List S51} (h : AreDepotsM xs) {i : Int} (h0 : 0 ≤ i) (h1 : i < xs.length) : OkDepot (rd_T51 xs i) := by
  rw [rdDepot h0 h1]
  exact h.1 _ (List.getElem_mem _)

/-- A loop over the numbers 0 to n - 1: d rounds from i on. -/
def forM {S ρ : Type} (step : S → Int → ρ ⊕ S) (out : S → ρ) : Nat → S → Int → ρ
  | 0, s, _ => out s
  | d + 1, s, i => match step s i with
    | .inl r => r
    | .inr s' => forM step out d s' (i + 1)
theorem Ev_for {S ρ : Type} {F : Nat → S → Int → Option ρ} {step : S → Int → ρ ⊕ S} {out : S → ρ} {n : Nat} (Inv : S → Int → Prop)
    (hend : ∀ s, Inv s n → ∃ K, ∀ k, K ≤ k → F k s n = some (out s))
    (hstep : ∀ (s : S) (i : Int), 0 ≤ i → i < n → Inv s i → (∃ r, step s i = .inl r ∧ ∃ K, ∀ k, K ≤ k → F k s i = some r) ∨ (∃ s', step s i = .inr s' ∧ Inv s' (i + 1) ∧ ∃ K, ∀ k, K ≤ k → F (k + 1) s i = F k s' (i + 1))) :
    ∀ (d : Nat) (s : S) (i : Int), 0 ≤ i → i + d = n → Inv s i → Ev (fun k => F k s i) (forM step out d s i) := by
  intro d
  induction d with
  | zero =>
    intro s i h0 h1 hI
    obtain rfl : i = n := by omega
    exact hend s hI
  | succ d ih =>
    intro s i h0 h1 hI
    rcases hstep s i h0 (by omega) hI with ⟨r, hr, hK⟩ | ⟨s', hs, hI', K, hK⟩
    · simp only [forM, hr]
      exact hK
    · simp only [forM, hs]
      obtain ⟨K', h⟩ := ih s' (i + 1) (by omega) (by omega) hI'
      refine ⟨K + K' + 1, fun k hk => ?_⟩
      obtain ⟨k, rfl⟩ : ∃ m, k = m + 1 := ⟨k - 1, by omega⟩
      exact (hK k (by omega)).trans (h k (by omega))
/-- What holds at the end of a loop. -/
theorem forM_ind {S ρ : Type} {step : S → Int → ρ ⊕ S} {out : S → ρ} {n : Nat} (Inv : S → Int → Prop) (Post : ρ → Prop) (hend : ∀ s, Inv s n → Post (out s))
    (hstep : ∀ (s : S) (i : Int), 0 ≤ i → i < n → Inv s i → (∀ r, step s i = .inl r → Post r) ∧ ∀ s', step s i = .inr s' → Inv s' (i + 1)) : ∀ (d : Nat) (s : S) (i : Int), 0 ≤ i → i + d = n → Inv s i → Post (forM step out d s i) := by
  intro d
  induction d with
  | zero =>
    intro s i h0 h1 hI
    obtain rfl : i = n := by omega
    exact hend s hI
  | succ d ih =>
    intro s i h0 h1 hI
    obtain ⟨h2, h3⟩ := hstep s i h0 (by omega) hI
    simp only [forM]
    cases hs : step s i with
    | inl r => exact h2 r hs
    | inr s' => exact ih s' (i + 1) (by omega) (by omega) (h3 s' hs)

theorem impl_squareOf_eq {d : S51} (hd : OkDepot d) {x y : Int} (hx : 0 ≤ x ∧ x ≤ 100000) (hy : 0 ≤ y ∧ y ≤ 100000) (g : Int) : impl_squareOf.f d.f0 d.f1 g x y = some (sqM d x y) := by
  unfold impl_squareOf.f; rw [squareW hd.x hd.y hx hy]; rfl
theorem spec_square_eq {d : S51} (hd : OkDepot d) {x y : Int} (hx : 0 ≤ x ∧ x ≤ 100000) (hy : 0 ≤ y ∧ y ≤ 100000) (g : Int) : spec_l27Square.f d.f0 d.f1 g x y = some (sqM d x y) := by
  unfold spec_l27Square.f; rw [squareW hd.x hd.y hx hy]; rfl

theorem spec_l27Near_ev (xs : List S51) (hn : xs.length ≤ 9000000000000000000) (x y d : Int) : Ev (fun k => spec_l27Near.f k xs x y d) (if AreDepotsM xs then (if (0 ≤ x ∧ x ≤ 100000) ∧ 0 ≤ y ∧ y ≤ 100000 then (if 0 ≤ d ∧ d ≤ 100000 then 0 else 2) else 2) else 1) := by
  unfold spec_l27Near.f
  refine Ev.bind (spec_AreDepots_ev xs hn) ?_
  simp only [l15Place_eq, l01In_eq, Option.bind_some, decide_eq_true_eq]
  by_cases h1 : AreDepotsM xs <;> by_cases h2 : (0 ≤ x ∧ x ≤ 100000) ∧ 0 ≤ y ∧ y ≤ 100000 <;> by_cases h3 : 0 ≤ d ∧ d ≤ 100000 <;> simp only [h1, h2, h3, if_true, if_false] <;> exact Ev.now _

def nearStep (xs : List S51) (x y d : Int) (s i : Int) : (Int × Int) ⊕ Int := .inr (if sqM (rd_T51 xs i) x y ≤ d * d then s + (rd_T51 xs i).f2 else s)
def gramsNearM (xs : List S51) (x y d : Int) : Int × Int :=
  if AreDepotsM xs then (if (0 ≤ x ∧ x ≤ 100000) ∧ 0 ≤ y ∧ y ≤ 100000 then (if 0 ≤ d ∧ d ≤ 100000 then forM (nearStep xs x y d) (fun s => (s, 0)) xs.length 0 0 else (0, 2)) else (0, 2)) else (0, 1)
theorem distW {d : Int} (h : 0 ≤ d ∧ d ≤ 100000) : wrap64 (d * d) = d * d := by
  have := sq_le h.1 h.2
  exact w64 (by omega) (by omega)
theorem spec_near_loop {xs : List S51} (hx : AreDepotsM xs) {x y d : Int} (hp : (0 ≤ x ∧ x ≤ 100000) ∧ 0 ≤ y ∧ y ≤ 100000) (hd : 0 ≤ d ∧ d ≤ 100000) : Ev (fun k => spec_GramsNear.l0 k xs x y d 0 0) (forM (nearStep xs x y d) (fun s => (s, 0)) xs.length 0 0) := by
  have hl := hx.2
  refine Ev_for (F := fun k s i => spec_GramsNear.l0 k xs x y d s i) (n := xs.length) (fun s i => 0 ≤ s ∧ s ≤ 100000000 * i) (fun s _ => ⟨1, fun k hk => ?_⟩) (fun s i h0 h1 hI => .inr ⟨_, rfl, ?_, 0, fun k _ => ?_⟩) xs.length 0 0 (by omega) (by omega) (by omega)
  · obtain ⟨k, rfl⟩ : ∃ m, k = m + 1 := ⟨k - 1, by omega⟩
    simp only [spec_GramsNear.l0]
    rw [if_neg (by omega)]
  · have := (ok_at hx h0 h1).g
    split <;> omega
  · have hg := (ok_at hx h0 h1).g
    simp only [spec_GramsNear.l0]
    rw [if_pos h1, if_pos h0, spec_square_eq (ok_at hx h0 h1) hp.1 hp.2, distW hd, w64 (x := i + 1) (by omega) (by omega), w64 (x := s + _) (by omega) (by omega)]
    simp only [Option.bind_some]
    split <;> rfl
theorem impl_near_loop {xs : List S51} (hx : AreDepotsM xs) {x y d : Int} (hp : (0 ≤ x ∧ x ≤ 100000) ∧ 0 ≤ y ∧ y ≤ 100000) (hd : 0 ≤ d ∧ d ≤ 100000) : Ev (fun k => impl_GramsNear.l0 k x y d 0 xs (xs.length : Int) 0) (forM (nearStep xs x y d) (fun s => (s, 0)) xs.length 0 0) := by
  have hl := hx.2
  refine Ev_for (F := fun k s i => impl_GramsNear.l0 k x y d s xs (xs.length : Int) i) (n := xs.length) (fun s i => 0 ≤ s ∧ s ≤ 100000000 * i) (fun s _ => ⟨1, fun k hk => ?_⟩) (fun s i h0 h1 hI => .inr ⟨_, rfl, ?_, 0, fun k _ => ?_⟩) xs.length 0 0 (by omega) (by omega) (by omega)
  · obtain ⟨k, rfl⟩ : ∃ m, k = m + 1 := ⟨k - 1, by omega⟩
    simp only [impl_GramsNear.l0]
    rw [if_neg (by omega)]
  · have := (ok_at hx h0 h1).g
    split <;> omega
  · have hg := (ok_at hx h0 h1).g
    simp only [impl_GramsNear.l0]
    rw [if_pos h1, if_pos h0, if_pos h1, impl_squareOf_eq (ok_at hx h0 h1) hp.1 hp.2, distW hd, w64 (x := i + 1) (by omega) (by omega), w64 (x := s + _) (by omega) (by omega)]
    simp only [Option.bind_some]
    split <;> rfl
theorem spec_GramsNear_ev (xs : List S51) (hn : xs.length ≤ 9000000000000000000) (x y d : Int) : Ev (fun k => spec_GramsNear.f k xs x y d) (gramsNearM xs x y d) := by
  unfold spec_GramsNear.f gramsNearM
  refine Ev.bind (spec_l27Near_ev xs hn x y d) ?_
  by_cases h1 : AreDepotsM xs
  · by_cases h2 : (0 ≤ x ∧ x ≤ 100000) ∧ 0 ≤ y ∧ y ≤ 100000
    · by_cases h3 : 0 ≤ d ∧ d ≤ 100000
      · simp only [if_pos h1, if_pos h2, if_pos h3, if_true]
        exact spec_near_loop h1 h2 h3
      · simp only [if_pos h1, if_pos h2, if_neg h3]
        exact Ev.now _
    · simp only [if_pos h1, if_neg h2]
      exact Ev.now _
  · simp only [if_neg h1]
    exact Ev.now _
theorem impl_GramsNear_ev (xs : List S51) (x y d : Int) : Ev (fun k => impl_GramsNear.f k xs x y d) (gramsNearM xs x y d) := by
  unfold impl_GramsNear.f gramsNearM
  refine Ev.bind (impl_AreDepots_ev xs) ?_
  simp only [isPlace_eq, within_eq, Option.bind_some, decide_eq_true_eq]
  refine Ev_ite (fun h1 => ?_) (fun h1 => by rw [if_neg h1]; exact Ev.now _)
  rw [if_pos h1]
  refine Ev_ite (fun h2 => ?_) (fun h2 => ?_)
  · rw [if_pos h2]
    by_cases h3 : 0 ≤ d ∧ d ≤ 100000
    · rw [if_pos h3]
      refine Ev.step (f := fun k => impl_GramsNear.l0 k x y d 0 xs (xs.length : Int) 0) (fun k => ?_) (impl_near_loop h1 h2 h3)
      simp [impl_GramsNear.j0, h3]
    · rw [if_neg h3]
      refine Ev.step (f := fun _ => some (0, 2)) (fun k => ?_) (Ev.now _)
      simp [impl_GramsNear.j0, h3]
  · rw [if_neg h2]
    refine Ev.step (f := fun _ => some (0, 2)) (fun k => ?_) (Ev.now _)
    simp [impl_GramsNear.j0]

def nearestStep (xs : List S51) (x y : Int) (b i : Int) : (Int × Int) ⊕ Int := .inr (if b < 0 then i else if sqM (rd_T51 xs i) x y < sqM (rd_T51 xs b) x y then i else b)
def nearestOut (b : Int) : Int × Int := if b < 0 then (0, 4) else (b, 0)
def nearestM (xs : List S51) (x y : Int) : Int × Int :=
  if AreDepotsM xs then (if (0 ≤ x ∧ x ≤ 100000) ∧ 0 ≤ y ∧ y ≤ 100000 then forM (nearestStep xs x y) nearestOut xs.length (-1) 0 else (0, 2)) else (0, 1)
theorem spec_nearest_loop {xs : List S51} (hx : AreDepotsM xs) {x y : Int} (hp : (0 ≤ x ∧ x ≤ 100000) ∧ 0 ≤ y ∧ y ≤ 100000) (hn : 0 < xs.length) : Ev (fun k => spec_NearestDepot.l0 k xs x y 0 0) (forM (nearestStep xs x y) nearestOut xs.length 0 0) := by
  have hl := hx.2
  refine Ev_for (F := fun k s i => spec_NearestDepot.l0 k xs x y s i) (n := xs.length) (fun s i => 0 ≤ s ∧ s < xs.length) (fun s hI => ⟨1, fun k hk => ?_⟩) (fun s i h0 h1 hI => .inr ⟨_, rfl, ?_, 0, fun k _ => ?_⟩) xs.length 0 0 (by omega) (by omega) (by omega)
  · obtain ⟨k, rfl⟩ : ∃ m, k = m + 1 := ⟨k - 1, by omega⟩
    simp only [spec_NearestDepot.l0, nearestOut]
    rw [if_neg (by omega), if_neg (by omega)]
  · split
    · omega
    · split <;> omega
  · simp only [spec_NearestDepot.l0]
    rw [if_pos h1, if_pos h0, spec_square_eq (ok_at hx h0 h1) hp.1 hp.2, w64 (x := i + 1) (by omega) (by omega)]
    simp only [Option.bind_some]
    rw [if_pos hI.1, if_pos hI.2, spec_square_eq (ok_at hx hI.1 hI.2) hp.1 hp.2, if_neg (by omega)]
    simp only [Option.bind_some]
    split <;> rfl
theorem impl_nearest_loop {xs : List S51} (hx : AreDepotsM xs) {x y : Int} (hp : (0 ≤ x ∧ x ≤ 100000) ∧ 0 ≤ y ∧ y ≤ 100000) : Ev (fun k => impl_NearestDepot.l0 k xs x y (-1) xs (xs.length : Int) 0) (forM (nearestStep xs x y) nearestOut xs.length (-1) 0) := by
  have hl := hx.2
  refine Ev_for (F := fun k s i => impl_NearestDepot.l0 k xs x y s xs (xs.length : Int) i) (n := xs.length) (fun s i => s < xs.length) (fun s hI => ⟨1, fun k hk => ?_⟩) (fun s i h0 h1 hI => .inr ⟨_, rfl, ?_, 0, fun k _ => ?_⟩) xs.length (-1) 0 (by omega) (by omega) (by omega)
  · obtain ⟨k, rfl⟩ : ∃ m, k = m + 1 := ⟨k - 1, by omega⟩
    simp only [impl_NearestDepot.l0, nearestOut]
    rw [if_neg (by omega)]
    split <;> rfl
  · split
    · omega
    · split <;> omega
  · simp only [impl_NearestDepot.l0]
    rw [if_pos h1, if_pos h0, if_pos h1, w64 (x := i + 1) (by omega) (by omega)]
    by_cases hs : s < 0
    · rw [if_pos hs, if_pos hs]
    · rw [if_neg hs, if_neg hs, impl_squareOf_eq (ok_at hx h0 h1) hp.1 hp.2]
      simp only [Option.bind_some]
      rw [if_pos (by omega), if_pos hI, impl_squareOf_eq (ok_at hx (by omega) hI) hp.1 hp.2]
      simp only [Option.bind_some]
      split <;> rfl
theorem nearest_start {xs : List S51} {x y : Int} (hn : 0 < xs.length) : forM (nearestStep xs x y) nearestOut xs.length (-1) 0 = forM (nearestStep xs x y) nearestOut xs.length 0 0 := by
  obtain ⟨n, hn'⟩ : ∃ n, xs.length = n + 1 := ⟨xs.length - 1, by omega⟩
  rw [hn']
  simp only [forM, nearestStep]
  rw [if_pos (by omega), if_neg (by omega), if_neg (by omega)]
theorem impl_NearestDepot_ev (xs : List S51) (x y : Int) : Ev (fun k => impl_NearestDepot.f k xs x y) (nearestM xs x y) := by
  unfold impl_NearestDepot.f nearestM
  refine Ev.bind (impl_AreDepots_ev xs) ?_
  simp only [isPlace_eq, Option.bind_some, decide_eq_true_eq]
  refine Ev_ite (fun h1 => ?_) (fun h1 => by rw [if_neg h1]; exact Ev.now _)
  rw [if_pos h1]
  refine Ev_ite (fun h2 => ?_) (fun h2 => by rw [if_neg h2]; exact Ev.now _)
  rw [if_pos h2]
  exact impl_nearest_loop h1 h2
theorem spec_NearestDepot_ev (xs : List S51) (hn : xs.length ≤ 9000000000000000000) (x y : Int) : Ev (fun k => spec_NearestDepot.f k xs x y) (nearestM xs x y) := by
  unfold spec_NearestDepot.f nearestM
  refine Ev.bind (spec_l27Near_ev xs hn x y 0) ?_
  by_cases h1 : AreDepotsM xs
  · by_cases h2 : (0 ≤ x ∧ x ≤ 100000) ∧ 0 ≤ y ∧ y ≤ 100000
    · simp only [if_pos h1, if_pos h2, if_pos (show (0 : Int) ≤ 0 ∧ (0 : Int) ≤ 100000 by omega), if_true]
      by_cases h3 : xs.length = 0
      · refine Ev.step (f := fun k => spec_NearestDepot.j1 k xs x y 4) (fun k => by simp [spec_NearestDepot.j0, h3]) (Ev.step (f := fun _ => some (0, 4)) (fun k => by simp [spec_NearestDepot.j1]) (Ev_some ?_))
        rw [h3]
        simp [forM, nearestOut]
      · have hb : ((xs.length : Int) == 0) = false := by simpa using h3
        refine Ev.step (f := fun k => spec_NearestDepot.j1 k xs x y 0) (fun k => by simp [spec_NearestDepot.j0, hb]) (Ev.step (f := fun k => spec_NearestDepot.l0 k xs x y 0 0) (fun k => by simp [spec_NearestDepot.j1]) ?_)
        rw [nearest_start (by omega)]
        exact spec_nearest_loop h1 h2 (by omega)
    · simp only [if_pos h1, if_neg h2]
      exact Ev_neg (by decide) (Ev.step (f := fun k => spec_NearestDepot.j1 k xs x y 2) (fun k => by simp [spec_NearestDepot.j0]) (Ev.step (f := fun _ => some (0, 2)) (fun k => by simp [spec_NearestDepot.j1]) (Ev.now _)))
  · simp only [if_neg h1]
    exact Ev_neg (by decide) (Ev.step (f := fun k => spec_NearestDepot.j1 k xs x y 1) (fun k => by simp [spec_NearestDepot.j0]) (Ev.step (f := fun _ => some (0, 1)) (fun k => by simp [spec_NearestDepot.j1]) (Ev.now _)))

theorem near_mono {xs : List S51} (hx : AreDepotsM xs) (x y : Int) {d e : Int} (h0 : 0 ≤ d) (hde : d ≤ e) : ∀ (m : Nat) (s t i : Int), s ≤ t → 0 ≤ i → i + m = xs.length → (forM (nearStep xs x y d) (fun s => (s, (0 : Int))) m s i).1 ≤ (forM (nearStep xs x y e) (fun s => (s, (0 : Int))) m t i).1 := by
  have hs := (sq_le h0 hde).2
  intro m
  induction m with
  | zero => intro s t i h _ _; exact h
  | succ m ih =>
    intro s t i h h1 h2
    have hg := (ok_at hx h1 (show i < xs.length by omega)).g
    simp only [forM, nearStep]
    refine ih _ _ (i + 1) ?_ (by omega) (by omega)
    split <;> split <;> omega
theorem near_code0 {xs : List S51} {x y d : Int} (h : (gramsNearM xs x y d).2 = 0) : AreDepotsM xs ∧ ((0 ≤ x ∧ x ≤ 100000) ∧ 0 ≤ y ∧ y ≤ 100000) ∧ 0 ≤ d ∧ d ≤ 100000 := by
  unfold gramsNearM at h
  by_cases h1 : AreDepotsM xs
  · by_cases h2 : (0 ≤ x ∧ x ≤ 100000) ∧ 0 ≤ y ∧ y ≤ 100000
    · by_cases h3 : 0 ≤ d ∧ d ≤ 100000
      · exact ⟨h1, h2, h3⟩
      · rw [if_pos h1, if_pos h2, if_neg h3] at h; exact absurd h (by decide)
    · rw [if_pos h1, if_neg h2] at h; exact absurd h (by decide)
  · rw [if_neg h1] at h; exact absurd h (by decide)
theorem near_snd {xs : List S51} {x y d : Int} (m : Nat) : ∀ s i : Int, (forM (nearStep xs x y d) (fun s => (s, (0 : Int))) m s i).2 = 0 := by
  induction m with
  | zero => intro s i; rfl
  | succ m ih => intro s i; simp only [forM, nearStep]; exact ih _ _
theorem gramsNearM_ok {xs : List S51} {x y d : Int} (h : AreDepotsM xs ∧ ((0 ≤ x ∧ x ≤ 100000) ∧ 0 ≤ y ∧ y ≤ 100000) ∧ 0 ≤ d ∧ d ≤ 100000) : gramsNearM xs x y d = forM (nearStep xs x y d) (fun s => (s, (0 : Int))) xs.length 0 0 := by
  unfold gramsNearM
  rw [if_pos h.1, if_pos h.2.1, if_pos h.2.2]
def Nearest (xs : List S51) (x y b : Int) : Prop := 0 ≤ b ∧ b < xs.length ∧ ∀ j : Int, 0 ≤ j → j < xs.length → sqM (rd_T51 xs b) x y ≤ sqM (rd_T51 xs j) x y ∧ (sqM (rd_T51 xs j) x y = sqM (rd_T51 xs b) x y → b ≤ j)
theorem nearest_code0 {xs : List S51} {x y : Int} (h : (nearestM xs x y).2 = 0) : AreDepotsM xs ∧ ((0 ≤ x ∧ x ≤ 100000) ∧ 0 ≤ y ∧ y ≤ 100000) ∧ Nearest xs x y (nearestM xs x y).1 := by
  unfold nearestM at h ⊢
  by_cases h1 : AreDepotsM xs
  · by_cases h2 : (0 ≤ x ∧ x ≤ 100000) ∧ 0 ≤ y ∧ y ≤ 100000
    · rw [if_pos h1, if_pos h2] at h ⊢
      refine ⟨h1, h2, ?_⟩
      have key := forM_ind (step := nearestStep xs x y) (out := nearestOut) (n := xs.length) (fun b i => (b < 0 ∧ i = 0) ∨ (0 ≤ b ∧ b < i ∧ ∀ j : Int, 0 ≤ j → j < i → sqM (rd_T51 xs b) x y ≤ sqM (rd_T51 xs j) x y ∧ (sqM (rd_T51 xs j) x y = sqM (rd_T51 xs b) x y → b ≤ j)))
        (fun r => r.2 = 0 → Nearest xs x y r.1)
        (fun b hI hr => by
          unfold nearestOut at hr ⊢
          rcases hI with ⟨hb, _⟩ | hI
          · rw [if_pos hb] at hr; exact absurd hr (by decide)
          · rw [if_neg (by omega)]
            exact hI)
        (fun b i h0 hi hI => ⟨fun r hr => (by cases hr), fun b' hb' => by
          injection hb' with hb'
          rcases hI with ⟨hb, hi0⟩ | ⟨hb0, hbi, hall⟩
          · rw [if_pos hb] at hb'
            subst hb'
            exact .inr ⟨h0, by omega, fun j hj0 hji => by
              obtain rfl : j = i := by omega
              exact ⟨Int.le_refl _, fun _ => Int.le_refl _⟩⟩
          · rw [if_neg (by omega)] at hb'
            by_cases hlt : sqM (rd_T51 xs i) x y < sqM (rd_T51 xs b) x y
            · rw [if_pos hlt] at hb'
              subst hb'
              refine .inr ⟨h0, by omega, fun j hj0 hji => ?_⟩
              by_cases hj : j = i
              · subst hj
                exact ⟨Int.le_refl _, fun _ => Int.le_refl _⟩
              · have := (hall j hj0 (by omega)).1
                exact ⟨by omega, fun e => by omega⟩
            · rw [if_neg hlt] at hb'
              subst hb'
              refine .inr ⟨hb0, by omega, fun j hj0 hji => ?_⟩
              by_cases hj : j = i
              · subst hj
                exact ⟨by omega, fun _ => by omega⟩
              · exact hall j hj0 (by omega)⟩) xs.length (-1) 0 (by omega) (by omega) (.inl ⟨by omega, rfl⟩)
      exact key h
    · rw [if_pos h1, if_neg h2] at h; exact absurd h (by decide)
  · rw [if_neg h1] at h; exact absurd h (by decide)

/-- The source of the draws: the code's bytes, the place in it, the seed. -/
def Rd (c : List Int) (i seed : Int) : Prop := (∀ b ∈ c, 0 ≤ b ∧ b ≤ 255) ∧ c.length ≤ 4096 ∧ 0 ≤ i ∧ i ≤ c.length ∧ 0 ≤ seed ∧ seed < 2147483647
theorem rd_byte {c : List Int} (hc : ∀ b ∈ c, 0 ≤ b ∧ b ≤ 255) (i : Int) : 0 ≤ rd c i ∧ rd c i ≤ 255 := by
  unfold rd
  by_cases h : i.toNat < c.length
  · rw [List.getD_eq_getElem?_getD, List.getElem?_eq_getElem h]
    exact hc _ (List.getElem_mem h)
  · rw [List.getD_eq_getElem?_getD, List.getElem?_eq_none (by omega)]
    simp
theorem next_tells {c : List Int} {i seed : Int} (hr : Rd c i seed) (n : Int) (hn : n ≤ 4000000000000000000) : ∃ x i' s', spec_l01Next.f c i seed n = some (x, i', s') ∧ Rd c i' s' ∧ 0 ≤ x ∧ (1 ≤ n → x < n) := by
  obtain ⟨hc, hl, h0, h1, h2, h3⟩ := hr
  have e1 : wrap64 (wrap64 (seed * 48271) + 29) = seed * 48271 + 29 := by rw [w64 (x := seed * 48271) (by omega) (by omega), w64 (by omega) (by omega)]
  have e2 : Int.tmod (seed * 48271 + 29) 2147483647 = (seed * 48271 + 29) % 2147483647 := Int.tmod_eq_emod_of_nonneg (by omega)
  obtain ⟨s1, hs1⟩ : ∃ s1, s1 = (seed * 48271 + 29) % 2147483647 := ⟨_, rfl⟩
  have b0 : 0 ≤ s1 ∧ s1 < 2147483647 := by omega
  have e3 : wrap64 (Int.tdiv s1 31) = s1 / 31 := by
    rw [Int.tdiv_eq_ediv_of_nonneg b0.1]; exact w64 (by omega) (by omega)
  unfold spec_l01Next.f
  rw [e1, e2, ← hs1, e3]
  by_cases hn1 : n ≤ 1
  · rw [if_pos hn1]
    exact ⟨0, i, seed, rfl, ⟨hc, hl, h0, h1, h2, h3⟩, by omega, by omega⟩
  · rw [if_neg hn1]
    have hm : ∀ x : Int, 0 ≤ x → 0 ≤ Int.tmod x n ∧ Int.tmod x n < n := fun x hx => by
      rw [Int.tmod_eq_emod_of_nonneg hx]
      exact ⟨Int.emod_nonneg x (by omega), Int.emod_lt_of_pos x (by omega)⟩
    by_cases hi : i < (c.length : Int)
    · have hb := rd_byte hc i
      have w1 : wrap64 (i + 1) = i + 1 := w64 (by omega) (by omega)
      have w2 : wrap64 (i + 1 - 1) = i := by rw [w64 (by omega) (by omega)]; omega
      have w3 : wrap64 (rd c i) = rd c i := w64 (by omega) (by omega)
      have w4 : wrap64 (s1 / 31 + rd c i) = s1 / 31 + rd c i := w64 (by omega) (by omega)
      rw [if_pos hi, if_pos h0, w1, w2, w3, w4]
      have r1 := hm (rd c i) hb.1
      have r2 := hm (s1 / 31 + rd c i) (by omega)
      have hR : Rd c (i + 1) s1 := ⟨hc, hl, by omega, by omega, b0.1, b0.2⟩
      by_cases h256 : n ≤ 256
      · rw [if_pos h256]
        by_cases ht : Int.tmod (i + 1) 2 = 0
        · rw [if_pos ht, if_pos h0, if_pos hi, if_neg (by omega)]
          exact ⟨_, _, _, rfl, hR, r1.1, fun _ => r1.2⟩
        · rw [if_neg ht, if_neg (by omega)]
          exact ⟨_, _, _, rfl, hR, r2.1, fun _ => r2.2⟩
      · rw [if_neg h256, if_neg (by omega)]
        exact ⟨_, _, _, rfl, hR, r2.1, fun _ => r2.2⟩
    · have r3 := hm (s1 / 31) (by omega)
      rw [if_neg hi, if_neg (by omega)]
      exact ⟨_, _, _, rfl, ⟨hc, hl, h0, h1, b0.1, b0.2⟩, r3.1, fun _ => r3.2⟩
theorem from_tells (c : List Int) (hc : ∀ b ∈ c, 0 ≤ b ∧ b ≤ 255) (hl : c.length ≤ 4096) : ∃ seed, Ev (fun k => spec_l01From.f k c) (c, 0, seed) ∧ Rd c 0 seed := by
  have h := Ev_for (F := fun k s i => spec_l01From.l0 k c i c 0 s) (step := fun s i => if i < 64 then .inr ((s * 83 + rd c i) % 2147483647) else .inl (c, 0, s)) (out := fun s => (c, 0, s)) (n := c.length) (fun s i => 0 ≤ s ∧ s < 2147483647)
    (fun s hI => ⟨1, fun k hk => by
      obtain ⟨k, rfl⟩ : ∃ m, k = m + 1 := ⟨k - 1, by omega⟩
      simp only [spec_l01From.l0]
      rw [if_neg (by omega)]⟩)
    (fun s i h0 h1 hI => by
      have hb := rd_byte hc i
      by_cases h64 : i < 64
      · refine .inr ⟨_, if_pos h64, by omega, 0, fun k _ => ?_⟩
        simp only [spec_l01From.l0]
        rw [if_pos h1, if_pos h64, if_pos h0, w64 (x := i + 1) (by omega) (by omega), w64 (x := s * 83) (by omega) (by omega), w64 (x := rd c i) (by omega) (by omega), w64 (by omega) (by omega), Int.tmod_eq_emod_of_nonneg (by omega)]
      · refine .inl ⟨_, if_neg h64, 1, fun k hk => ?_⟩
        obtain ⟨k, rfl⟩ : ∃ m, k = m + 1 := ⟨k - 1, by omega⟩
        simp only [spec_l01From.l0]
        rw [if_pos h1, if_neg h64]) c.length 61043 0 (by omega) (by omega) (by omega)
  have h2 := forM_ind (step := fun s i => if i < 64 then .inr ((s * 83 + rd c i) % 2147483647) else .inl (c, 0, s)) (out := fun s => (c, (0 : Int), s)) (n := c.length) (fun s _ => 0 ≤ s ∧ s < 2147483647) (fun r => ∃ s, r = (c, (0 : Int), s) ∧ 0 ≤ s ∧ s < 2147483647) (fun s hI => ⟨s, rfl, hI⟩)
    (fun s i h0 h1 hI => ⟨fun r hr => by
        split at hr
        · cases hr
        · injection hr with hr
          exact ⟨s, hr.symm, hI⟩, fun s' hr => by
        split at hr
        · injection hr with hr
          omega
        · cases hr⟩) c.length 61043 0 (by omega) (by omega) (by omega)
  obtain ⟨s, hs, hb⟩ := h2
  refine ⟨s, ?_, hc, hl, by omega, by omega, hb.1, hb.2⟩
  rw [hs] at h
  exact h
/-- What a statement over a code knows of its bytes. -/
theorem bytes_of {c : List Int} (h : ∀ x ∈ c, (Lit.int .u8 x).wf = true) : ∀ b ∈ c, 0 ≤ b ∧ b ≤ 255 := fun b hb => by
  have h := h b hb
  simp [Lit.wf, IntKind.min, IntKind.max, IntKind.bits, IntKind.signed] at h
  omega
theorem big_eq (c : List Int) : laws_big.f c = some (decide (c.length > 4096)) := by
  unfold laws_big.f
  congr 1
  rw [decide_eq_decide]
  omega

theorem pick_tells {c : List Int} {i seed : Int} (hr : Rd c i seed) (l : List Int) (h0 : 0 < l.length) (hl : l.length ≤ 1000) : ∃ x i' s', spec_l01Pick.f c i seed l = some (x, i', s') ∧ Rd c i' s' ∧ x ∈ l := by
  obtain ⟨x, i', s', h1, h2, h3, h4⟩ := next_tells hr (l.length : Int) (by omega)
  have h4 := h4 (by omega)
  unfold spec_l01Pick.f
  rw [h1]
  simp only [Option.bind_some]
  rw [if_pos h3, if_pos h4]
  refine ⟨_, _, _, rfl, h2, ?_⟩
  unfold rd
  rw [List.getD_eq_getElem?_getD, List.getElem?_eq_getElem (show x.toNat < l.length by omega)]
  exact List.getElem_mem _

theorem good27_tells {c : List Int} {i seed : Int} (hr : Rd c i seed) : ∃ x y g i' s', spec_l27Good.f c i seed = some (x, y, g, i', s') ∧ Rd c i' s' := by
  obtain ⟨x1, i1, s1, e1, r1, _⟩ := next_tells hr 3000 (by omega)
  obtain ⟨x2, i2, s2, e2, r2, _⟩ := next_tells r1 3000 (by omega)
  obtain ⟨x3, i3, s3, e3, r3, _⟩ := next_tells r2 100000 (by omega)
  obtain ⟨x4, i4, s4, e4, r4, _⟩ := next_tells r3 2000 (by omega)
  obtain ⟨x5, i5, s5, e5, r5, _⟩ := next_tells r4 1000000 (by omega)
  obtain ⟨x6, i6, s6, e6, r6, _⟩ := pick_tells r5 [x3, x4, 0, x5] (by simp) (by simp)
  refine ⟨x1, x2, x6, i6, s6, ?_, r6⟩
  unfold spec_l27Good.f
  simp only [e1, e2, e3, e4, e5, e6, Option.bind_some]
theorem draw27_l1 (c : List Int) (d : Nat) : ∀ (xs : List S51) (i seed : Int), Rd c i seed → 9 - xs.length ≤ d → xs.length ≤ 20 → ∃ ys i' s', Ev (fun k => spec_l27Draw.l1 k xs c i seed) (ys, i', s') ∧ Rd c i' s' ∧ ys.length ≤ 20 := by
  induction d with
  | zero =>
    intro xs i seed hr hd hn
    obtain ⟨x1, i1, s1, e1, r1, h1, h2⟩ := next_tells hr 2 (by omega)
    refine ⟨xs, i1, s1, Ev.step (f := fun _ => some (xs, i1, s1)) (fun k => ?_) (Ev.now _), r1, hn⟩
    simp only [spec_l27Draw.l1, e1, Option.bind_some]
    rw [w64 (by omega) (by omega), if_neg (by omega)]
  | succ d ih =>
    intro xs i seed hr hd hn
    obtain ⟨x1, i1, s1, e1, r1, h1, h2⟩ := next_tells hr 2 (by omega)
    by_cases hlt : (xs.length : Int) < 8 + x1
    · obtain ⟨x, y, g, i2, s2, e2, r2⟩ := good27_tells r1
      obtain ⟨ys, i3, s3, h3, r3, hl⟩ := ih (xs ++ [⟨x, y, g⟩]) i2 s2 r2 (by simp; omega) (by simp; omega)
      refine ⟨ys, i3, s3, Ev.step (fun k => ?_) h3, r3, hl⟩
      simp only [spec_l27Draw.l1, e1, e2, Option.bind_some]
      rw [w64 (by omega) (by omega), if_pos hlt, if_pos (by omega)]
    · refine ⟨xs, i1, s1, Ev.step (f := fun _ => some (xs, i1, s1)) (fun k => ?_) (Ev.now _), r1, hn⟩
      simp only [spec_l27Draw.l1, e1, Option.bind_some]
      rw [w64 (by omega) (by omega), if_neg hlt]
theorem draw27_l0 (c : List Int) (d : Nat) : ∀ (xs : List S51) (n i seed : Int), Rd c i seed → n ≤ d → d ≤ 10 → xs.length + d ≤ 10 → ∃ ys i' s', Ev (fun k => spec_l27Draw.l0 k xs n c i seed) (ys, i', s') ∧ Rd c i' s' ∧ ys.length ≤ 20 := by
  induction d with
  | zero =>
    intro xs n i seed hr hn hd hx
    obtain ⟨x1, i1, s1, e1, r1, h1, h2⟩ := next_tells hr 30 (by omega)
    by_cases h0 : x1 = 0
    · obtain ⟨x2, i2, s2, e2, r2, _⟩ := pick_tells r1 [-1, 100000, 100001] (by simp) (by simp)
      obtain ⟨x3, i3, s3, e3, r3, _⟩ := pick_tells r2 [100000000, 100000001, -1] (by simp) (by simp)
      refine ⟨xs ++ [⟨x2, 0, x3⟩], i3, s3, Ev.step (f := fun _ => some (xs ++ [⟨x2, 0, x3⟩], i3, s3)) (fun k => ?_) (Ev.now _), r3, by simp; omega⟩
      simp only [spec_l27Draw.l0, e1, e2, e3, Option.bind_some]
      rw [if_neg (by omega), if_pos h0, if_pos (by omega)]
    · by_cases h1' : x1 = 1
      · obtain ⟨ys, i3, s3, h3, r3, hl⟩ := draw27_l1 c 9 xs i1 s1 r1 (by omega) (by omega)
        refine ⟨ys, i3, s3, Ev.step (fun k => ?_) h3, r3, hl⟩
        simp only [spec_l27Draw.l0, e1, Option.bind_some]
        rw [if_neg (by omega), if_neg h0, if_pos h1']
      · refine ⟨xs, i1, s1, Ev.step (f := fun _ => some (xs, i1, s1)) (fun k => ?_) (Ev.now _), r1, by omega⟩
        simp only [spec_l27Draw.l0, e1, Option.bind_some]
        rw [if_neg (by omega), if_neg h0, if_neg h1']
  | succ d ih =>
    intro xs n i seed hr hn hd hx
    by_cases hp : n > 0
    · obtain ⟨x, y, g, i2, s2, e2, r2⟩ := good27_tells hr
      obtain ⟨ys, i3, s3, h3, r3, hl⟩ := ih (xs ++ [⟨x, y, g⟩]) (n - 1) i2 s2 r2 (by omega) (by omega) (by simp; omega)
      refine ⟨ys, i3, s3, Ev.step (fun k => ?_) h3, r3, hl⟩
      simp only [spec_l27Draw.l0, e2, Option.bind_some]
      rw [if_pos hp, if_pos (by omega), w64 (by omega) (by omega)]
    · exact ih xs n i seed hr (by omega) (by omega) (by omega)
theorem draw27_tells {c : List Int} {i seed : Int} (hr : Rd c i seed) : ∃ ys i' s', Ev (fun k => spec_l27Draw.f k c i seed) (ys, i', s') ∧ Rd c i' s' ∧ ys.length ≤ 20 := by
  obtain ⟨x1, i1, s1, e1, r1, h1, h2⟩ := next_tells hr 6 (by omega)
  obtain ⟨ys, i3, s3, h3, r3, hl⟩ := draw27_l0 c 6 [] x1 i1 s1 r1 (by omega) (by omega) (by simp)
  refine ⟨ys, i3, s3, ?_, r3, hl⟩
  unfold spec_l27Draw.f
  simp only [e1, Option.bind_some]
  exact h3

theorem at15_tells {c : List Int} {i seed : Int} (hr : Rd c i seed) : ∃ x y i' s', spec_l15At.f c i seed = some (x, y, i', s') ∧ Rd c i' s' := by
  obtain ⟨x1, i1, s1, e1, r1, h1, h2⟩ := next_tells hr 24 (by omega)
  by_cases h0 : x1 = 0
  · obtain ⟨x2, i2, s2, e2, r2, _⟩ := pick_tells r1 [-1, 0, 100000, 100001] (by simp) (by simp)
    obtain ⟨x3, i3, s3, e3, r3, _⟩ := next_tells r2 2000 (by omega)
    refine ⟨x2, x3, i3, s3, ?_, r3⟩
    unfold spec_l15At.f
    simp only [e1, e2, e3, Option.bind_some, if_pos h0]
  · obtain ⟨x2, i2, s2, e2, r2, _⟩ := next_tells r1 2400 (by omega)
    obtain ⟨x3, i3, s3, e3, r3, _⟩ := next_tells r2 2400 (by omega)
    refine ⟨x2, x3, i3, s3, ?_, r3⟩
    unfold spec_l15At.f
    simp only [e1, e2, e3, Option.bind_some, if_neg h0]

theorem drawGramsNear_tells (c : List Int) (hc : ∀ b ∈ c, 0 ≤ b ∧ b ≤ 255) (hl : c.length ≤ 4096) : ∃ xs x y d, Ev (fun k => spec_DrawGramsNear.f k c) (xs, x, y, d) ∧ xs.length ≤ 20 := by
  obtain ⟨s0, h0, r0⟩ := from_tells c hc hl
  obtain ⟨xs, i1, s1, h1, r1, hx⟩ := draw27_tells r0
  obtain ⟨x, y, i2, s2, e2, r2⟩ := at15_tells r1
  obtain ⟨x3, i3, s3, e3, r3, _⟩ := next_tells r2 2000 (by omega)
  obtain ⟨x4, i4, s4, e4, r4, _⟩ := next_tells r3 4000 (by omega)
  obtain ⟨x5, i5, s5, e5, r5, _⟩ := pick_tells r4 [x3, x4, 0, 100000, 100001] (by simp) (by simp)
  refine ⟨xs, x, y, x5, ?_, hx⟩
  unfold spec_DrawGramsNear.f
  refine Ev.bind h0 (Ev.bind h1 ?_)
  simp only [e2, e3, e4, e5, Option.bind_some]
  exact Ev.now _
theorem drawNearest_tells (c : List Int) (hc : ∀ b ∈ c, 0 ≤ b ∧ b ≤ 255) (hl : c.length ≤ 4096) : ∃ xs x y, Ev (fun k => spec_DrawNearestDepot.f k c) (xs, x, y) ∧ xs.length ≤ 20 := by
  obtain ⟨s0, h0, r0⟩ := from_tells c hc hl
  obtain ⟨xs, i1, s1, h1, r1, hx⟩ := draw27_tells r0
  obtain ⟨x, y, i2, s2, e2, r2⟩ := at15_tells r1
  refine ⟨xs, x, y, ?_, hx⟩
  unfold spec_DrawNearestDepot.f
  refine Ev.bind h0 (Ev.bind h1 ?_)
  simp only [e2, Option.bind_some]
  exact Ev.now _

theorem wrapU64 (n : Int) : IntKind.u64.wrap n = n % 18446744073709551616 := by simp [IntKind.wrap, IntKind.bits, IntKind.signed]
theorem and_low (h : Int) : 0 ≤ Go.bits .and .u64 (IntKind.u64.wrap h / 8589934592) 16777215 ∧ Go.bits .and .u64 (IntKind.u64.wrap h / 8589934592) 16777215 ≤ 16777215 := by
  rw [wrapU64]
  have := Go.bits_mask .u64 64 (by decide) (fun n h0 h1 => by rw [wrapU64]; omega) 24 (by decide) (h % 18446744073709551616 / 8589934592) (by omega) (by omega)
  rw [show ((2 : Int) ^ 24 - 1) = 16777215 by decide] at this
  rw [this]
  omega
/-- The dice: the code's bytes, the place, the sum. -/
def Dice (c : List Int) (i h : Int) : Prop := (∀ b ∈ c, 0 ≤ b ∧ b ≤ 255) ∧ c.length ≤ 4096 ∧ 0 ≤ i ∧ i ≤ c.length
theorem roll_tells (c : List Int) (hc : ∀ b ∈ c, 0 ≤ b ∧ b ≤ 255) (hl : c.length ≤ 4096) (s0 : Int) : ∃ h, Ev (fun k => laws_roll.f k c s0) (c, 0, h) := by
  have h := Ev_for (F := fun k s i => laws_roll.l0 k c i c 0 s) (step := fun s i => .inr (IntKind.u64.wrap ((IntKind.u64.wrap ((IntKind.u64.wrap (s * 1099511628211)) + (IntKind.u64.wrap (rd c i)))) + 3))) (out := fun s => (c, 0, s)) (n := c.length) (fun s i => True)
    (fun s hI => ⟨1, fun k hk => by
      obtain ⟨k, rfl⟩ : ∃ m, k = m + 1 := ⟨k - 1, by omega⟩
      simp only [laws_roll.l0]
      rw [if_neg (by omega)]⟩)
    (fun s i h0 h1 hI => by
      refine .inr ⟨_, rfl, trivial, 0, fun k _ => ?_⟩
      simp only [laws_roll.l0]
      rw [if_pos h1, if_pos h0, w64 (x := i + 1) (by omega) (by omega)]) c.length (IntKind.u64.wrap ((IntKind.u64.wrap (s0 * 7919)) + (IntKind.u64.wrap ((c.length : Int))))) 0 (by omega) (by omega) trivial
  have h2 := forM_ind (step := fun s i => .inr (IntKind.u64.wrap ((IntKind.u64.wrap ((IntKind.u64.wrap (s * 1099511628211)) + (IntKind.u64.wrap (rd c i)))) + 3))) (out := fun s => (c, (0 : Int), s)) (n := c.length) (fun s _ => True) (fun r => ∃ s, r = (c, (0 : Int), s)) (fun s hI => ⟨s, rfl⟩)
    (fun s i h0 h1 hI => ⟨(fun r hr => by cases hr), fun _ _ => trivial⟩) c.length (IntKind.u64.wrap ((IntKind.u64.wrap (s0 * 7919)) + (IntKind.u64.wrap ((c.length : Int))))) 0 (by omega) (by omega) trivial
  obtain ⟨s, hs⟩ := h2
  refine ⟨s, ?_⟩
  rw [hs] at h
  exact h
theorem below_tells {c : List Int} {i h : Int} (hd : Dice c i h) (n : Int) (h1 : 1 ≤ n) : ∃ x i' h', laws_dice_below.f c i h n = some (x, i', h') ∧ Dice c i' h' ∧ 0 ≤ x ∧ x < n := by
  obtain ⟨hc, hl, h0, h2⟩ := hd
  obtain ⟨y, hy⟩ : ∃ y, y = Go.bits .and .u64 ((IntKind.u64.wrap ((IntKind.u64.wrap (h * 6364136223846793005)) + 1442695040888963407)) / 8589934592) 16777215 := ⟨_, rfl⟩
  have hb : 0 ≤ y ∧ y ≤ 16777215 := by rw [hy]; exact and_low _
  unfold laws_dice_below.f
  rw [← hy]
  have hm : ∀ x : Int, 0 ≤ x → 0 ≤ Int.tmod x n ∧ Int.tmod x n < n := fun x hx => by
    rw [Int.tmod_eq_emod_of_nonneg hx]
    exact ⟨Int.emod_nonneg x (by omega), Int.emod_lt_of_pos x (by omega)⟩
  rw [w64 (x := y) (by omega) (by omega)]
  by_cases hi : i < (c.length : Int)
  · have hr := rd_byte hc i
    have r2 := hm (y + rd c i) (by omega)
    rw [if_pos hi, if_pos h0, if_neg (by omega), w64 (x := rd c i) (by omega) (by omega), w64 (x := y + rd c i) (by omega) (by omega), w64 (x := i + 1) (by omega) (by omega)]
    exact ⟨_, _, _, rfl, ⟨hc, hl, by omega, by omega⟩, r2.1, r2.2⟩
  · have r3 := hm y (by omega)
    rw [if_neg hi, if_neg (by omega)]
    exact ⟨_, _, _, rfl, ⟨hc, hl, h0, h2⟩, r3.1, r3.2⟩

theorem near_j3 (c : List Int) (hc : ∀ b ∈ c, 0 ≤ b ∧ b ≤ 255) (hl : c.length ≤ 4096) (xs : List S51) (x y d : Int) (h : (gramsNearM xs x y d).2 = 0) (b : Bool) (hb : b = false → d < 100000) : Ev (fun k => laws_FnNearDepots.j3 k c xs x y d (gramsNearM xs x y d).1 b) true := by
  cases b with
  | true => exact Ev.step (f := fun _ => some true) (fun k => by simp [laws_FnNearDepots.j3]) (Ev.now _)
  | false =>
    have hd := hb rfl
    have hok := near_code0 h
    obtain ⟨hh, h0⟩ := roll_tells c hc hl 2701
    obtain ⟨z, i', h', e1, _, h1, h2⟩ := below_tells (c := c) (i := 0) (h := hh) ⟨hc, hl, by omega, by omega⟩ (100000 - d) (by omega)
    refine Ev.step (f := fun k => (laws_roll.f k c 2701).bind fun bt302 => ((laws_dice_below.f bt302.1 bt302.2.1 bt302.2.2 (wrap64 (100000 - d))).bind fun bt306 => ((impl_GramsNear.f k xs x y (wrap64 ((wrap64 (d + 1)) + bt306.1))).bind fun bt309 => (if bt309.2 = 0 then (some (decide (bt309.1 ≥ (gramsNearM xs x y d).1))) else (some false))))) (fun k => by simp only [laws_FnNearDepots.j3, Bool.false_eq_true, if_false]) ?_
    refine Ev.bind h0 ?_
    simp only [w64 (x := 100000 - d) (by omega) (by omega), e1, Option.bind_some]
    rw [w64 (x := d + 1) (by omega) (by omega), w64 (x := d + 1 + z) (by omega) (by omega)]
    refine Ev.bind (impl_GramsNear_ev xs x y _) ?_
    rw [gramsNearM_ok hok, gramsNearM_ok (d := d + 1 + z) ⟨hok.1, hok.2.1, by omega, by omega⟩]
    refine Ev_pos (near_snd _ _ _) (Ev_some (decide_eq_true ?_))
    exact near_mono hok.1 x y hok.2.2.1 (by omega) xs.length 0 0 0 (by omega) (by omega) (by omega)
theorem near_j2 (c : List Int) (hc : ∀ b ∈ c, 0 ≤ b ∧ b ≤ 255) (hl : c.length ≤ 4096) (xs : List S51) (x y d : Int) (a : List S51) (p q k' o i : Int) : Ev (fun k => laws_FnNearDepots.j2 k c xs x y d (gramsNearM xs x y d).1 (gramsNearM xs x y d).2 a p q k' o i false) true := by
  by_cases h : (gramsNearM xs x y d).2 = 0
  · refine Ev.step (fun k => ?_) (near_j3 c hc hl xs x y d h (d == 100000) (fun hb => ?_))
    · simp only [laws_FnNearDepots.j2, Bool.false_eq_true, if_false]
      rw [if_pos h]
    · have := (near_code0 h).2.2.2
      have : ¬ d = 100000 := by simpa using hb
      omega
  · refine Ev.step (f := fun k => laws_FnNearDepots.j3 k c xs x y d (gramsNearM xs x y d).1 true) (fun k => ?_) (Ev.step (f := fun _ => some true) (fun k => by simp [laws_FnNearDepots.j3]) (Ev.now _))
    simp only [laws_FnNearDepots.j2, Bool.false_eq_true, if_false]
    rw [if_neg h]
theorem near_l0 (c : List Int) (hc : ∀ b ∈ c, 0 ≤ b ∧ b ≤ 255) (hl : c.length ≤ 4096) (xs : List S51) (x y d : Int) (a : List S51) (p q : Int) (m : Nat) : ∀ i : Int, 0 ≤ i → i + m = a.length → Ev (fun k => laws_FnNearDepots.l0 k c xs x y d (gramsNearM xs x y d).1 (gramsNearM xs x y d).2 a p q (nearestM a p q).1 (nearestM a p q).2 i) true := by
  by_cases h : (nearestM a p q).2 = 0
  · obtain ⟨h1, h2, b0, b1, hall⟩ := nearest_code0 h
    have hn := h1.2
    induction m with
    | zero =>
      intro i h0 hi
      refine Ev.step (fun k => ?_) (near_j2 c hc hl xs x y d a p q (nearestM a p q).1 (nearestM a p q).2 i)
      simp only [laws_FnNearDepots.l0]
      rw [if_pos h, decide_eq_false (by omega)]
    | succ m ih =>
      intro i h0 hi
      refine Ev.step (f := fun k => laws_FnNearDepots.j2 k c xs x y d (gramsNearM xs x y d).1 (gramsNearM xs x y d).2 a p q (nearestM a p q).1 (nearestM a p q).2 i true) (fun k => ?_) (Ev.step (fun k => ?_) (ih (i + 1) (by omega) (by omega)))
      · simp only [laws_FnNearDepots.l0]
        rw [if_pos h, decide_eq_true (by omega)]
      · obtain ⟨h3, h4⟩ := hall i h0 (by omega)
        have e1 := squareW (ok_at h1 h0 (by omega)).x (ok_at h1 h0 (by omega)).y h2.1 h2.2
        have e2 := squareW (ok_at h1 b0 b1).x (ok_at h1 b0 b1).y h2.1 h2.2
        simp only [laws_FnNearDepots.j2, if_true]
        rw [if_pos b0, if_pos b1, if_pos h0, if_pos (by omega), e1, e2, w64 (x := i + 1) (by omega) (by omega)]
        unfold sqM at h3 h4
        rw [if_neg (by omega)]
        by_cases he : ((rd_T51 a i).f0 - p) * ((rd_T51 a i).f0 - p) + ((rd_T51 a i).f1 - q) * ((rd_T51 a i).f1 - q) = ((rd_T51 a (nearestM a p q).1).f0 - p) * ((rd_T51 a (nearestM a p q).1).f0 - p) + ((rd_T51 a (nearestM a p q).1).f1 - q) * ((rd_T51 a (nearestM a p q).1).f1 - q)
        · rw [if_pos he, if_neg (by have := h4 he; omega)]
        · rw [if_neg he]
  · intro i h0 hi
    refine Ev.step (fun k => ?_) (near_j2 c hc hl xs x y d a p q (nearestM a p q).1 (nearestM a p q).2 i)
    simp only [laws_FnNearDepots.l0]
    rw [if_neg h]
theorem FnNearDepots : laws_FnNearDepots.Pure := by
  intro c hn0 hn1 hw
  have hc := bytes_of hw
  refine Ev.rounds ?_
  unfold laws_FnNearDepots.f
  rw [big_eq]
  simp only [Option.bind_some, decide_eq_true_eq]
  refine Ev_ite (fun _ => Ev.now _) (fun hb => ?_)
  have hl : c.length ≤ 4096 := by omega
  obtain ⟨xs, x, y, d, h1, hx⟩ := drawGramsNear_tells c hc hl
  obtain ⟨a, p, q, h2, ha⟩ := drawNearest_tells c hc hl
  refine Ev.bind h1 (Ev.bind (impl_GramsNear_ev xs x y d) (Ev.bind (spec_GramsNear_ev xs (by omega) x y d) (Ev.bind h2 (Ev.bind (impl_NearestDepot_ev a p q) (Ev.bind (spec_NearestDepot_ev a (by omega) p q) ?_)))))
  refine Ev_pos rfl (Ev_pos rfl (Ev_pos rfl ?_))
  have e : ((nearestM a p q).1 != (nearestM a p q).1) = false := bne_self_eq_false _
  rw [e]
  refine Ev.step (fun k => ?_) (near_l0 c hc hl xs x y d a p q a.length 0 (by omega) (by omega))
  simp only [laws_FnNearDepots.j0, Bool.false_eq_true, if_false]



end Go.Proofs.Ytmhnkhealidjjaa.Pure
