/- The statement over numbers and lists for FnExactFirstLeak: the reference and the program answer alike for all arguments. -/
import Derived.Test.YthieppjmjgijfaaXFnExactFirstLeak
set_option linter.unusedVariables false
set_option linter.unusedSimpArgs false
namespace Go.Proofs.Ythieppjmjgijfaa.Pure
open Go.RowKit Go.Proofs.Ythieppjmjgijfaa.PFnExactFirstLeak Go.Proofs.YthieppjmjgijfaaW.PrintWords Go.Proofs.YthieppjmjgijfaaW.PrintLast Go.Proofs.YthieppjmjgijfaaW.PrintMore
open Go.Proofs.YthieppjmjgijfaaX

theorem w64 {x : Int} (h0 : -9223372036854775808 ≤ x) (h1 : x ≤ 9223372036854775807) : wrap64 x = x := by unfold wrap64; omega
theorem Ev_ite {α : Type} {c : Prop} [Decidable c] {g h : Nat → Option α} {r : α} (h1 : c → Ev g r) (h2 : ¬ c → Ev h r) : Ev (fun k => if c then g k else h k) r := by
  by_cases hc : c
  · obtain ⟨K, hK⟩ := h1 hc
    exact ⟨K, fun k hk => (if_pos hc).trans (hK k hk)⟩
  · obtain ⟨K, hK⟩ := h2 hc
    exact ⟨K, fun k hk => (if_neg hc).trans (hK k hk)⟩
theorem Ev_pos {α : Type} {c : Prop} [Decidable c] {g h : Nat → Option α} {r : α} (hc : c) (h1 : Ev g r) : Ev (fun k => if c then g k else h k) r := Ev_ite (fun _ => h1) (fun n => absurd hc n)
theorem Ev_neg {α : Type} {c : Prop} [Decidable c] {g h : Nat → Option α} {r : α} (hc : ¬ c) (h1 : Ev h r) : Ev (fun k => if c then g k else h k) r := Ev_ite (fun n => absurd n hc) (fun _ => h1)
theorem Ev_some {α : Type} {r q : α} (h : r = q) : Ev (fun _ => some r) q := h ▸ Ev.now r
theorem Ev_eq {α : Type} {g : Nat → Option α} {r q : α} (h : r = q) (k : Ev g r) : Ev g q := h ▸ k
theorem Ev_const {α : Type} {o : Option α} {r : α} (h : o = some r) : Ev (fun _ => o) r := by subst h; exact Ev.now r
theorem Ev_bindc {α β : Type} {o : Option α} {f : Nat → α → Option β} {a : α} {r : β} (h : o = some a) (k : Ev (fun n => f n a) r) : Ev (fun n => o.bind (f n)) r := by subst h; exact k
theorem Ev_unique {α : Type} {g : Nat → Option α} {r q : α} (h : Ev g r) (k : Ev g q) : r = q := by
  obtain ⟨K, h⟩ := h
  obtain ⟨L, k⟩ := k
  have h1 := h (max K L) (by omega)
  have h2 := k (max K L) (by omega)
  rw [h1] at h2
  exact Option.some.inj h2
theorem lit64 {x : Int} (h : (Lit.int .i64 x).wf = true) : -9223372036854775808 ≤ x ∧ x ≤ 9223372036854775807 := by
  have h := h
  simp [Lit.wf, IntKind.min, IntKind.max, IntKind.bits, IntKind.signed] at h
  omega
theorem mn_eq (a b : Int) : mn a b = min a b := by unfold mn; omega
theorem mx_eq (a b : Int) : mx a b = max a b := by unfold mx; omega

theorem within_eq (a lo hi : Int) : impl_within.f a lo hi = some (decide (lo ≤ a ∧ a ≤ hi)) := by
  unfold impl_within.f
  by_cases h : lo ≤ a <;> simp [h]

theorem l01In_eq (a lo hi : Int) : spec_l01In.f a lo hi = some (decide (lo ≤ a ∧ a ≤ hi)) := by
  unfold spec_l01In.f
  by_cases h : a ≥ lo
  · have : lo ≤ a := h
    simp [this]
  · have : ¬ lo ≤ a := h
    simp [this]

/-- A loop over the numbers 0 to n - 1: d rounds from i on. -/
def forM {S ρ : Type} (step : S → Int → ρ ⊕ S) (out : S → ρ) : Nat → S → Int → ρ
  | 0, s, _ => out s
  | d + 1, s, i => match step s i with
    | .inl r => r
    | .inr s' => forM step out d s' (i + 1)
theorem Ev_for {S ρ : Type} {F : Nat → S → Int → Option ρ} {step : S → Int → ρ ⊕ S} {out : S → ρ} {n : Nat} (Inv : S → Int → Prop)
    (hend : ∀ s, Inv s n → ∃ K, ∀ k, K ≤ k → F k s n = some (out s))
    (hstep : ∀ (s : S) (i : Int), 0 ≤ i → i < n → Inv s i → (∃ r, step s i = .inl r ∧ ∃ K, ∀ k, K ≤ k → F k s i = some r) ∨ (∃ s', step s i = .inr s' ∧ Inv s' (i + 1) ∧ ∃ K, ∀ k, K ≤ k → F (k + 1) s i = F k s' (i + 1))) :
    ∀ (d : Nat) (s : S) (i : Int), 0 ≤ i → i + d = n → Inv s i → Ev (fun k => F k s i) (forM step out d s i) := by
  intro d
  induction d with
  | zero =>
    intro s i h0 h1 hI
    obtain rfl : i = n := by omega
    exact hend s hI
  | succ d ih =>
    intro s i h0 h1 hI
    rcases hstep s i h0 (by omega) hI with ⟨r, hr, hK⟩ | ⟨s', hs, hI', K, hK⟩
    · simp only [forM, hr]
      exact hK
    · simp only [forM, hs]
      obtain ⟨K', h⟩ := ih s' (i + 1) (by omega) (by omega) hI'
      refine ⟨K + K' + 1, fun k hk => ?_⟩
      obtain ⟨k, rfl⟩ : ∃ m, k = m + 1 := ⟨k - 1, by omega⟩
      exact (hK k (by omega)).trans (h k (by omega))
/-- What holds at the end of a loop. -/
theorem forM_ind {S ρ : Type} {step : S → Int → ρ ⊕ S} {out : S → ρ} {n : Nat} (Inv : S → Int → Prop) (Post : ρ → Prop) (hend : ∀ s, Inv s n → Post (out s))
    (hstep : ∀ (s : S) (i : Int), 0 ≤ i → i < n → Inv s i → (∀ r, step s i = .inl r → Post r) ∧ ∀ s', step s i = .inr s' → Inv s' (i + 1)) : ∀ (d : Nat) (s : S) (i : Int), 0 ≤ i → i + d = n → Inv s i → Post (forM step out d s i) := by
  intro d
  induction d with
  | zero =>
    intro s i h0 h1 hI
    obtain rfl : i = n := by omega
    exact hend s hI
  | succ d ih =>
    intro s i h0 h1 hI
    obtain ⟨h2, h3⟩ := hstep s i h0 (by omega) hI
    simp only [forM]
    cases hs : step s i with
    | inl r => exact h2 r hs
    | inr s' => exact ih s' (i + 1) (by omega) (by omega) (h3 s' hs)

theorem Ev_succ {α : Type} {g : Nat → Option α} {r : α} (h : Ev (fun k => g (k + 1)) r) : Ev g r := Ev.step (fun _ => rfl) h
theorem Ev_for2 {S ρ : Type} {F : Nat → S → Int → Option ρ} {step : S → Int → ρ ⊕ S} {out : S → ρ} {n : Nat} (Inv : S → Int → Prop)
    (hend : ∀ s, Inv s n → Ev (fun k => F k s n) (out s))
    (hstep : ∀ (s : S) (i : Int), 0 ≤ i → i < n → Inv s i → (∃ r, step s i = .inl r ∧ Ev (fun k => F k s i) r) ∨ (∃ s', step s i = .inr s' ∧ Inv s' (i + 1) ∧ ∀ r, Ev (fun k => F k s' (i + 1)) r → Ev (fun k => F k s i) r)) :
    ∀ (d : Nat) (s : S) (i : Int), 0 ≤ i → i + d = n → Inv s i → Ev (fun k => F k s i) (forM step out d s i) := by
  intro d
  induction d with
  | zero =>
    intro s i h0 h1 hI
    obtain rfl : i = n := by omega
    exact hend s hI
  | succ d ih =>
    intro s i h0 h1 hI
    rcases hstep s i h0 (by omega) hI with ⟨r, hr, hK⟩ | ⟨s', hs, hI', hK⟩
    · simp only [forM, hr]
      exact hK
    · simp only [forM, hs]
      exact hK _ (ih s' (i + 1) (by omega) (by omega) hI')
/-- A loop over a list that only gathers: a fold. -/
theorem forM_fold {S ρ α : Type} (xs : List α) (rdx : Int → α) (hrd : ∀ (j : Nat) (h : j < xs.length), rdx j = xs[j]) (upd : S → α → S) (out : S → ρ) (d : Nat) : ∀ (s : S) (i : Nat), i + d = xs.length →
    forM (ρ := ρ) (fun s i => .inr (upd s (rdx i))) out d s i = out ((xs.drop i).foldl upd s) := by
  induction d with
  | zero =>
    intro s i hi
    rw [List.drop_eq_nil_of_le (by omega)]
    rfl
  | succ d ih =>
    intro s i hi
    rw [List.drop_eq_getElem_cons (show i < xs.length by omega)]
    simp only [forM, List.foldl_cons]
    have := ih (upd s (rdx i)) (i + 1) (by omega)
    rw [← hrd i (by omega)]
    exact this
theorem forM_fold0 {S ρ α : Type} (xs : List α) (rdx : Int → α) (hrd : ∀ (j : Nat) (h : j < xs.length), rdx j = xs[j]) (upd : S → α → S) (out : S → ρ) (s : S) :
    forM (ρ := ρ) (fun s i => .inr (upd s (rdx i))) out xs.length s 0 = out (xs.foldl upd s) := by
  have := forM_fold xs rdx hrd upd out xs.length s 0 (by omega)
  rw [List.drop_zero] at this
  exact this
/-- A loop that looks at each place, and stops at the first that fails. -/
theorem forM_all {p : Int → Bool} {b : Bool} {n : Nat} (d : Nat) : ∀ i : Int, 0 ≤ i → i + d = n → (forM (S := Unit) (ρ := Bool) (fun _ i => if p i = true then .inr () else .inl false) (fun _ => b) d () i = true ↔ b = true ∧ ∀ j : Int, i ≤ j → j < n → p j = true) := by
  induction d with
  | zero =>
    intro i h0 hi
    simp only [forM]
    exact ⟨fun h => ⟨h, fun j h1 h2 => by omega⟩, fun h => h.1⟩
  | succ d ih =>
    intro i h0 hi
    simp only [forM]
    by_cases hp : p i = true
    · rw [if_pos hp]
      refine (ih (i + 1) (by omega) (by omega)).trans ⟨fun h => ⟨h.1, fun j h1 h2 => ?_⟩, fun h => ⟨h.1, fun j h1 h2 => h.2 j (by omega) h2⟩⟩
      by_cases hj : j = i
      · rw [hj]; exact hp
      · exact h.2 j (by omega) h2
    · rw [if_neg hp]
      exact ⟨(fun h => by cases h), fun h => absurd (h.2 i (Int.le_refl _) (by omega)) hp⟩

/-- A loop that never stops before its end. -/
def foldU {S : Type} (upd : S → Int → S) : Nat → S → Int → S
  | 0, s, _ => s
  | d + 1, s, i => foldU upd d (upd s i) (i + 1)
theorem foldU_ind {S : Type} {upd : S → Int → S} {n : Int} (Inv : S → Int → Prop) (hstep : ∀ (s : S) (i : Int), 0 ≤ i → i < n → Inv s i → Inv (upd s i) (i + 1)) : ∀ (d : Nat) (s : S) (i : Int), 0 ≤ i → i + d = n → Inv s i → Inv (foldU upd d s i) n := by
  intro d
  induction d with
  | zero => intro s i h0 h1 hI; obtain rfl : i = n := by omega
            exact hI
  | succ d ih => intro s i h0 h1 hI; exact ih _ _ (by omega) (by omega) (hstep s i h0 (by omega) hI)
theorem Ev_forK {S τ : Type} {F : Nat → S → Int → Option τ} {upd : S → Int → S} {n : Int} {r : τ} (Inv : S → Int → Prop)
    (hstep : ∀ (s : S) (i : Int), 0 ≤ i → i < n → Inv s i → Inv (upd s i) (i + 1) ∧ (Ev (fun k => F k (upd s i) (i + 1)) r → Ev (fun k => F k s i) r)) :
    ∀ (d : Nat) (s : S) (i : Int), 0 ≤ i → i + d = n → Inv s i → (Inv (foldU upd d s i) n → Ev (fun k => F k (foldU upd d s i) n) r) → Ev (fun k => F k s i) r := by
  intro d
  induction d with
  | zero => intro s i h0 h1 hI h; obtain rfl : i = n := by omega
            exact h hI
  | succ d ih =>
    intro s i h0 h1 hI h
    obtain ⟨h2, h3⟩ := hstep s i h0 (by omega) hI
    exact h3 (ih _ _ (by omega) (by omega) h2 h)

theorem Ev_allK {τ : Type} {F : Nat → Int → Option τ} {p : Int → Prop} {n : Int} {r bad : τ}
    (hstep : ∀ i : Int, 0 ≤ i → i < n → (p i → Ev (fun k => F k (i + 1)) r → Ev (fun k => F k i) r) ∧ (¬ p i → r = bad → Ev (fun k => F k i) r)) :
    ∀ (d : Nat) (i : Int), 0 ≤ i → i + d = n → (¬ (∀ j : Int, i ≤ j → j < n → p j) → r = bad) → ((∀ j : Int, i ≤ j → j < n → p j) → Ev (fun k => F k n) r) → Ev (fun k => F k i) r := by
  intro d
  induction d with
  | zero => intro i h0 h1 _ h; obtain rfl : i = n := by omega
            exact h (fun j h2 h3 => by omega)
  | succ d ih =>
    intro i h0 h1 hb hg
    obtain ⟨h2, h3⟩ := hstep i h0 (by omega)
    by_cases hp : p i
    · refine h2 hp (ih (i + 1) (by omega) (by omega) (fun h => hb (fun q => h (fun j h4 h5 => q j (by omega) h5))) (fun h => hg (fun j h4 h5 => ?_)))
      by_cases hj : j = i
      · rw [hj]; exact hp
      · exact h j (by omega) h5
    · exact h3 hp (hb (fun q => hp (q i (Int.le_refl _) (by omega))))

/-- The controller with a number, after an input: whether it is allowed, and the number then (-1 if not). -/
def stepS (n i : Int) : Option (Bool × Int) := (spec_l25With.f n).bind fun b => (spec_l21Give.f b.1 b.2.1 b.2.2.1 b.2.2.2.1 b.2.2.2.2.1 b.2.2.2.2.2 i).bind fun g => if g.2.2.2.2.2.2 = true then (spec_l25Number.f 10 g.1 g.2.1 g.2.2.1 g.2.2.2.1 g.2.2.2.2.1 g.2.2.2.2.2.1).bind fun t => some (true, t) else some (false, -1)
def stepI (n i : Int) : Option (Bool × Int) := (impl_controllerWith.f n).bind fun b => (impl_giveInput.f b.1 b.2.1 b.2.2.1 b.2.2.2.1 b.2.2.2.2.1 b.2.2.2.2.2 i).bind fun g => if g.2.2.2.2.2.2 = 0 then (impl_numberOf.f g.1 g.2.1 g.2.2.1 g.2.2.2.1 g.2.2.2.2.1 g.2.2.2.2.2.1).bind fun t => some (true, t) else some (false, -1)
theorem step_all : ∀ (n : Fin 160) (i : Fin 10), stepS (n.val : Int) (i.val : Int) = stepI (n.val : Int) (i.val : Int) ∧ (match stepS (n.val : Int) (i.val : Int) with | some (ok, v) => (if ok then decide (0 ≤ v ∧ v ≤ 159) else v == -1) | none => false) = true := by decide +kernel
def nextM (n i : Int) : Int := ((stepS n i).getD (false, -1)).2
theorem step_tells {n i : Int} (hn : 0 ≤ n ∧ n ≤ 159) (hi : 0 ≤ i ∧ i ≤ 9) : ∃ ok v, stepS n i = some (ok, v) ∧ stepI n i = some (ok, v) ∧ nextM n i = v ∧ (ok = true → 0 ≤ v ∧ v ≤ 159) ∧ (ok = false → v = -1) := by
  obtain ⟨h1, h2⟩ := step_all ⟨n.toNat, by omega⟩ ⟨i.toNat, by omega⟩
  simp only at h1 h2
  rw [show ((n.toNat : Nat) : Int) = n by omega, show ((i.toNat : Nat) : Int) = i by omega] at h1 h2
  cases hs : stepS n i with
  | none => rw [hs] at h2; exact absurd h2 (by simp)
  | some p =>
    obtain ⟨ok, v⟩ := p
    rw [hs] at h2
    refine ⟨ok, v, rfl, by rw [← h1, hs], by unfold nextM; rw [hs]; rfl, fun h => ?_, fun h => ?_⟩
    · rw [h] at h2; simpa using h2
    · rw [h] at h2; simpa using h2
theorem spec_step {n i : Int} (hn : 0 ≤ n ∧ n ≤ 159) (hi : 0 ≤ i ∧ i ≤ 9) : ∃ b g, spec_l25With.f n = some b ∧ spec_l21Give.f b.1 b.2.1 b.2.2.1 b.2.2.2.1 b.2.2.2.2.1 b.2.2.2.2.2 i = some g ∧ ((g.2.2.2.2.2.2 = true ∧ Ev (fun k => spec_l25Number.f k g.1 g.2.1 g.2.2.1 g.2.2.2.1 g.2.2.2.2.1 g.2.2.2.2.2.1) (nextM n i)) ∨ (¬ g.2.2.2.2.2.2 = true ∧ nextM n i = -1)) := by
  obtain ⟨ok, v, h1, _, h3, h4, h5⟩ := step_tells hn hi
  unfold stepS at h1
  obtain ⟨b, hb, h1⟩ := Option.bind_eq_some_iff.1 h1
  obtain ⟨g, hg, h1⟩ := Option.bind_eq_some_iff.1 h1
  refine ⟨b, g, hb, hg, ?_⟩
  by_cases hc : g.2.2.2.2.2.2 = true
  · rw [if_pos hc] at h1
    obtain ⟨t, ht, h1⟩ := Option.bind_eq_some_iff.1 h1
    obtain ⟨rfl, rfl⟩ := Prod.mk.inj (Option.some.inj h1)
    exact .inl ⟨hc, by rw [h3]; exact Ev.of (k := 10) (spec_l25Number.mono _ _ _ _ _ _) ht⟩
  · rw [if_neg hc] at h1
    obtain ⟨rfl, rfl⟩ := Prod.mk.inj (Option.some.inj h1)
    exact .inr ⟨hc, h3⟩
theorem impl_step {n i : Int} (hn : 0 ≤ n ∧ n ≤ 159) (hi : 0 ≤ i ∧ i ≤ 9) : ∃ b g, impl_controllerWith.f n = some b ∧ impl_giveInput.f b.1 b.2.1 b.2.2.1 b.2.2.2.1 b.2.2.2.2.1 b.2.2.2.2.2 i = some g ∧ ((g.2.2.2.2.2.2 = 0 ∧ impl_numberOf.f g.1 g.2.1 g.2.2.1 g.2.2.2.1 g.2.2.2.2.1 g.2.2.2.2.2.1 = some (nextM n i) ∧ 0 ≤ nextM n i ∧ nextM n i ≤ 159) ∨ (¬ g.2.2.2.2.2.2 = 0 ∧ nextM n i = -1)) := by
  obtain ⟨ok, v, _, h1, h3, h4, h5⟩ := step_tells hn hi
  unfold stepI at h1
  obtain ⟨b, hb, h1⟩ := Option.bind_eq_some_iff.1 h1
  obtain ⟨g, hg, h1⟩ := Option.bind_eq_some_iff.1 h1
  refine ⟨b, g, hb, hg, ?_⟩
  by_cases hc : g.2.2.2.2.2.2 = 0
  · rw [if_pos hc] at h1
    obtain ⟨t, ht, h1⟩ := Option.bind_eq_some_iff.1 h1
    obtain ⟨rfl, rfl⟩ := Prod.mk.inj (Option.some.inj h1)
    exact .inl ⟨hc, by rw [h3]; exact ht, by rw [h3]; exact h4 rfl⟩
  · rw [if_neg hc] at h1
    obtain ⟨rfl, rfl⟩ := Prod.mk.inj (Option.some.inj h1)
    exact .inr ⟨hc, h3⟩

def numB (n : Int) : Bool := (impl_isNumber.f n).getD false
theorem num_all : ∀ n : Fin 160, spec_l25Is.f (n.val : Int) = impl_isNumber.f (n.val : Int) ∧ (impl_isNumber.f (n.val : Int)).isSome = true := by decide +kernel
theorem num_tells (n : Int) : spec_l25Is.f n = some (numB n) ∧ impl_isNumber.f n = some (numB n) ∧ (numB n = true → 0 ≤ n ∧ n ≤ 159) := by
  by_cases h : 0 ≤ n ∧ n ≤ 159
  · obtain ⟨h1, h2⟩ := num_all ⟨n.toNat, by omega⟩
    simp only at h1 h2
    rw [show ((n.toNat : Nat) : Int) = n by omega] at h1 h2
    obtain ⟨b, hb⟩ := Option.isSome_iff_exists.1 h2
    have e : numB n = b := by unfold numB; rw [hb]; rfl
    rw [e]
    exact ⟨h1.trans hb, hb, fun _ => h⟩
  · have hi : impl_isNumber.f n = some false := by
      unfold impl_isNumber.f
      rw [within_eq, decide_eq_false h]
      rfl
    have hs : spec_l25Is.f n = some false := by
      unfold spec_l25Is.f
      rw [l01In_eq, decide_eq_false h]
      rfl
    have e : numB n = false := by unfold numB; rw [hi]; rfl
    rw [e]
    exact ⟨hs, hi, fun q => absurd q (by decide)⟩

def HandAt (h : List Int) (i : Int) : Prop := (0 ≤ rd h i ∧ rd h i ≤ 9) ∧ (0 < i → rd h (i - 1) < rd h i)
def HandOk (h : List Int) : Prop := ∀ i : Int, 0 ≤ i → i < h.length → HandAt h i
noncomputable def handB (h : List Int) : Bool := open Classical in decide (HandOk h)
theorem handB_iff {h : List Int} : handB h = true ↔ HandOk h := by unfold handB; exact @decide_eq_true_iff _ (Classical.propDecidable _)
theorem handB_no {s : List Int} (h : ¬ HandOk s) : handB s = false := by rw [Bool.eq_false_iff]; exact fun q => h (handB_iff.1 q)
theorem rises_ev (s : List Int) (hn : s.length ≤ 1000000) : Ev (fun k => spec_l01Rises.f k s 10) (handB s) := by
  unfold spec_l01Rises.f
  have w9 : wrap64 (10 - 1) = 9 := by rw [w64 (by omega) (by omega)]; omega
  exact Ev_allK (F := fun k i => spec_l01Rises.l0 k s 10 i) (p := HandAt s) (n := s.length) (bad := false) (fun i h0 h1 => ⟨fun hp hr => Ev_succ (by
    simp only [spec_l01Rises.l0, w9, l01In_eq, Option.bind_some, decide_eq_true_eq]
    rw [w64 (x := i + 1) (by omega) (by omega), w64 (x := i - 1) (by omega) (by omega)]
    exact Ev_pos h1 (Ev_pos h0 (Ev_pos hp.1 (Ev_ite (fun hi => Ev_pos (by omega) (Ev_pos (by omega) (Ev_neg (by have := hp.2 hi; omega) hr))) (fun _ => hr))))), fun hp hr => Ev_succ (by
    simp only [spec_l01Rises.l0, w9, l01In_eq, Option.bind_some, decide_eq_true_eq]
    rw [w64 (x := i - 1) (by omega) (by omega)]
    exact Ev_pos h1 (Ev_pos h0 (Ev_ite (fun ha => Ev_ite (fun hi => Ev_pos (by omega) (Ev_pos (by omega) (Ev_ite (fun _ => Ev_some hr.symm) (fun hb => absurd ⟨ha, fun _ => by omega⟩ hp)))) (fun hi => absurd ⟨ha, fun q => absurd q hi⟩ hp)) (fun _ => Ev_some hr.symm))))⟩) s.length 0 (by omega) (by omega) (fun hno => handB_no hno) (fun hv => Ev_succ (by
    simp only [spec_l01Rises.l0]
    exact Ev_neg (by omega) (Ev_some (handB_iff.2 hv).symm)))
theorem isHand_ev (s : List Int) (hn : s.length ≤ 1000000) : Ev (fun k => impl_isHand.f k s) (handB s) := by
  unfold impl_isHand.f
  have hall : Ev (fun k => impl_allWithin.f k s 0 9) (open Classical in decide (∀ i : Int, 0 ≤ i → i < s.length → 0 ≤ rd s i ∧ rd s i ≤ 9)) := by
    unfold impl_allWithin.f
    exact Ev_allK (F := fun k i => impl_allWithin.l0 k 0 9 s (s.length : Int) i) (p := fun i => 0 ≤ rd s i ∧ rd s i ≤ 9) (n := s.length) (bad := false) (fun i h4 h5 => ⟨fun hp hr => Ev_succ (by
      simp only [impl_allWithin.l0, within_eq, Option.bind_some, decide_eq_true_eq]
      rw [w64 (by omega) (by omega)]
      exact Ev_pos h5 (Ev_pos h4 (Ev_pos h5 (Ev_pos hp hr)))), fun hp hr => Ev_succ (by
      simp only [impl_allWithin.l0, within_eq, Option.bind_some, decide_eq_true_eq]
      exact Ev_pos h5 (Ev_pos h4 (Ev_pos h5 (Ev_neg hp (Ev_some hr.symm)))))⟩) s.length 0 (by omega) (by omega) (fun hno => @decide_eq_false _ (Classical.propDecidable _) hno) (fun hv => Ev_succ (by
      simp only [impl_allWithin.l0]
      exact Ev_neg (by omega) (Ev_some (@decide_eq_true _ (Classical.propDecidable _) hv).symm)))
  refine Ev.bind hall (Ev_ite (fun h => ?_) (fun h => Ev_some (handB_no (fun q => h (@decide_eq_true _ (Classical.propDecidable _) (fun i h0 h1 => (q i h0 h1).1)))).symm))
  have hw := @of_decide_eq_true _ (Classical.propDecidable _) h
  by_cases hz : s.length = 0
  · exact Ev_succ (by
      simp only [impl_isHand.l0]
      exact Ev_neg (by omega) (Ev_some (handB_iff.2 (fun i h0 h1 => by omega)).symm))
  · have hloop : ∀ (d : Nat) (i : Int), 1 ≤ i → i + d = s.length → (∀ j : Int, 0 ≤ j → j < i → HandAt s j) → Ev (fun k => impl_isHand.l0 k s i) (handB s) := by
      intro d
      induction d with
      | zero =>
        intro i h0 h1 hp
        exact Ev_succ (by
          simp only [impl_isHand.l0]
          exact Ev_neg (by omega) (Ev_some (handB_iff.2 (fun j h2 h3 => hp j h2 (by omega))).symm))
      | succ d ih =>
        intro i h0 h1 hp
        refine Ev_succ (by
          simp only [impl_isHand.l0]
          rw [w64 (x := i + 1) (by omega) (by omega), w64 (x := i - 1) (by omega) (by omega)]
          refine Ev_pos (by omega) (Ev_pos (by omega) (Ev_pos (by omega) (Ev_pos (by omega) (Ev_ite (fun hb => Ev_some (handB_no (fun q => ?_)).symm) (fun hb => ih (i + 1) (by omega) (by omega) (fun j h2 h3 => ?_))))))
          · have := (q i (by omega) (by omega)).2 (by omega)
            omega
          · by_cases hj : j = i
            · rw [hj]; exact ⟨hw i (by omega) (by omega), fun _ => by omega⟩
            · exact hp j h2 (by omega))
    exact hloop (s.length - 1) 1 (by omega) (by omega) (fun j h0 h1 => by
      obtain rfl : j = 0 := by omega
      exact ⟨hw 0 (by omega) (by omega), fun q => absurd q (by omega)⟩)

def SafeAt (s : List Int) (i : Int) : Prop := numB (rd s i) = true ∧ (0 < i → ¬ rd s (i - 1) ≥ rd s i)
def SafeOk (s : List Int) : Prop := ∀ i : Int, 0 ≤ i → i < s.length → SafeAt s i
noncomputable def safeB (s : List Int) : Bool := open Classical in decide (SafeOk s)
theorem safeB_iff {s : List Int} : safeB s = true ↔ SafeOk s := by unfold safeB; exact @decide_eq_true_iff _ (Classical.propDecidable _)
theorem safeB_no {s : List Int} (h : ¬ SafeOk s) : safeB s = false := by rw [Bool.eq_false_iff]; exact fun q => h (safeB_iff.1 q)
theorem areSafe_ev (s : List Int) (hn : s.length ≤ 1000000) : Ev (fun k => impl_areSafe.f k s) (safeB s) := by
  unfold impl_areSafe.f
  exact Ev_allK (F := fun k i => impl_areSafe.l0 k s s (s.length : Int) i) (p := SafeAt s) (n := s.length) (bad := false) (fun i h0 h1 => ⟨fun hp hr => Ev_succ (by
    simp only [impl_areSafe.l0]
    refine Ev_pos h1 (Ev_pos h0 (Ev_pos h1 (Ev_bindc (num_tells _).2.1 ?_)))
    rw [hp.1, w64 (x := i + 1) (by omega) (by omega), w64 (x := i - 1) (by omega) (by omega)]
    exact Ev_pos rfl (Ev_ite (fun hi => Ev_pos (by omega) (Ev_pos (by omega) (Ev_neg (hp.2 hi) hr))) (fun _ => hr))), fun hp hr => Ev_succ (by
    simp only [impl_areSafe.l0]
    refine Ev_pos h1 (Ev_pos h0 (Ev_pos h1 (Ev_bindc (num_tells _).2.1 ?_)))
    rw [w64 (x := i - 1) (by omega) (by omega)]
    exact Ev_ite (fun ha => Ev_ite (fun hi => Ev_pos (by omega) (Ev_pos (by omega) (Ev_ite (fun _ => Ev_some hr.symm) (fun hb => absurd ⟨ha, fun _ => hb⟩ hp)))) (fun hi => absurd ⟨ha, fun q => absurd q hi⟩ hp)) (fun _ => Ev_some hr.symm))⟩) s.length 0 (by omega) (by omega) (fun hno => safeB_no hno) (fun hv => Ev_succ (by
    simp only [impl_areSafe.l0]
    exact Ev_neg (by omega) (Ev_some (safeB_iff.2 hv).symm)))
theorem l25Safe_ev (s h : List Int) (hn : s.length ≤ 1000000) (hh : h.length ≤ 1000000) : Ev (fun k => spec_l25Safe.f k s h) (if safeB s = true ∧ handB h = true then 0 else 1) := by
  unfold spec_l25Safe.f
  have hsound : spec_IsSound.f false false false false false 0 = some true := by
    unfold spec_IsSound.f
    rw [l01In_eq]
    decide
  exact Ev_allK (F := fun k i => spec_l25Safe.l0 k s h i) (p := SafeAt s) (n := s.length) (bad := 1) (fun i h0 h1 => ⟨fun hp hr => Ev_succ (by
    simp only [spec_l25Safe.l0]
    refine Ev_pos h1 (Ev_pos h0 (Ev_bindc (num_tells _).1 ?_))
    rw [hp.1, w64 (x := i + 1) (by omega) (by omega), w64 (x := i - 1) (by omega) (by omega)]
    exact Ev_pos rfl (Ev_ite (fun hi => Ev_pos (by omega) (Ev_pos (by omega) (Ev_neg (hp.2 hi) hr))) (fun _ => hr))), fun hp hr => Ev_succ (by
    simp only [spec_l25Safe.l0]
    refine Ev_pos h1 (Ev_pos h0 (Ev_bindc (num_tells _).1 ?_))
    rw [w64 (x := i - 1) (by omega) (by omega)]
    exact Ev_ite (fun ha => Ev_ite (fun hi => Ev_pos (by omega) (Ev_pos (by omega) (Ev_ite (fun _ => Ev_some hr.symm) (fun hb => absurd ⟨ha, fun _ => hb⟩ hp)))) (fun hi => absurd ⟨ha, fun q => absurd q hi⟩ hp)) (fun _ => Ev_some hr.symm))⟩) s.length 0 (by omega) (by omega) (fun hno => if_neg (fun q => hno (safeB_iff.1 q.1))) (fun hv => Ev_succ (by
    simp only [spec_l25Safe.l0]
    refine Ev_neg (by omega) (Ev.bind ?_ (Ev.now _))
    unfold spec_l25Code.f
    refine Ev_bindc hsound (Ev_pos rfl (Ev.bind (rises_ev h hh) (Ev_ite (fun q => ?_) (fun q => ?_))))
    · rw [if_pos ⟨safeB_iff.2 hv, q⟩]; exact Ev.now _
    · rw [if_neg (fun w => q w.2)]; exact Ev.now _))

theorem rd_here {b : List Int} {i : Int} (h0 : 0 ≤ i) (h1 : i < b.length) : rd b i = b[i.toNat]'(by omega) := by
  simp [rd, List.getD_eq_getElem?_getD, List.getElem?_eq_getElem (show i.toNat < b.length by omega)]
theorem l01Has_ev (l : List Int) (h : l.length ≤ 100000000) (v : Int) : Ev (fun k => spec_l01Has.f k l v) (decide (v ∈ l)) := by
  unfold spec_l01Has.f
  exact Ev_allK (F := fun k i => spec_l01Has.l0 k l v i) (p := fun i => ¬ rd l i = v) (n := l.length) (bad := true) (fun i h0 h1 => ⟨fun hp hr => Ev_succ (by
    simp only [spec_l01Has.l0]
    rw [w64 (by omega) (by omega)]
    exact Ev_pos h1 (Ev_pos h0 (Ev_neg hp hr))), fun hp hr => Ev_succ (by
    simp only [spec_l01Has.l0]
    exact Ev_pos h1 (Ev_pos h0 (Ev_pos (by simpa using hp) (Ev_some hr.symm))))⟩) l.length 0 (by omega) (by omega) (fun hno => by
    rw [decide_eq_true_eq]
    by_cases hm : v ∈ l
    · exact hm
    · refine absurd (fun j h0 h1 he => hm ?_) hno
      rw [← he, rd_here h0 h1]
      exact List.getElem_mem _) (fun hall => Ev_succ (by
    simp only [spec_l01Has.l0]
    refine Ev_neg (by omega) (Ev_some ?_)
    symm
    rw [decide_eq_false_iff_not]
    intro hm
    obtain ⟨j, hj⟩ := List.mem_iff_getElem?.1 hm
    obtain ⟨hl, he⟩ := List.getElem?_eq_some_iff.1 hj
    refine hall (j : Int) (by omega) (by omega) ?_
    rw [rd_here (by omega) (by omega), ← he]
    congr 1))

theorem next_list {n : Int} {h : List Int} (hn : 0 ≤ n ∧ n ≤ 159) (hh : HandOk h) (hl : h.length ≤ 1000000) : Ev (fun k => spec_l25Next.f k n h) (h.map (nextM n)) := by
  unfold spec_l25Next.f
  have hloop : ∀ (d : Nat) (o : List Int) (i : Int), 0 ≤ i → i + d = h.length → o = (h.take i.toNat).map (nextM n) → Ev (fun k => spec_l25Next.l0 k n h o i) (h.map (nextM n)) := by
    intro d
    induction d with
    | zero =>
      intro o i h0 h1 ho
      refine Ev_succ (by
        simp only [spec_l25Next.l0]
        refine Ev_neg (by omega) (Ev_some ?_)
        rw [ho, show i.toNat = h.length by omega, List.take_length])
    | succ d ih =>
      intro o i h0 h1 ho
      obtain ⟨b, g, hb, hg, hc⟩ := spec_step hn (hh i h0 (by omega)).1
      have hr := ih (o ++ [nextM n (rd h i)]) (i + 1) (by omega) (by omega) (by
        rw [ho, show (i + 1).toNat = i.toNat + 1 by omega, List.take_succ_eq_append_getElem (by omega), List.map_append, rd_here h0 (by omega)]
        rfl)
      have hol : o.length ≤ 1000000 := by rw [ho, List.length_map, List.length_take]; omega
      refine Ev_succ (by
        simp only [spec_l25Next.l0]
        rw [w64 (by omega) (by omega)]
        refine Ev_pos (by omega) (Ev_bindc hb (Ev_pos h0 (Ev_bindc hg ?_)))
        rcases hc with ⟨c1, c2⟩ | ⟨c1, c2⟩
        · exact Ev_pos c1 (Ev.bind c2 (Ev_pos (by omega) hr))
        · rw [c2] at hr
          exact Ev_neg c1 (Ev_pos (by omega) hr))
  exact hloop h.length [] 0 (by omega) (by omega) rfl
theorem rd_map {n : Int} {h : List Int} {i : Int} (h0 : 0 ≤ i) (h1 : i < h.length) : rd (h.map (nextM n)) i = nextM n (rd h i) := by
  rw [rd_here h0 (by rw [List.length_map]; exact h1), rd_here h0 h1, List.getElem_map]

def HasOk (s : List Int) (has : List Bool) : Prop := has.length = 160 ∧ ∀ v : Int, 0 ≤ v → v ≤ 159 → (rdOf false has v = true ↔ v ∈ s)
theorem leak_both {s h : List Int} (hs : SafeOk s) (hh : HandOk h) (hsl : s.length ≤ 1000000) (hhl : h.length ≤ 1000000) {has : List Bool} (hok : HasOk s has) (d : Nat) : ∀ i : Int, 0 ≤ i → i + d = s.length → (Ev (fun k => spec_l25Leak.l0 k s h i) (-1, -1) ∧ Ev (fun k => impl_firstLeak.l1 k h has s (s.length : Int) i) (0, 0, false)) ∨ (∃ a b, 0 ≤ a ∧ Ev (fun k => spec_l25Leak.l0 k s h i) (a, b) ∧ Ev (fun k => impl_firstLeak.l1 k h has s (s.length : Int) i) (a, b, true)) := by
  induction d with
  | zero =>
    intro i h0 h1
    exact .inl ⟨Ev_succ (by simp only [spec_l25Leak.l0]; exact Ev_neg (by omega) (Ev.now _)), Ev_succ (by simp only [impl_firstLeak.l1]; exact Ev_neg (by omega) (Ev.now _))⟩
  | succ d ih =>
    intro i h0 h1
    have hnum := (num_tells (rd s i)).2.2 (hs i h0 (by omega)).1
    have hinner : ∀ (e : Nat) (j : Int), 0 ≤ j → j + e = h.length → (Ev (fun k => spec_l25Leak.l1 k s h i (h.map (nextM (rd s i))) j) (-1, -1) ∧ Ev (fun k => impl_firstLeak.l2 k h has (rd s i) s (s.length : Int) i h (h.length : Int) j) (0, 0, false)) ∨ (∃ a b, 0 ≤ a ∧ Ev (fun k => spec_l25Leak.l1 k s h i (h.map (nextM (rd s i))) j) (a, b) ∧ Ev (fun k => impl_firstLeak.l2 k h has (rd s i) s (s.length : Int) i h (h.length : Int) j) (a, b, true)) := by
      intro e
      induction e with
      | zero =>
        intro j h2 h3
        rcases ih (i + 1) (by omega) (by omega) with ⟨g1, g2⟩ | ⟨a, b, g0, g1, g2⟩
        · refine .inl ⟨Ev_succ (by simp only [spec_l25Leak.l1, List.length_map]; rw [w64 (x := i + 1) (by omega) (by omega)]; exact Ev_neg (by omega) g1), Ev_succ (by simp only [impl_firstLeak.l2]; rw [w64 (x := i + 1) (by omega) (by omega)]; exact Ev_neg (by omega) g2)⟩
        · exact .inr ⟨a, b, g0, Ev_succ (by simp only [spec_l25Leak.l1, List.length_map]; rw [w64 (x := i + 1) (by omega) (by omega)]; exact Ev_neg (by omega) g1), Ev_succ (by simp only [impl_firstLeak.l2]; rw [w64 (x := i + 1) (by omega) (by omega)]; exact Ev_neg (by omega) g2)⟩
      | succ e ihe =>
        intro j h2 h3
        obtain ⟨b, g, hb, hg, hc⟩ := impl_step hnum (hh j h2 (by omega)).1
        have em := rd_map (n := rd s i) h2 (show j < h.length by omega)
        by_cases hleak : 0 ≤ nextM (rd s i) (rd h j) ∧ nextM (rd s i) (rd h j) ∉ s
        · rcases hc with ⟨c1, c2, c3, c4⟩ | ⟨c1, c2⟩
          · refine .inr ⟨rd s i, rd h j, hnum.1, Ev_succ ?_, Ev_succ ?_⟩
            · simp only [spec_l25Leak.l1, List.length_map]
              rw [em]
              exact Ev_pos (by omega) (Ev_pos h2 (Ev_pos c3 (Ev.bind (l01Has_ev s (by omega) _) (Ev_neg (by simpa using hleak.2) (Ev_pos h0 (Ev_pos (by omega) (Ev_pos (by omega) (Ev.now _))))))))
            · simp only [impl_firstLeak.l2]
              refine Ev_pos (by omega) (Ev_pos h2 (Ev_pos (by omega) (Ev_bindc hb (Ev_bindc hg (Ev_pos c1 (Ev_bindc c2 (Ev_pos c3 (Ev_pos (by rw [hok.1]; omega) (Ev_neg (fun q => hleak.2 ((hok.2 _ c3 c4).1 q)) (Ev.now _))))))))))
          · omega
        · have hgo := ihe (j + 1) (by omega) (by omega)
          have hs1 : ∀ r, Ev (fun k => spec_l25Leak.l1 k s h i (h.map (nextM (rd s i))) (j + 1)) r → Ev (fun k => spec_l25Leak.l1 k s h i (h.map (nextM (rd s i))) j) r := fun r hr => Ev_succ (by
            simp only [spec_l25Leak.l1, List.length_map]
            rw [em, w64 (x := j + 1) (by omega) (by omega)]
            exact Ev_pos (by omega) (Ev_pos h2 (Ev_ite (fun c => Ev.bind (l01Has_ev s (by omega) _) (Ev_pos (by
              by_cases hm : nextM (rd s i) (rd h j) ∈ s
              · simpa using hm
              · exact absurd ⟨c, hm⟩ hleak) hr)) (fun _ => hr))))
          have hi1 : ∀ r, Ev (fun k => impl_firstLeak.l2 k h has (rd s i) s (s.length : Int) i h (h.length : Int) (j + 1)) r → Ev (fun k => impl_firstLeak.l2 k h has (rd s i) s (s.length : Int) i h (h.length : Int) j) r := fun r hr => Ev_succ (by
            simp only [impl_firstLeak.l2]
            rw [w64 (x := j + 1) (by omega) (by omega)]
            refine Ev_pos (by omega) (Ev_pos h2 (Ev_pos (by omega) (Ev_bindc hb (Ev_bindc hg ?_))))
            rcases hc with ⟨c1, c2, c3, c4⟩ | ⟨c1, c2⟩
            · refine Ev_pos c1 (Ev_bindc c2 (Ev_pos c3 (Ev_pos (by rw [hok.1]; omega) (Ev_pos ((hok.2 _ c3 c4).2 ?_) hr))))
              by_cases hm : nextM (rd s i) (rd h j) ∈ s
              · exact hm
              · exact absurd ⟨c3, hm⟩ hleak
            · exact Ev_neg c1 hr)
          rcases hgo with ⟨g1, g2⟩ | ⟨a, b', g0, g1, g2⟩
          · exact .inl ⟨hs1 _ g1, hi1 _ g2⟩
          · exact .inr ⟨a, b', g0, hs1 _ g1, hi1 _ g2⟩
    have hnext := next_list hnum hh hhl
    have hs0 : ∀ r, Ev (fun k => spec_l25Leak.l1 k s h i (h.map (nextM (rd s i))) 0) r → Ev (fun k => spec_l25Leak.l0 k s h i) r := fun r hr => Ev_succ (by
      simp only [spec_l25Leak.l0]
      exact Ev_pos (by omega) (Ev_pos h0 (Ev.bind hnext hr)))
    have hi0 : ∀ r, Ev (fun k => impl_firstLeak.l2 k h has (rd s i) s (s.length : Int) i h (h.length : Int) 0) r → Ev (fun k => impl_firstLeak.l1 k h has s (s.length : Int) i) r := fun r hr => Ev_succ (by
      simp only [impl_firstLeak.l1]
      exact Ev_pos (by omega) (Ev_pos h0 (Ev_pos (by omega) hr)))
    rcases hinner h.length 0 (by omega) (by omega) with ⟨g1, g2⟩ | ⟨a, b, g0, g1, g2⟩
    · exact .inl ⟨hs0 _ g1, hi0 _ g2⟩
    · exact .inr ⟨a, b, g0, hs0 _ g1, hi0 _ g2⟩
theorem fill_has {s h : List Int} (hs : SafeOk s) (hsl : s.length ≤ 1000000) (d : Nat) : ∀ (has : List Bool) (i : Int), 0 ≤ i → i + d = s.length → has.length = 160 → (∀ v : Int, 0 ≤ v → v ≤ 159 → (rdOf false has v = true ↔ v ∈ s.take i.toNat)) → ∃ hf, HasOk s hf ∧ ∀ r, Ev (fun k => impl_firstLeak.l1 k h hf s (s.length : Int) 0) r → Ev (fun k => impl_firstLeak.l0 k s h has s (s.length : Int) i) r := by
  induction d with
  | zero =>
    intro has i h0 h1 hl hm
    refine ⟨has, ⟨hl, fun v h2 h3 => by rw [hm v h2 h3, show i.toNat = s.length by omega, List.take_length]⟩, fun r hr => Ev_succ (by
      simp only [impl_firstLeak.l0]
      exact Ev_neg (by omega) hr)⟩
  | succ d ih =>
    intro has i h0 h1 hl hm
    have hnum := (num_tells (rd s i)).2.2 (hs i h0 (by omega)).1
    obtain ⟨hf, h2, h3⟩ := ih (has.set (rd s i).toNat true) (i + 1) (by omega) (by omega) (by rw [List.length_set]; exact hl) (fun v h4 h5 => by
      rw [show (i + 1).toNat = i.toNat + 1 by omega, List.take_succ_eq_append_getElem (by omega), List.mem_append, List.mem_singleton, ← hm v h4 h5, ← rd_here h0 (by omega)]
      by_cases hv : v = rd s i
      · rw [hv]
        simp [rdOf, List.getD_eq_getElem?_getD, List.getElem?_set_self (show (rd s i).toNat < has.length by omega)]
      · have : rdOf false (has.set (rd s i).toNat true) v = rdOf false has v := by
          simp only [rdOf, List.getD_eq_getElem?_getD]
          rw [List.getElem?_set_ne (by omega)]
        rw [this]
        simp [hv])
    refine ⟨hf, h2, fun r hr => Ev_succ (by
      simp only [impl_firstLeak.l0]
      rw [w64 (by omega) (by omega)]
      exact Ev_pos (by omega) (Ev_pos h0 (Ev_pos (by omega) (Ev_pos hnum.1 (Ev_pos (by rw [hl]; omega) (h3 r hr))))))⟩
theorem leak_tells {s h : List Int} (hs : SafeOk s) (hh : HandOk h) (hsl : s.length ≤ 1000000) (hhl : h.length ≤ 1000000) : (Ev (fun k => spec_l25Leak.f k s h) (-1, -1) ∧ Ev (fun k => impl_firstLeak.f k s h) (0, 0, false)) ∨ (∃ a b, 0 ≤ a ∧ Ev (fun k => spec_l25Leak.f k s h) (a, b) ∧ Ev (fun k => impl_firstLeak.f k s h) (a, b, true)) := by
  obtain ⟨hf, hok, hfill⟩ := fill_has (h := h) hs hsl s.length (List.replicate 160 false) 0 (by omega) (by omega) (by simp) (fun v h0 h1 => by
    have : ∀ n : Nat, rdOf false (List.replicate n false) v = false := fun n => by
      simp only [rdOf, List.getD_eq_getElem?_getD, List.getElem?_replicate]
      split <;> rfl
    rw [this 160]
    simp)
  unfold spec_l25Leak.f impl_firstLeak.f
  rcases leak_both hs hh hsl hhl hok s.length 0 (by omega) (by omega) with ⟨g1, g2⟩ | ⟨a, b, g0, g1, g2⟩
  · exact .inl ⟨g1, Ev_pos (by omega) (hfill _ g2)⟩
  · exact .inr ⟨a, b, g0, g1, Ev_pos (by omega) (hfill _ g2)⟩

theorem core_FnExactFirstLeak (s h : List Int) (hsl : s.length ≤ 1000000) (hhl : h.length ≤ 1000000) : ∃ r1 r2 r3, Ev (fun k => spec_FirstLeak.f k s h) (r1, r2, r3) ∧ Ev (fun k => impl_FirstLeak.f k s h) (r1, r2, r3) := by
  have hc := l25Safe_ev s h hsl hhl
  have h1 := areSafe_ev s hsl
  have h2 := isHand_ev h hhl
  unfold spec_FirstLeak.f impl_FirstLeak.f
  by_cases hs : SafeOk s
  · by_cases hh : HandOk h
    · rw [if_pos ⟨safeB_iff.2 hs, handB_iff.2 hh⟩] at hc
      have hb := handB_iff.2 hh
      rcases leak_tells hs hh hsl hhl with ⟨g1, g2⟩ | ⟨a, b, g0, g1, g2⟩
      · refine ⟨0, 0, 4, Ev.bind hc (Ev_pos rfl (Ev.bind g1 (Ev_pos (by decide) (Ev.now _)))), Ev.bind h1 (Ev_pos (safeB_iff.2 hs) (Ev.bind h2 (Ev_succ ?_)))⟩
        rw [hb]
        simp only [impl_FirstLeak.j0, Bool.not_true, Bool.false_eq_true, if_false]
        exact Ev.bind g2 (Ev_neg (by simp) (Ev.now _))
      · refine ⟨a, b, 0, Ev.bind hc (Ev_pos rfl (Ev.bind g1 (Ev_neg (by simp only; omega) (Ev.now _)))), Ev.bind h1 (Ev_pos (safeB_iff.2 hs) (Ev.bind h2 (Ev_succ ?_)))⟩
        rw [hb]
        simp only [impl_FirstLeak.j0, Bool.not_true, Bool.false_eq_true, if_false]
        exact Ev.bind g2 (Ev_pos rfl (Ev.now _))
    · rw [if_neg (fun q => hh (handB_iff.1 q.2))] at hc
      refine ⟨0, 0, 1, Ev.bind hc (Ev_neg (by decide) (Ev.now _)), Ev.bind h1 (Ev_pos (safeB_iff.2 hs) (Ev.bind h2 (Ev_succ ?_)))⟩
      rw [handB_no hh]
      simp only [impl_FirstLeak.j0, Bool.not_false, if_true]
      exact Ev.now _
  · rw [if_neg (fun q => hs (safeB_iff.1 q.1))] at hc
    exact ⟨0, 0, 1, Ev.bind hc (Ev_neg (by decide) (Ev.now _)), Ev.bind h1 (Ev_neg (fun q => hs (safeB_iff.1 q)) (Ev_succ (by
      simp only [impl_FirstLeak.j0, if_true]
      exact Ev.now _)))⟩

/-- How much room to..S leaves behind a row of n elements. -/
def room (n : Nat) : Nat := if n % 6 = 5 then 0 else if n % 3 = 0 then 1 else n
theorem room_le (n : Nat) : room n ≤ n + 1 := by unfold room; split <;> (try split) <;> omega
theorem room_eq (n : Nat) (h : n ≤ 9223372036854775807) : laws_roomBehind.f (n : Int) = some (room n : Int) := by
  unfold laws_roomBehind.f room
  rw [Int.tmod_eq_emod_of_nonneg (by omega), Int.tmod_eq_emod_of_nonneg (by omega)]
  by_cases h1 : n % 6 = 5
  · rw [if_pos (by omega), if_pos h1]; rfl
  · rw [if_neg (by omega), if_neg h1]
    by_cases h2 : n % 3 = 0
    · rw [if_pos (by omega), if_pos h2]; rfl
    · rw [if_neg (by omega), if_neg h2]
theorem take_set_far {α : Type} (xs : List α) (y : α) {n m : Nat} (h : n ≤ m) : (xs.set m y).take n = xs.take n := by
  apply List.ext_getElem?
  intro i
  by_cases hi : i < n
  · rw [List.getElem?_take_of_lt hi, List.getElem?_take_of_lt hi, List.getElem?_set_ne (by omega)]
  · rw [List.getElem?_eq_none (by simp; omega), List.getElem?_eq_none (by simp; omega)]
theorem take_set_at {α : Type} (xs : List α) (y : α) {n : Nat} (h : n < xs.length) : (xs.set n y).take (n + 1) = xs.take n ++ [y] := by
  rw [List.take_succ_eq_append_getElem (by rw [List.length_set]; exact h), take_set_far xs y (Nat.le_refl n)]
  simp
theorem rooms {n : Nat} (h : n ≤ 1000000) : wrap64 ((n : Int) + (room n : Int)) = ((n + room n : Nat) : Int) := by
  have := room_le n
  rw [w64 (by omega) (by omega)]; omega

theorem eqInt64S_loop (xs : List Int) (hn : xs.length ≤ 9000000000000000000) (d : Nat) : ∀ (k : Nat) (i : Int), 0 ≤ i → i ≤ xs.length → ((xs.length : Int) - i).toNat ≤ d → d < k → laws_eqInt64S.l0 k xs xs i = some true := by
  induction d with
  | zero =>
    intro k i h0 h1 hd hk
    obtain ⟨k, rfl⟩ : ∃ m, k = m + 1 := ⟨k - 1, by omega⟩
    simp only [laws_eqInt64S.l0]
    rw [if_neg (by omega)]
  | succ d ih =>
    intro k i h0 h1 hd hk
    obtain ⟨k, rfl⟩ : ∃ m, k = m + 1 := ⟨k - 1, by omega⟩
    simp only [laws_eqInt64S.l0]
    by_cases hlt : i < (xs.length : Int)
    · rw [if_pos hlt, if_pos h0, if_pos hlt]
      simp only [if_true]
      rw [w64 (by omega) (by omega)]
      exact ih k (i + 1) (by omega) (by omega) (by omega) (by omega)
    · rw [if_neg hlt]
theorem eqInt64S_refl (xs : List Int) (hn : xs.length ≤ 9000000000000000000) : Ev (fun k => laws_eqInt64S.f k xs xs) true :=
  ⟨xs.length + 1, fun k hk => by
    simp only [laws_eqInt64S.f, if_true]
    exact eqInt64S_loop xs hn xs.length k 0 (by omega) (by omega) (by omega) (by omega)⟩

def convInt64S (x : Int) : Int := x
theorem toInt64S_l1 (l0 : List Int) (N : Nat) (hN : N ≤ 4000000) (hn : l0.length ≤ N) (d : Nat) : ∀ (k : Nat) (x5 : List Int) (i : Int), x5.length = N → (l0.length : Int) ≤ i → i ≤ N → ((N : Int) - i).toNat ≤ d → d < k →
    ∃ ext, laws_toInt64SX.l1 k l0 x5 i = some ext ∧ ext.length = N ∧ ext.take l0.length = x5.take l0.length := by
  induction d with
  | zero =>
    intro k x5 i h1 h2 h3 hd hk
    obtain ⟨k, rfl⟩ : ∃ m, k = m + 1 := ⟨k - 1, by omega⟩
    refine ⟨x5, ?_, h1, rfl⟩
    simp only [laws_toInt64SX.l1]
    rw [if_neg (by omega), if_pos (by omega), if_pos (by omega)]
  | succ d ih =>
    intro k x5 i h1 h2 h3 hd hk
    obtain ⟨k, rfl⟩ : ∃ m, k = m + 1 := ⟨k - 1, by omega⟩
    simp only [laws_toInt64SX.l1]
    by_cases hlt : i < (x5.length : Int)
    · rw [if_pos hlt]
      skip
      rw [if_pos (show 0 ≤ i by omega), w64 (by omega) (by omega)]
      refine (ih k _ (i + 1) (by rw [List.length_set]; exact h1) (by omega) (by omega) (by omega) (by omega)).imp fun ext h => ⟨h.1, h.2.1, h.2.2.trans ?_⟩
      exact take_set_far _ _ (by omega)
    · rw [if_neg hlt, if_pos (by omega), if_pos (by omega)]
      exact ⟨x5, rfl, h1, rfl⟩
theorem toInt64S_l0 (l0 : List Int) (N : Nat) (hN : N ≤ 4000000) (hn : l0.length ≤ N) (d : Nat) : ∀ (k : Nat) (x5 : List Int) (i : Int), x5.length = N → 0 ≤ i → i ≤ l0.length → ((l0.length : Int) - i).toNat ≤ d → d + N + 1 < k → x5.take i.toNat = (l0.take i.toNat).map convInt64S →
    ∃ ext, laws_toInt64SX.l0 k l0 x5 i = some ext ∧ ext.length = N ∧ ext.take l0.length = l0.map convInt64S := by
  induction d with
  | zero =>
    intro k x5 i h1 h2 h3 hd hk hx
    obtain ⟨k, rfl⟩ : ∃ m, k = m + 1 := ⟨k - 1, by omega⟩
    simp only [laws_toInt64SX.l0]
    rw [if_neg (by omega)]
    obtain ⟨ext, h4, h5, h6⟩ := toInt64S_l1 l0 N hN hn N k x5 (l0.length : Int) h1 (by omega) (by omega) (by omega) (by omega)
    refine ⟨ext, h4, h5, h6.trans ?_⟩
    have : i.toNat = l0.length := by omega
    rw [this, List.take_length] at hx
    exact hx
  | succ d ih =>
    intro k x5 i h1 h2 h3 hd hk hx
    obtain ⟨k, rfl⟩ : ∃ m, k = m + 1 := ⟨k - 1, by omega⟩
    simp only [laws_toInt64SX.l0]
    by_cases hlt : i < (l0.length : Int)
    · rw [if_pos hlt, if_pos h2]
      skip
      rw [if_pos (show i < (x5.length : Int) by omega), w64 (by omega) (by omega)]
      refine ih k _ (i + 1) (by rw [List.length_set]; exact h1) (by omega) (by omega) (by omega) (by omega) ?_
      have e : (i + 1).toNat = i.toNat + 1 := by omega
      rw [e, take_set_at _ _ (show i.toNat < x5.length by omega), hx, List.take_succ_eq_append_getElem (show i.toNat < l0.length by omega), List.map_append]
      have hr : rd l0 i = l0[i.toNat]'(by omega) := by
        simp [rd, List.getD_eq_getElem?_getD, List.getElem?_eq_getElem (show i.toNat < l0.length by omega)]
      simp [hr, convInt64S]
    · rw [if_neg hlt]
      obtain ⟨ext, h4, h5, h6⟩ := toInt64S_l1 l0 N hN hn N k x5 (l0.length : Int) h1 (by omega) (by omega) (by omega) (by omega)
      refine ⟨ext, h4, h5, h6.trans ?_⟩
      have : i.toNat = l0.length := by omega
      rw [this, List.take_length] at hx
      exact hx
theorem toInt64S_false (l0 : List Int) (h : l0.length ≤ 1000000) : ∃ ext, Ev (fun k => laws_toInt64SX.f k l0 false) ext ∧ ext.length = l0.length + room l0.length ∧ ext.take l0.length = l0.map convInt64S := by
  have hr := room_le l0.length
  obtain ⟨k0, hk0⟩ : ∃ k0 : Nat, l0.length + (l0.length + room l0.length) + 1 < k0 := ⟨_, Nat.lt_succ_self _⟩
  obtain ⟨ext, h1, h2, h3⟩ := toInt64S_l0 l0 (l0.length + room l0.length) (by omega) (by omega) l0.length k0 (List.replicate (l0.length + room l0.length) 0) 0 (by simp) (by omega) (by omega) (by omega) hk0 (by simp)
  have hm := laws_toInt64SX.mono l0 false
  refine ⟨ext, Ev.of (k := k0 + 1) hm ?_, h2, h3⟩
  have e : wrap64 ((l0.length : Int) + (room l0.length : Int)) = ((l0.length + room l0.length : Nat) : Int) := by
    rw [w64 (by omega) (by omega)]; omega
  simp only [laws_toInt64SX.f, laws_toInt64SX.j0, Bool.false_eq_true, if_false]
  rw [room_eq l0.length (by omega), Option.bind_some, e, if_pos (by omega), Int.toNat_natCast, if_pos (by omega)]
  exact h1
theorem toInt64S_true (l0 : List Int) (h : l0.length ≤ 1000000) : ∃ extb, Ev (fun k => laws_toInt64SX.f k l0 true) extb ∧ l0.length ≤ extb.length ∧ extb.take l0.length = l0.map convInt64S ∧ (extb = [] → l0.length = 0) := by
  by_cases hz : l0.length = 0
  · have : l0 = [] := List.eq_nil_of_length_eq_zero hz
    subst this
    refine ⟨[], ⟨1, fun k hk => ?_⟩, by simp, by simp, fun _ => rfl⟩
    obtain ⟨k, rfl⟩ : ∃ m, k = m + 1 := ⟨k - 1, by omega⟩
    simp [laws_toInt64SX.f, laws_toInt64SX.j0]
  · obtain ⟨ext, h1, h2, h3⟩ := toInt64S_false l0 h
    refine ⟨ext, Ev.congr (fun k => ?_) h1, by omega, h3, fun e => by rw [e] at h2; simp at h2; omega⟩
    have e : ((l0.length : Int) == 0) = false := by simpa using hz
    simp only [laws_toInt64SX.f, e, Bool.false_eq_true, if_false, if_true]

theorem FnExactFirstLeak : laws_FnExactFirstLeak.Pure := by
  intro l0 l1 hnl0 hnl1
  have hww_ : wrap64 ((l0.length : Int) + (l1.length : Int)) = (l0.length : Int) + (l1.length : Int) := w64 (by omega) (by omega)
  by_cases hg_ : (l0.length : Int) + (l1.length : Int) ≤ 1000000
  case neg =>
    exact .inl (by omega)
  refine .inr (?_)
  have hb0 : l0.length ≤ 1000000 := by omega
  have hm0 := room_le l0.length
  obtain ⟨ext0, e0, el0, et0⟩ := toInt64S_false l0 hb0
  obtain ⟨extb0, b0, bl0, bt0, bn0⟩ := toInt64S_true l0 hb0
  have q0 := eqInt64S_refl ext0 (by omega)
  have hb1 : l1.length ≤ 1000000 := by omega
  have hm1 := room_le l1.length
  obtain ⟨ext1, e1, el1, et1⟩ := toInt64S_false l1 hb1
  obtain ⟨extb1, b1, bl1, bt1, bn1⟩ := toInt64S_true l1 hb1
  have q1 := eqInt64S_refl ext1 (by omega)
  obtain ⟨z_r1, z_r2, z_r3, s1, s2⟩ := core_FnExactFirstLeak (l0.map convInt64S) (l1.map convInt64S) (by rw [List.length_map]; exact hb0) (by rw [List.length_map]; exact hb1) 
  obtain ⟨K0_, v_e0⟩ := e0
  obtain ⟨K1_, v_b0⟩ := b0
  obtain ⟨K2_, v_q0⟩ := q0
  obtain ⟨K3_, v_e1⟩ := e1
  obtain ⟨K4_, v_b1⟩ := b1
  obtain ⟨K5_, v_q1⟩ := q1
  obtain ⟨K6_, v_s1⟩ := s1
  obtain ⟨K7_, v_s2⟩ := s2
  refine ⟨K0_ + K1_ + K2_ + K3_ + K4_ + K5_ + K6_ + K7_, (l0.map convInt64S), ext0, extb0, (room l0.length : Int), (l1.map convInt64S), ext1, extb1, (room l1.length : Int), z_r1, z_r2, z_r3, ?_⟩
  exact { hto0 := v_e0 (K0_ + K1_ + K2_ + K3_ + K4_ + K5_ + K6_ + K7_) (by omega), htob0 := v_b0 (K0_ + K1_ + K2_ + K3_ + K4_ + K5_ + K6_ + K7_) (by omega), hxl0 := List.length_map .., hnb0 := bn0, hne0 := fun h => by rw [h] at el0; simp at el0; unfold room at el0; split at el0 <;> (try split at el0) <;> omega, hxe0 := by rw [List.length_map]; exact et0.symm, hxb0 := by rw [List.length_map]; exact bt0.symm, hle0 := by rw [List.length_map]; omega, hlb0 := by rw [List.length_map]; exact bl0, hrm0 := by rw [List.length_map]; exact room_eq _ (by omega), hj0 := by rw [List.length_map, el0]; exact rooms hb0, heqx0 := v_q0 (K0_ + K1_ + K2_ + K3_ + K4_ + K5_ + K6_ + K7_) (by omega), hto1 := v_e1 (K0_ + K1_ + K2_ + K3_ + K4_ + K5_ + K6_ + K7_) (by omega), htob1 := v_b1 (K0_ + K1_ + K2_ + K3_ + K4_ + K5_ + K6_ + K7_) (by omega), hxl1 := List.length_map .., hnb1 := bn1, hne1 := fun h => by rw [h] at el1; simp at el1; unfold room at el1; split at el1 <;> (try split at el1) <;> omega, hxe1 := by rw [List.length_map]; exact et1.symm, hxb1 := by rw [List.length_map]; exact bt1.symm, hle1 := by rw [List.length_map]; omega, hlb1 := by rw [List.length_map]; exact bl1, hrm1 := by rw [List.length_map]; exact room_eq _ (by omega), hj1 := by rw [List.length_map, el1]; exact rooms hb1, heqx1 := v_q1 (K0_ + K1_ + K2_ + K3_ + K4_ + K5_ + K6_ + K7_) (by omega), hg_l0_l1 := by omega, hfspec := v_s1 (K0_ + K1_ + K2_ + K3_ + K4_ + K5_ + K6_ + K7_) (by omega), hfimpl := v_s2 (K0_ + K1_ + K2_ + K3_ + K4_ + K5_ + K6_ + K7_) (by omega) }

end Go.Proofs.Ythieppjmjgijfaa.Pure
