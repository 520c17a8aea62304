/- The statement over numbers and lists for FnProofs: the reference and the program answer alike for all arguments. -/
import Derived.Test.YthieppjmjgijfaaQFnProofsx23
set_option linter.unusedVariables false
set_option linter.unusedSimpArgs false
namespace Go.Proofs.Ythieppjmjgijfaa.Pure
open Go.RowKit Go.Proofs.Ythieppjmjgijfaa.PFnProofs Go.Proofs.YthieppjmjgijfaaW.PrintWords Go.Proofs.YthieppjmjgijfaaW.PrintLast Go.Proofs.YthieppjmjgijfaaW.PrintMore


theorem w64 {x : Int} (h0 : -9223372036854775808 ≤ x) (h1 : x ≤ 9223372036854775807) : wrap64 x = x := by unfold wrap64; omega
theorem Ev_ite {α : Type} {c : Prop} [Decidable c] {g h : Nat → Option α} {r : α} (h1 : c → Ev g r) (h2 : ¬ c → Ev h r) : Ev (fun k => if c then g k else h k) r := by
  by_cases hc : c
  · obtain ⟨K, hK⟩ := h1 hc
    exact ⟨K, fun k hk => (if_pos hc).trans (hK k hk)⟩
  · obtain ⟨K, hK⟩ := h2 hc
    exact ⟨K, fun k hk => (if_neg hc).trans (hK k hk)⟩
theorem Ev_pos {α : Type} {c : Prop} [Decidable c] {g h : Nat → Option α} {r : α} (hc : c) (h1 : Ev g r) : Ev (fun k => if c then g k else h k) r := Ev_ite (fun _ => h1) (fun n => absurd hc n)
theorem Ev_neg {α : Type} {c : Prop} [Decidable c] {g h : Nat → Option α} {r : α} (hc : ¬ c) (h1 : Ev h r) : Ev (fun k => if c then g k else h k) r := Ev_ite (fun n => absurd n hc) (fun _ => h1)
theorem Ev_some {α : Type} {r q : α} (h : r = q) : Ev (fun _ => some r) q := h ▸ Ev.now r
theorem Ev_eq {α : Type} {g : Nat → Option α} {r q : α} (h : r = q) (k : Ev g r) : Ev g q := h ▸ k
theorem Ev_const {α : Type} {o : Option α} {r : α} (h : o = some r) : Ev (fun _ => o) r := by subst h; exact Ev.now r
theorem Ev_bindc {α β : Type} {o : Option α} {f : Nat → α → Option β} {a : α} {r : β} (h : o = some a) (k : Ev (fun n => f n a) r) : Ev (fun n => o.bind (f n)) r := by subst h; exact k
theorem Ev_unique {α : Type} {g : Nat → Option α} {r q : α} (h : Ev g r) (k : Ev g q) : r = q := by
  obtain ⟨K, h⟩ := h
  obtain ⟨L, k⟩ := k
  have h1 := h (max K L) (by omega)
  have h2 := k (max K L) (by omega)
  rw [h1] at h2
  exact Option.some.inj h2
theorem lit64 {x : Int} (h : (Lit.int .i64 x).wf = true) : -9223372036854775808 ≤ x ∧ x ≤ 9223372036854775807 := by
  have h := h
  simp [Lit.wf, IntKind.min, IntKind.max, IntKind.bits, IntKind.signed] at h
  omega
theorem mn_eq (a b : Int) : mn a b = min a b := by unfold mn; omega
theorem mx_eq (a b : Int) : mx a b = max a b := by unfold mx; omega

theorem within_eq (a lo hi : Int) : impl_within.f a lo hi = some (decide (lo ≤ a ∧ a ≤ hi)) := by
  unfold impl_within.f
  by_cases h : lo ≤ a <;> simp [h]

theorem l01In_eq (a lo hi : Int) : spec_l01In.f a lo hi = some (decide (lo ≤ a ∧ a ≤ hi)) := by
  unfold spec_l01In.f
  by_cases h : a ≥ lo
  · have : lo ≤ a := h
    simp [this]
  · have : ¬ lo ≤ a := h
    simp [this]

/-- A loop over the numbers 0 to n - 1: d rounds from i on. -/
def forM {S ρ : Type} (step : S → Int → ρ ⊕ S) (out : S → ρ) : Nat → S → Int → ρ
  | 0, s, _ => out s
  | d + 1, s, i => match step s i with
    | .inl r => r
    | .inr s' => forM step out d s' (i + 1)
theorem Ev_for {S ρ : Type} {F : Nat → S → Int → Option ρ} {step : S → Int → ρ ⊕ S} {out : S → ρ} {n : Nat} (Inv : S → Int → Prop)
    (hend : ∀ s, Inv s n → ∃ K, ∀ k, K ≤ k → F k s n = some (out s))
    (hstep : ∀ (s : S) (i : Int), 0 ≤ i → i < n → Inv s i → (∃ r, step s i = .inl r ∧ ∃ K, ∀ k, K ≤ k → F k s i = some r) ∨ (∃ s', step s i = .inr s' ∧ Inv s' (i + 1) ∧ ∃ K, ∀ k, K ≤ k → F (k + 1) s i = F k s' (i + 1))) :
    ∀ (d : Nat) (s : S) (i : Int), 0 ≤ i → i + d = n → Inv s i → Ev (fun k => F k s i) (forM step out d s i) := by
  intro d
  induction d with
  | zero =>
    intro s i h0 h1 hI
    obtain rfl : i = n := by omega
    exact hend s hI
  | succ d ih =>
    intro s i h0 h1 hI
    rcases hstep s i h0 (by omega) hI with ⟨r, hr, hK⟩ | ⟨s', hs, hI', K, hK⟩
    · simp only [forM, hr]
      exact hK
    · simp only [forM, hs]
      obtain ⟨K', h⟩ := ih s' (i + 1) (by omega) (by omega) hI'
      refine ⟨K + K' + 1, fun k hk => ?_⟩
      obtain ⟨k, rfl⟩ : ∃ m, k = m + 1 := ⟨k - 1, by omega⟩
      exact (hK k (by omega)).trans (h k (by omega))
/-- What holds at the end of a loop. -/
theorem forM_ind {S ρ : Type} {step : S → Int → ρ ⊕ S} {out : S → ρ} {n : Nat} (Inv : S → Int → Prop) (Post : ρ → Prop) (hend : ∀ s, Inv s n → Post (out s))
    (hstep : ∀ (s : S) (i : Int), 0 ≤ i → i < n → Inv s i → (∀ r, step s i = .inl r → Post r) ∧ ∀ s', step s i = .inr s' → Inv s' (i + 1)) : ∀ (d : Nat) (s : S) (i : Int), 0 ≤ i → i + d = n → Inv s i → Post (forM step out d s i) := by
  intro d
  induction d with
  | zero =>
    intro s i h0 h1 hI
    obtain rfl : i = n := by omega
    exact hend s hI
  | succ d ih =>
    intro s i h0 h1 hI
    obtain ⟨h2, h3⟩ := hstep s i h0 (by omega) hI
    simp only [forM]
    cases hs : step s i with
    | inl r => exact h2 r hs
    | inr s' => exact ih s' (i + 1) (by omega) (by omega) (h3 s' hs)

theorem Ev_succ {α : Type} {g : Nat → Option α} {r : α} (h : Ev (fun k => g (k + 1)) r) : Ev g r := Ev.step (fun _ => rfl) h
theorem Ev_for2 {S ρ : Type} {F : Nat → S → Int → Option ρ} {step : S → Int → ρ ⊕ S} {out : S → ρ} {n : Nat} (Inv : S → Int → Prop)
    (hend : ∀ s, Inv s n → Ev (fun k => F k s n) (out s))
    (hstep : ∀ (s : S) (i : Int), 0 ≤ i → i < n → Inv s i → (∃ r, step s i = .inl r ∧ Ev (fun k => F k s i) r) ∨ (∃ s', step s i = .inr s' ∧ Inv s' (i + 1) ∧ ∀ r, Ev (fun k => F k s' (i + 1)) r → Ev (fun k => F k s i) r)) :
    ∀ (d : Nat) (s : S) (i : Int), 0 ≤ i → i + d = n → Inv s i → Ev (fun k => F k s i) (forM step out d s i) := by
  intro d
  induction d with
  | zero =>
    intro s i h0 h1 hI
    obtain rfl : i = n := by omega
    exact hend s hI
  | succ d ih =>
    intro s i h0 h1 hI
    rcases hstep s i h0 (by omega) hI with ⟨r, hr, hK⟩ | ⟨s', hs, hI', hK⟩
    · simp only [forM, hr]
      exact hK
    · simp only [forM, hs]
      exact hK _ (ih s' (i + 1) (by omega) (by omega) hI')
/-- A loop over a list that only gathers: a fold. -/
theorem forM_fold {S ρ α : Type} (xs : List α) (rdx : Int → α) (hrd : ∀ (j : Nat) (h : j < xs.length), rdx j = xs[j]) (upd : S → α → S) (out : S → ρ) (d : Nat) : ∀ (s : S) (i : Nat), i + d = xs.length →
    forM (ρ := ρ) (fun s i => .inr (upd s (rdx i))) out d s i = out ((xs.drop i).foldl upd s) := by
  induction d with
  | zero =>
    intro s i hi
    rw [List.drop_eq_nil_of_le (by omega)]
    rfl
  | succ d ih =>
    intro s i hi
    rw [List.drop_eq_getElem_cons (show i < xs.length by omega)]
    simp only [forM, List.foldl_cons]
    have := ih (upd s (rdx i)) (i + 1) (by omega)
    rw [← hrd i (by omega)]
    exact this
theorem forM_fold0 {S ρ α : Type} (xs : List α) (rdx : Int → α) (hrd : ∀ (j : Nat) (h : j < xs.length), rdx j = xs[j]) (upd : S → α → S) (out : S → ρ) (s : S) :
    forM (ρ := ρ) (fun s i => .inr (upd s (rdx i))) out xs.length s 0 = out (xs.foldl upd s) := by
  have := forM_fold xs rdx hrd upd out xs.length s 0 (by omega)
  rw [List.drop_zero] at this
  exact this
/-- A loop that looks at each place, and stops at the first that fails. -/
theorem forM_all {p : Int → Bool} {b : Bool} {n : Nat} (d : Nat) : ∀ i : Int, 0 ≤ i → i + d = n → (forM (S := Unit) (ρ := Bool) (fun _ i => if p i = true then .inr () else .inl false) (fun _ => b) d () i = true ↔ b = true ∧ ∀ j : Int, i ≤ j → j < n → p j = true) := by
  induction d with
  | zero =>
    intro i h0 hi
    simp only [forM]
    exact ⟨fun h => ⟨h, fun j h1 h2 => by omega⟩, fun h => h.1⟩
  | succ d ih =>
    intro i h0 hi
    simp only [forM]
    by_cases hp : p i = true
    · rw [if_pos hp]
      refine (ih (i + 1) (by omega) (by omega)).trans ⟨fun h => ⟨h.1, fun j h1 h2 => ?_⟩, fun h => ⟨h.1, fun j h1 h2 => h.2 j (by omega) h2⟩⟩
      by_cases hj : j = i
      · rw [hj]; exact hp
      · exact h.2 j (by omega) h2
    · rw [if_neg hp]
      exact ⟨(fun h => by cases h), fun h => absurd (h.2 i (Int.le_refl _) (by omega)) hp⟩

/-- A loop that never stops before its end. -/
def foldU {S : Type} (upd : S → Int → S) : Nat → S → Int → S
  | 0, s, _ => s
  | d + 1, s, i => foldU upd d (upd s i) (i + 1)
theorem foldU_ind {S : Type} {upd : S → Int → S} {n : Int} (Inv : S → Int → Prop) (hstep : ∀ (s : S) (i : Int), 0 ≤ i → i < n → Inv s i → Inv (upd s i) (i + 1)) : ∀ (d : Nat) (s : S) (i : Int), 0 ≤ i → i + d = n → Inv s i → Inv (foldU upd d s i) n := by
  intro d
  induction d with
  | zero => intro s i h0 h1 hI; obtain rfl : i = n := by omega
            exact hI
  | succ d ih => intro s i h0 h1 hI; exact ih _ _ (by omega) (by omega) (hstep s i h0 (by omega) hI)
theorem Ev_forK {S τ : Type} {F : Nat → S → Int → Option τ} {upd : S → Int → S} {n : Int} {r : τ} (Inv : S → Int → Prop)
    (hstep : ∀ (s : S) (i : Int), 0 ≤ i → i < n → Inv s i → Inv (upd s i) (i + 1) ∧ (Ev (fun k => F k (upd s i) (i + 1)) r → Ev (fun k => F k s i) r)) :
    ∀ (d : Nat) (s : S) (i : Int), 0 ≤ i → i + d = n → Inv s i → (Inv (foldU upd d s i) n → Ev (fun k => F k (foldU upd d s i) n) r) → Ev (fun k => F k s i) r := by
  intro d
  induction d with
  | zero => intro s i h0 h1 hI h; obtain rfl : i = n := by omega
            exact h hI
  | succ d ih =>
    intro s i h0 h1 hI h
    obtain ⟨h2, h3⟩ := hstep s i h0 (by omega) hI
    exact h3 (ih _ _ (by omega) (by omega) h2 h)

theorem Ev_allK {τ : Type} {F : Nat → Int → Option τ} {p : Int → Prop} {n : Int} {r bad : τ}
    (hstep : ∀ i : Int, 0 ≤ i → i < n → (p i → Ev (fun k => F k (i + 1)) r → Ev (fun k => F k i) r) ∧ (¬ p i → r = bad → Ev (fun k => F k i) r)) :
    ∀ (d : Nat) (i : Int), 0 ≤ i → i + d = n → (¬ (∀ j : Int, i ≤ j → j < n → p j) → r = bad) → ((∀ j : Int, i ≤ j → j < n → p j) → Ev (fun k => F k n) r) → Ev (fun k => F k i) r := by
  intro d
  induction d with
  | zero => intro i h0 h1 _ h; obtain rfl : i = n := by omega
            exact h (fun j h2 h3 => by omega)
  | succ d ih =>
    intro i h0 h1 hb hg
    obtain ⟨h2, h3⟩ := hstep i h0 (by omega)
    by_cases hp : p i
    · refine h2 hp (ih (i + 1) (by omega) (by omega) (fun h => hb (fun q => h (fun j h4 h5 => q j (by omega) h5))) (fun h => hg (fun j h4 h5 => ?_)))
      by_cases hj : j = i
      · rw [hj]; exact hp
      · exact h j (by omega) h5
    · exact h3 hp (hb (fun q => hp (q i (Int.le_refl _) (by omega))))

/-- The controller with a number, after an input: whether it is allowed, and the number then (-1 if not). -/
def stepS (n i : Int) : Option (Bool × Int) := (spec_l25With.f n).bind fun b => (spec_l21Give.f b.1 b.2.1 b.2.2.1 b.2.2.2.1 b.2.2.2.2.1 b.2.2.2.2.2 i).bind fun g => if g.2.2.2.2.2.2 = true then (spec_l25Number.f 10 g.1 g.2.1 g.2.2.1 g.2.2.2.1 g.2.2.2.2.1 g.2.2.2.2.2.1).bind fun t => some (true, t) else some (false, -1)
def stepI (n i : Int) : Option (Bool × Int) := (impl_controllerWith.f n).bind fun b => (impl_giveInput.f b.1 b.2.1 b.2.2.1 b.2.2.2.1 b.2.2.2.2.1 b.2.2.2.2.2 i).bind fun g => if g.2.2.2.2.2.2 = 0 then (impl_numberOf.f g.1 g.2.1 g.2.2.1 g.2.2.2.1 g.2.2.2.2.1 g.2.2.2.2.2.1).bind fun t => some (true, t) else some (false, -1)
theorem step_all : ∀ (n : Fin 160) (i : Fin 10), stepS (n.val : Int) (i.val : Int) = stepI (n.val : Int) (i.val : Int) ∧ (match stepS (n.val : Int) (i.val : Int) with | some (ok, v) => (if ok then decide (0 ≤ v ∧ v ≤ 159) else v == -1) | none => false) = true := by decide +kernel
def nextM (n i : Int) : Int := ((stepS n i).getD (false, -1)).2
theorem step_tells {n i : Int} (hn : 0 ≤ n ∧ n ≤ 159) (hi : 0 ≤ i ∧ i ≤ 9) : ∃ ok v, stepS n i = some (ok, v) ∧ stepI n i = some (ok, v) ∧ nextM n i = v ∧ (ok = true → 0 ≤ v ∧ v ≤ 159) ∧ (ok = false → v = -1) := by
  obtain ⟨h1, h2⟩ := step_all ⟨n.toNat, by omega⟩ ⟨i.toNat, by omega⟩
  simp only at h1 h2
  rw [show ((n.toNat : Nat) : Int) = n by omega, show ((i.toNat : Nat) : Int) = i by omega] at h1 h2
  cases hs : stepS n i with
  | none => rw [hs] at h2; exact absurd h2 (by simp)
  | some p =>
    obtain ⟨ok, v⟩ := p
    rw [hs] at h2
    refine ⟨ok, v, rfl, by rw [← h1, hs], by unfold nextM; rw [hs]; rfl, fun h => ?_, fun h => ?_⟩
    · rw [h] at h2; simpa using h2
    · rw [h] at h2; simpa using h2
theorem spec_step {n i : Int} (hn : 0 ≤ n ∧ n ≤ 159) (hi : 0 ≤ i ∧ i ≤ 9) : ∃ b g, spec_l25With.f n = some b ∧ spec_l21Give.f b.1 b.2.1 b.2.2.1 b.2.2.2.1 b.2.2.2.2.1 b.2.2.2.2.2 i = some g ∧ ((g.2.2.2.2.2.2 = true ∧ Ev (fun k => spec_l25Number.f k g.1 g.2.1 g.2.2.1 g.2.2.2.1 g.2.2.2.2.1 g.2.2.2.2.2.1) (nextM n i)) ∨ (¬ g.2.2.2.2.2.2 = true ∧ nextM n i = -1)) := by
  obtain ⟨ok, v, h1, _, h3, h4, h5⟩ := step_tells hn hi
  unfold stepS at h1
  obtain ⟨b, hb, h1⟩ := Option.bind_eq_some_iff.1 h1
  obtain ⟨g, hg, h1⟩ := Option.bind_eq_some_iff.1 h1
  refine ⟨b, g, hb, hg, ?_⟩
  by_cases hc : g.2.2.2.2.2.2 = true
  · rw [if_pos hc] at h1
    obtain ⟨t, ht, h1⟩ := Option.bind_eq_some_iff.1 h1
    obtain ⟨rfl, rfl⟩ := Prod.mk.inj (Option.some.inj h1)
    exact .inl ⟨hc, by rw [h3]; exact Ev.of (k := 10) (spec_l25Number.mono _ _ _ _ _ _) ht⟩
  · rw [if_neg hc] at h1
    obtain ⟨rfl, rfl⟩ := Prod.mk.inj (Option.some.inj h1)
    exact .inr ⟨hc, h3⟩
theorem impl_step {n i : Int} (hn : 0 ≤ n ∧ n ≤ 159) (hi : 0 ≤ i ∧ i ≤ 9) : ∃ b g, impl_controllerWith.f n = some b ∧ impl_giveInput.f b.1 b.2.1 b.2.2.1 b.2.2.2.1 b.2.2.2.2.1 b.2.2.2.2.2 i = some g ∧ ((g.2.2.2.2.2.2 = 0 ∧ impl_numberOf.f g.1 g.2.1 g.2.2.1 g.2.2.2.1 g.2.2.2.2.1 g.2.2.2.2.2.1 = some (nextM n i) ∧ 0 ≤ nextM n i ∧ nextM n i ≤ 159) ∨ (¬ g.2.2.2.2.2.2 = 0 ∧ nextM n i = -1)) := by
  obtain ⟨ok, v, _, h1, h3, h4, h5⟩ := step_tells hn hi
  unfold stepI at h1
  obtain ⟨b, hb, h1⟩ := Option.bind_eq_some_iff.1 h1
  obtain ⟨g, hg, h1⟩ := Option.bind_eq_some_iff.1 h1
  refine ⟨b, g, hb, hg, ?_⟩
  by_cases hc : g.2.2.2.2.2.2 = 0
  · rw [if_pos hc] at h1
    obtain ⟨t, ht, h1⟩ := Option.bind_eq_some_iff.1 h1
    obtain ⟨rfl, rfl⟩ := Prod.mk.inj (Option.some.inj h1)
    exact .inl ⟨hc, by rw [h3]; exact ht, by rw [h3]; exact h4 rfl⟩
  · rw [if_neg hc] at h1
    obtain ⟨rfl, rfl⟩ := Prod.mk.inj (Option.some.inj h1)
    exact .inr ⟨hc, h3⟩

def numB (n : Int) : Bool := (impl_isNumber.f n).getD false
theorem num_all : ∀ n : Fin 160, spec_l25Is.f (n.val : Int) = impl_isNumber.f (n.val : Int) ∧ (impl_isNumber.f (n.val : Int)).isSome = true := by decide +kernel
theorem num_tells (n : Int) : spec_l25Is.f n = some (numB n) ∧ impl_isNumber.f n = some (numB n) ∧ (numB n = true → 0 ≤ n ∧ n ≤ 159) := by
  by_cases h : 0 ≤ n ∧ n ≤ 159
  · obtain ⟨h1, h2⟩ := num_all ⟨n.toNat, by omega⟩
    simp only at h1 h2
    rw [show ((n.toNat : Nat) : Int) = n by omega] at h1 h2
    obtain ⟨b, hb⟩ := Option.isSome_iff_exists.1 h2
    have e : numB n = b := by unfold numB; rw [hb]; rfl
    rw [e]
    exact ⟨h1.trans hb, hb, fun _ => h⟩
  · have hi : impl_isNumber.f n = some false := by
      unfold impl_isNumber.f
      rw [within_eq, decide_eq_false h]
      rfl
    have hs : spec_l25Is.f n = some false := by
      unfold spec_l25Is.f
      rw [l01In_eq, decide_eq_false h]
      rfl
    have e : numB n = false := by unfold numB; rw [hi]; rfl
    rw [e]
    exact ⟨hs, hi, fun q => absurd q (by decide)⟩

def HandAt (h : List Int) (i : Int) : Prop := (0 ≤ rd h i ∧ rd h i ≤ 9) ∧ (0 < i → rd h (i - 1) < rd h i)
def HandOk (h : List Int) : Prop := ∀ i : Int, 0 ≤ i → i < h.length → HandAt h i
noncomputable def handB (h : List Int) : Bool := open Classical in decide (HandOk h)
theorem handB_iff {h : List Int} : handB h = true ↔ HandOk h := by unfold handB; exact @decide_eq_true_iff _ (Classical.propDecidable _)
theorem handB_no {s : List Int} (h : ¬ HandOk s) : handB s = false := by rw [Bool.eq_false_iff]; exact fun q => h (handB_iff.1 q)
theorem rises_ev (s : List Int) (hn : s.length ≤ 1000000) : Ev (fun k => spec_l01Rises.f k s 10) (handB s) := by
  unfold spec_l01Rises.f
  have w9 : wrap64 (10 - 1) = 9 := by rw [w64 (by omega) (by omega)]; omega
  exact Ev_allK (F := fun k i => spec_l01Rises.l0 k s 10 i) (p := HandAt s) (n := s.length) (bad := false) (fun i h0 h1 => ⟨fun hp hr => Ev_succ (by
    simp only [spec_l01Rises.l0, w9, l01In_eq, Option.bind_some, decide_eq_true_eq]
    rw [w64 (x := i + 1) (by omega) (by omega), w64 (x := i - 1) (by omega) (by omega)]
    exact Ev_pos h1 (Ev_pos h0 (Ev_pos hp.1 (Ev_ite (fun hi => Ev_pos (by omega) (Ev_pos (by omega) (Ev_neg (by have := hp.2 hi; omega) hr))) (fun _ => hr))))), fun hp hr => Ev_succ (by
    simp only [spec_l01Rises.l0, w9, l01In_eq, Option.bind_some, decide_eq_true_eq]
    rw [w64 (x := i - 1) (by omega) (by omega)]
    exact Ev_pos h1 (Ev_pos h0 (Ev_ite (fun ha => Ev_ite (fun hi => Ev_pos (by omega) (Ev_pos (by omega) (Ev_ite (fun _ => Ev_some hr.symm) (fun hb => absurd ⟨ha, fun _ => by omega⟩ hp)))) (fun hi => absurd ⟨ha, fun q => absurd q hi⟩ hp)) (fun _ => Ev_some hr.symm))))⟩) s.length 0 (by omega) (by omega) (fun hno => handB_no hno) (fun hv => Ev_succ (by
    simp only [spec_l01Rises.l0]
    exact Ev_neg (by omega) (Ev_some (handB_iff.2 hv).symm)))
theorem isHand_ev (s : List Int) (hn : s.length ≤ 1000000) : Ev (fun k => impl_isHand.f k s) (handB s) := by
  unfold impl_isHand.f
  have hall : Ev (fun k => impl_allWithin.f k s 0 9) (open Classical in decide (∀ i : Int, 0 ≤ i → i < s.length → 0 ≤ rd s i ∧ rd s i ≤ 9)) := by
    unfold impl_allWithin.f
    exact Ev_allK (F := fun k i => impl_allWithin.l0 k 0 9 s (s.length : Int) i) (p := fun i => 0 ≤ rd s i ∧ rd s i ≤ 9) (n := s.length) (bad := false) (fun i h4 h5 => ⟨fun hp hr => Ev_succ (by
      simp only [impl_allWithin.l0, within_eq, Option.bind_some, decide_eq_true_eq]
      rw [w64 (by omega) (by omega)]
      exact Ev_pos h5 (Ev_pos h4 (Ev_pos h5 (Ev_pos hp hr)))), fun hp hr => Ev_succ (by
      simp only [impl_allWithin.l0, within_eq, Option.bind_some, decide_eq_true_eq]
      exact Ev_pos h5 (Ev_pos h4 (Ev_pos h5 (Ev_neg hp (Ev_some hr.symm)))))⟩) s.length 0 (by omega) (by omega) (fun hno => @decide_eq_false _ (Classical.propDecidable _) hno) (fun hv => Ev_succ (by
      simp only [impl_allWithin.l0]
      exact Ev_neg (by omega) (Ev_some (@decide_eq_true _ (Classical.propDecidable _) hv).symm)))
  refine Ev.bind hall (Ev_ite (fun h => ?_) (fun h => Ev_some (handB_no (fun q => h (@decide_eq_true _ (Classical.propDecidable _) (fun i h0 h1 => (q i h0 h1).1)))).symm))
  have hw := @of_decide_eq_true _ (Classical.propDecidable _) h
  by_cases hz : s.length = 0
  · exact Ev_succ (by
      simp only [impl_isHand.l0]
      exact Ev_neg (by omega) (Ev_some (handB_iff.2 (fun i h0 h1 => by omega)).symm))
  · have hloop : ∀ (d : Nat) (i : Int), 1 ≤ i → i + d = s.length → (∀ j : Int, 0 ≤ j → j < i → HandAt s j) → Ev (fun k => impl_isHand.l0 k s i) (handB s) := by
      intro d
      induction d with
      | zero =>
        intro i h0 h1 hp
        exact Ev_succ (by
          simp only [impl_isHand.l0]
          exact Ev_neg (by omega) (Ev_some (handB_iff.2 (fun j h2 h3 => hp j h2 (by omega))).symm))
      | succ d ih =>
        intro i h0 h1 hp
        refine Ev_succ (by
          simp only [impl_isHand.l0]
          rw [w64 (x := i + 1) (by omega) (by omega), w64 (x := i - 1) (by omega) (by omega)]
          refine Ev_pos (by omega) (Ev_pos (by omega) (Ev_pos (by omega) (Ev_pos (by omega) (Ev_ite (fun hb => Ev_some (handB_no (fun q => ?_)).symm) (fun hb => ih (i + 1) (by omega) (by omega) (fun j h2 h3 => ?_))))))
          · have := (q i (by omega) (by omega)).2 (by omega)
            omega
          · by_cases hj : j = i
            · rw [hj]; exact ⟨hw i (by omega) (by omega), fun _ => by omega⟩
            · exact hp j h2 (by omega))
    exact hloop (s.length - 1) 1 (by omega) (by omega) (fun j h0 h1 => by
      obtain rfl : j = 0 := by omega
      exact ⟨hw 0 (by omega) (by omega), fun q => absurd q (by omega)⟩)

def soundB (b0 b1 b2 b3 b4 : Bool) (d : Int) : Bool := (impl_IsSound.f b0 b1 b2 b3 b4 d).getD false
theorem sound_all : ∀ (b0 b1 b2 b3 b4 : Bool) (d : Fin 5), spec_IsSound.f b0 b1 b2 b3 b4 (d.val : Int) = impl_IsSound.f b0 b1 b2 b3 b4 (d.val : Int) ∧ (match impl_IsSound.f b0 b1 b2 b3 b4 (d.val : Int), impl_numberOf.f b0 b1 b2 b3 b4 (d.val : Int) with
  | some s, some n => (spec_l25Number.f 10 b0 b1 b2 b3 b4 (d.val : Int) == some n) && decide (0 ≤ n ∧ n ≤ 159) && (impl_controllerWith.f n == some (b0, b1, b2, b3, b4, (d.val : Int)))
  | _, _ => false) = true := by decide +kernel
theorem sound_tells (b0 b1 b2 b3 b4 : Bool) (d : Int) : spec_IsSound.f b0 b1 b2 b3 b4 d = some (soundB b0 b1 b2 b3 b4 d) ∧ impl_IsSound.f b0 b1 b2 b3 b4 d = some (soundB b0 b1 b2 b3 b4 d) ∧ (soundB b0 b1 b2 b3 b4 d = true → ∃ n, 0 ≤ n ∧ n ≤ 159 ∧ impl_numberOf.f b0 b1 b2 b3 b4 d = some n ∧ Ev (fun k => spec_l25Number.f k b0 b1 b2 b3 b4 d) n ∧ impl_controllerWith.f n = some (b0, b1, b2, b3, b4, d)) := by
  by_cases h : 0 ≤ d ∧ d ≤ 4
  · obtain ⟨h1, h2⟩ := sound_all b0 b1 b2 b3 b4 ⟨d.toNat, by omega⟩
    simp only at h1 h2
    rw [show ((d.toNat : Nat) : Int) = d by omega] at h1 h2
    cases hs : impl_IsSound.f b0 b1 b2 b3 b4 d with
    | none => rw [hs] at h2; simp at h2
    | some s =>
      cases hn : impl_numberOf.f b0 b1 b2 b3 b4 d with
      | none => rw [hs, hn] at h2; simp at h2
      | some n =>
        rw [hs, hn] at h2
        simp only [Bool.and_eq_true, beq_iff_eq, decide_eq_true_eq] at h2
        obtain ⟨⟨e1, e2⟩, e3⟩ := h2
        have es : soundB b0 b1 b2 b3 b4 d = s := by unfold soundB; rw [hs]; rfl
        rw [es]
        exact ⟨h1.trans hs, rfl, fun q => ⟨n, e2.1, e2.2, rfl, Ev.of (k := 10) (spec_l25Number.mono b0 b1 b2 b3 b4 d) e1, e3⟩⟩
  · have e1 : spec_IsSound.f b0 b1 b2 b3 b4 d = some false := by
      unfold spec_IsSound.f
      rw [l01In_eq, decide_eq_false h]
      cases b0 <;> cases b1 <;> cases b2 <;> cases b4 <;> simp
    have e2 : impl_IsSound.f b0 b1 b2 b3 b4 d = some false := by
      unfold impl_IsSound.f
      rw [within_eq, decide_eq_false h]
      rfl
    have es : soundB b0 b1 b2 b3 b4 d = false := by unfold soundB; rw [e2]; rfl
    rw [es]
    exact ⟨e1, e2, fun q => absurd q (by decide)⟩
theorem num_some (b0 b1 b2 b3 b4 : Bool) (d : Int) : ∃ n, impl_numberOf.f b0 b1 b2 b3 b4 d = some n := by
  cases b0 <;> cases b1 <;> cases b2 <;> cases b3 <;> cases b4 <;> exact ⟨_, rfl⟩
/-- The code of a controller and of inputs at hand. -/
theorem l25Code_ev (b0 b1 b2 b3 b4 : Bool) (d : Int) (h : List Int) (hl : h.length ≤ 1000000) : Ev (fun k => spec_l25Code.f k b0 b1 b2 b3 b4 d h) (if soundB b0 b1 b2 b3 b4 d = true ∧ handB h = true then 0 else 1) := by
  unfold spec_l25Code.f
  refine Ev_bindc (sound_tells b0 b1 b2 b3 b4 d).1 (Ev_ite (fun q => Ev.bind (rises_ev h hl) (Ev_ite (fun p => ?_) (fun p => ?_))) (fun q => ?_))
  · rw [if_pos ⟨q, p⟩]; exact Ev.now _
  · rw [if_neg (fun w => p w.2)]; exact Ev.now _
  · rw [if_neg (fun w => q w.1)]; exact Ev.now _

theorem with_all : ∀ n : Fin 160, (match impl_ControllerWith.f (n.val : Int), spec_ControllerWith.f (n.val : Int) with
  | some g, some h => (g == h) && (if numB (n.val : Int) = true then (g.2.2.2.2.2.2 == 0) && soundB g.1 g.2.1 g.2.2.1 g.2.2.2.1 g.2.2.2.2.1 g.2.2.2.2.2.1 && (impl_numberOf.f g.1 g.2.1 g.2.2.1 g.2.2.2.1 g.2.2.2.2.1 g.2.2.2.2.2.1 == some (n.val : Int)) else g.2.2.2.2.2.2 == 2)
  | _, _ => false) = true := by decide +kernel
theorem with_tells (n : Int) : ∃ g : Bool × Bool × Bool × Bool × Bool × Int × Int, impl_ControllerWith.f n = some g ∧ spec_ControllerWith.f n = some g ∧ (numB n = true → g.2.2.2.2.2.2 = 0 ∧ soundB g.1 g.2.1 g.2.2.1 g.2.2.2.1 g.2.2.2.2.1 g.2.2.2.2.2.1 = true ∧ impl_numberOf.f g.1 g.2.1 g.2.2.1 g.2.2.2.1 g.2.2.2.2.1 g.2.2.2.2.2.1 = some n) ∧ (g.2.2.2.2.2.2 = 0 → numB n = true) := by
  by_cases h : 0 ≤ n ∧ n ≤ 159
  · have q := with_all ⟨n.toNat, by omega⟩
    simp only at q
    rw [show ((n.toNat : Nat) : Int) = n by omega] at q
    cases hg : impl_ControllerWith.f n with
    | none => rw [hg] at q; simp at q
    | some g =>
      cases hh : spec_ControllerWith.f n with
      | none => rw [hg, hh] at q; simp at q
      | some g' =>
        rw [hg, hh] at q
        simp only [Bool.and_eq_true, beq_iff_eq] at q
        obtain ⟨rfl, q⟩ := q
        refine ⟨g, rfl, rfl, fun hb => ?_, fun hz => ?_⟩
        · rw [if_pos hb] at q
          simp only [Bool.and_eq_true, beq_iff_eq] at q
          exact ⟨q.1.1, q.1.2, q.2⟩
        · refine Classical.byContradiction (fun hb => ?_)
          rw [if_neg hb] at q
          simp only [beq_iff_eq] at q
          omega
  · obtain ⟨h1, h2, h3⟩ := num_tells n
    have hb : ¬ numB n = true := fun q => h (h3 q)
    refine ⟨(false, false, false, false, false, 0, 2), ?_, ?_, fun q => absurd q hb, fun q => absurd q (by decide)⟩
    · unfold impl_ControllerWith.f
      rw [h2]
      simp only [Option.bind_some]
      rw [if_neg hb]
    · unfold spec_ControllerWith.f
      rw [h1]
      simp only [Option.bind_some]
      rw [if_neg hb]
theorem nof_tells (b0 b1 b2 b3 b4 : Bool) (d : Int) : ∃ r1 r2, Ev (fun k => spec_NumberOf.f k b0 b1 b2 b3 b4 d) (r1, r2) ∧ impl_NumberOf.f b0 b1 b2 b3 b4 d = some (r1, r2) ∧ (r2 = 0 → soundB b0 b1 b2 b3 b4 d = true ∧ impl_numberOf.f b0 b1 b2 b3 b4 d = some r1 ∧ impl_controllerWith.f r1 = some (b0, b1, b2, b3, b4, d)) := by
  obtain ⟨t1, t2, t3⟩ := sound_tells b0 b1 b2 b3 b4 d
  unfold spec_NumberOf.f impl_NumberOf.f
  rw [t1, t2]
  simp only [Option.bind_some]
  by_cases hs : soundB b0 b1 b2 b3 b4 d = true
  · obtain ⟨n, n0, n1, h1, h2, h3⟩ := t3 hs
    refine ⟨n, 0, Ev_pos hs (Ev.bind h2 (Ev.now _)), ?_, fun _ => ⟨hs, h1, h3⟩⟩
    rw [if_pos hs, h1]
    rfl
  · refine ⟨0, 1, Ev_neg hs (Ev.now _), ?_, fun q => absurd q (by decide)⟩
    rw [if_neg hs]

/-- The source of the draws: the code's bytes, the place in it, the seed. -/
def Rd (c : List Int) (i seed : Int) : Prop := (∀ b ∈ c, 0 ≤ b ∧ b ≤ 255) ∧ c.length ≤ 4096 ∧ 0 ≤ i ∧ i ≤ c.length ∧ 0 ≤ seed ∧ seed < 2147483647
theorem rd_byte {c : List Int} (hc : ∀ b ∈ c, 0 ≤ b ∧ b ≤ 255) (i : Int) : 0 ≤ rd c i ∧ rd c i ≤ 255 := by
  unfold rd
  by_cases h : i.toNat < c.length
  · rw [List.getD_eq_getElem?_getD, List.getElem?_eq_getElem h]
    exact hc _ (List.getElem_mem h)
  · rw [List.getD_eq_getElem?_getD, List.getElem?_eq_none (by omega)]
    simp
theorem next_tells {c : List Int} {i seed : Int} (hr : Rd c i seed) (n : Int) (hn : n ≤ 4000000000000000000) : ∃ x i' s', spec_l01Next.f c i seed n = some (x, i', s') ∧ Rd c i' s' ∧ 0 ≤ x ∧ (1 ≤ n → x < n) := by
  obtain ⟨hc, hl, h0, h1, h2, h3⟩ := hr
  have e1 : wrap64 (wrap64 (seed * 48271) + 29) = seed * 48271 + 29 := by rw [w64 (x := seed * 48271) (by omega) (by omega), w64 (by omega) (by omega)]
  have e2 : Int.tmod (seed * 48271 + 29) 2147483647 = (seed * 48271 + 29) % 2147483647 := Int.tmod_eq_emod_of_nonneg (by omega)
  obtain ⟨s1, hs1⟩ : ∃ s1, s1 = (seed * 48271 + 29) % 2147483647 := ⟨_, rfl⟩
  have b0 : 0 ≤ s1 ∧ s1 < 2147483647 := by omega
  have e3 : wrap64 (Int.tdiv s1 31) = s1 / 31 := by
    rw [Int.tdiv_eq_ediv_of_nonneg b0.1]; exact w64 (by omega) (by omega)
  unfold spec_l01Next.f
  rw [e1, e2, ← hs1, e3]
  by_cases hn1 : n ≤ 1
  · rw [if_pos hn1]
    exact ⟨0, i, seed, rfl, ⟨hc, hl, h0, h1, h2, h3⟩, by omega, by omega⟩
  · rw [if_neg hn1]
    have hm : ∀ x : Int, 0 ≤ x → 0 ≤ Int.tmod x n ∧ Int.tmod x n < n := fun x hx => by
      rw [Int.tmod_eq_emod_of_nonneg hx]
      exact ⟨Int.emod_nonneg x (by omega), Int.emod_lt_of_pos x (by omega)⟩
    by_cases hi : i < (c.length : Int)
    · have hb := rd_byte hc i
      have w1 : wrap64 (i + 1) = i + 1 := w64 (by omega) (by omega)
      have w2 : wrap64 (i + 1 - 1) = i := by rw [w64 (by omega) (by omega)]; omega
      have w3 : wrap64 (rd c i) = rd c i := w64 (by omega) (by omega)
      have w4 : wrap64 (s1 / 31 + rd c i) = s1 / 31 + rd c i := w64 (by omega) (by omega)
      rw [if_pos hi, if_pos h0, w1, w2, w3, w4]
      have r1 := hm (rd c i) hb.1
      have r2 := hm (s1 / 31 + rd c i) (by omega)
      have hR : Rd c (i + 1) s1 := ⟨hc, hl, by omega, by omega, b0.1, b0.2⟩
      by_cases h256 : n ≤ 256
      · rw [if_pos h256]
        by_cases ht : Int.tmod (i + 1) 2 = 0
        · rw [if_pos ht, if_pos h0, if_pos hi, if_neg (by omega)]
          exact ⟨_, _, _, rfl, hR, r1.1, fun _ => r1.2⟩
        · rw [if_neg ht, if_neg (by omega)]
          exact ⟨_, _, _, rfl, hR, r2.1, fun _ => r2.2⟩
      · rw [if_neg h256, if_neg (by omega)]
        exact ⟨_, _, _, rfl, hR, r2.1, fun _ => r2.2⟩
    · have r3 := hm (s1 / 31) (by omega)
      rw [if_neg hi, if_neg (by omega)]
      exact ⟨_, _, _, rfl, ⟨hc, hl, h0, h1, b0.1, b0.2⟩, r3.1, fun _ => r3.2⟩
theorem from_tells (c : List Int) (hc : ∀ b ∈ c, 0 ≤ b ∧ b ≤ 255) (hl : c.length ≤ 4096) : ∃ seed, Ev (fun k => spec_l01From.f k c) (c, 0, seed) ∧ Rd c 0 seed := by
  have h := Ev_for (F := fun k s i => spec_l01From.l0 k c i c 0 s) (step := fun s i => if i < 64 then .inr ((s * 83 + rd c i) % 2147483647) else .inl (c, 0, s)) (out := fun s => (c, 0, s)) (n := c.length) (fun s i => 0 ≤ s ∧ s < 2147483647)
    (fun s hI => ⟨1, fun k hk => by
      obtain ⟨k, rfl⟩ : ∃ m, k = m + 1 := ⟨k - 1, by omega⟩
      simp only [spec_l01From.l0]
      rw [if_neg (by omega)]⟩)
    (fun s i h0 h1 hI => by
      have hb := rd_byte hc i
      by_cases h64 : i < 64
      · refine .inr ⟨_, if_pos h64, by omega, 0, fun k _ => ?_⟩
        simp only [spec_l01From.l0]
        rw [if_pos h1, if_pos h64, if_pos h0, w64 (x := i + 1) (by omega) (by omega), w64 (x := s * 83) (by omega) (by omega), w64 (x := rd c i) (by omega) (by omega), w64 (by omega) (by omega), Int.tmod_eq_emod_of_nonneg (by omega)]
      · refine .inl ⟨_, if_neg h64, 1, fun k hk => ?_⟩
        obtain ⟨k, rfl⟩ : ∃ m, k = m + 1 := ⟨k - 1, by omega⟩
        simp only [spec_l01From.l0]
        rw [if_pos h1, if_neg h64]) c.length 61043 0 (by omega) (by omega) (by omega)
  have h2 := forM_ind (step := fun s i => if i < 64 then .inr ((s * 83 + rd c i) % 2147483647) else .inl (c, 0, s)) (out := fun s => (c, (0 : Int), s)) (n := c.length) (fun s _ => 0 ≤ s ∧ s < 2147483647) (fun r => ∃ s, r = (c, (0 : Int), s) ∧ 0 ≤ s ∧ s < 2147483647) (fun s hI => ⟨s, rfl, hI⟩)
    (fun s i h0 h1 hI => ⟨fun r hr => by
        split at hr
        · cases hr
        · injection hr with hr
          exact ⟨s, hr.symm, hI⟩, fun s' hr => by
        split at hr
        · injection hr with hr
          omega
        · cases hr⟩) c.length 61043 0 (by omega) (by omega) (by omega)
  obtain ⟨s, hs, hb⟩ := h2
  refine ⟨s, ?_, hc, hl, by omega, by omega, hb.1, hb.2⟩
  rw [hs] at h
  exact h
/-- What a statement over a code knows of its bytes. -/
theorem bytes_of {c : List Int} (h : ∀ x ∈ c, (Lit.int .u8 x).wf = true) : ∀ b ∈ c, 0 ≤ b ∧ b ≤ 255 := fun b hb => by
  have h := h b hb
  simp [Lit.wf, IntKind.min, IntKind.max, IntKind.bits, IntKind.signed] at h
  omega
theorem big_eq (c : List Int) : laws_big.f c = some (decide (c.length > 4096)) := by
  unfold laws_big.f
  congr 1
  rw [decide_eq_decide]
  omega

theorem pick_tells {c : List Int} {i seed : Int} (hr : Rd c i seed) (l : List Int) (h0 : 0 < l.length) (hl : l.length ≤ 1000) : ∃ x i' s', spec_l01Pick.f c i seed l = some (x, i', s') ∧ Rd c i' s' ∧ x ∈ l := by
  obtain ⟨x, i', s', h1, h2, h3, h4⟩ := next_tells hr (l.length : Int) (by omega)
  have h4 := h4 (by omega)
  unfold spec_l01Pick.f
  rw [h1]
  simp only [Option.bind_some]
  rw [if_pos h3, if_pos h4]
  refine ⟨_, _, _, rfl, h2, ?_⟩
  unfold rd
  rw [List.getD_eq_getElem?_getD, List.getElem?_eq_getElem (show x.toNat < l.length by omega)]
  exact List.getElem_mem _

theorem some_ite {α : Type} {c : Prop} [Decidable c] {a b : Option α} (ha : a.isSome = true) (hb : b.isSome = true) : (if c then a else b).isSome = true := by
  split
  · exact ha
  · exact hb
theorem give21_some (b0 b1 b2 b3 b4 : Bool) (d i : Int) : ∃ g, spec_l21Give.f b0 b1 b2 b3 b4 d i = some g := by
  have h : (spec_l21Give.f b0 b1 b2 b3 b4 d i).isSome = true := by
    unfold spec_l21Give.f spec_l21Off.f
    simp only [Option.bind_some]
    repeat' apply some_ite
    all_goals rfl
  exact Option.isSome_iff_exists.1 h
theorem input21_some (b0 b1 b2 b3 b4 : Bool) (d i : Int) : ∃ g, spec_l21Input.f b0 b1 b2 b3 b4 d i = some g := by
  unfold spec_l21Input.f
  rw [l01In_eq]
  obtain ⟨g, hg⟩ := give21_some b0 b1 b2 b3 b4 d i
  simp only [Option.bind_some, hg]
  refine Option.isSome_iff_exists.1 ?_
  repeat' apply some_ite
  all_goals rfl
theorem gives_l0 (l : List Int) (hl : l.length ≤ 1000) (e : Nat) : ∀ (i : Int) (b0 b1 b2 b3 b4 : Bool) (d : Int), 0 ≤ i → i + e = l.length → ∃ g, Ev (fun k => spec_GiveInputs.l0 k l i b0 b1 b2 b3 b4 d) g := by
  induction e with
  | zero =>
    intro i b0 b1 b2 b3 b4 d h0 h1
    exact ⟨_, Ev_succ (by
      simp only [spec_GiveInputs.l0]
      exact Ev_neg (by omega) (Ev.now _))⟩
  | succ e ih =>
    intro i b0 b1 b2 b3 b4 d h0 h1
    obtain ⟨g, hg⟩ := input21_some b0 b1 b2 b3 b4 d (rd l i)
    by_cases hz : g.2.2.2.2.2.2 = 0
    · obtain ⟨r, hr⟩ := ih (i + 1) g.1 g.2.1 g.2.2.1 g.2.2.2.1 g.2.2.2.2.1 g.2.2.2.2.2.1 (by omega) (by omega)
      exact ⟨r, Ev_succ (by
        simp only [spec_GiveInputs.l0]
        rw [w64 (by omega) (by omega)]
        exact Ev_pos (by omega) (Ev_pos h0 (Ev_bindc hg (Ev_pos hz hr))))⟩
    · exact ⟨_, Ev_succ (by
        simp only [spec_GiveInputs.l0]
        exact Ev_pos (by omega) (Ev_pos h0 (Ev_bindc hg (Ev_neg hz (Ev.now _)))))⟩
theorem gives_tells (b0 b1 b2 b3 b4 : Bool) (d : Int) (l : List Int) (hl : l.length ≤ 1000) : ∃ g, Ev (fun k => spec_GiveInputs.f k b0 b1 b2 b3 b4 d l) g := by
  unfold spec_GiveInputs.f
  obtain ⟨t1, _⟩ := sound_tells b0 b1 b2 b3 b4 d
  by_cases hs : soundB b0 b1 b2 b3 b4 d = true
  · by_cases h6 : (l.length : Int) > 60
    · exact ⟨_, Ev_bindc t1 (Ev_pos hs (Ev_pos h6 (Ev.now _)))⟩
    · obtain ⟨g, hg⟩ := gives_l0 l hl l.length 0 b0 b1 b2 b3 b4 d (by omega) (by omega)
      exact ⟨g, Ev_bindc t1 (Ev_pos hs (Ev_neg h6 hg))⟩
  · exact ⟨_, Ev_bindc t1 (Ev_neg hs (Ev.now _))⟩
theorem inputs_l0 (c : List Int) (d : Nat) : ∀ (l : List Int) (n i seed : Int), Rd c i seed → n ≤ d → d ≤ 10 → l.length + d ≤ 20 → ∃ ys i' s', Ev (fun k => spec_l21Inputs.l0 k l n c i seed) (ys, i', s') ∧ Rd c i' s' ∧ ys.length ≤ 100 := by
  induction d with
  | zero =>
    intro l n i seed hr hn hd hl
    obtain ⟨y, i1, s1, e1, r1, _⟩ := next_tells hr 40 (by omega)
    by_cases h0 : y = 0
    · obtain ⟨z, i2, s2, e2, r2, _⟩ := pick_tells r1 [(-1), 10] (by simp) (by simp)
      exact ⟨l ++ [z], i2, s2, Ev_succ (by
        simp only [spec_l21Inputs.l0, e1, e2, Option.bind_some]
        exact Ev_neg (by omega) (Ev_pos h0 (Ev_pos (by omega) (Ev.now _)))), r2, by simp; omega⟩
    · by_cases h1 : y = 1
      · obtain ⟨z, i2, s2, e2, r2, g1, g2⟩ := next_tells r1 2 (by omega)
        have g2 := g2 (by omega)
        have hw : wrap64 (60 + z) = 60 + z := w64 (by omega) (by omega)
        exact ⟨List.replicate (60 + z).toNat 0, i2, s2, Ev_succ (by
          simp only [spec_l21Inputs.l0, e1, e2, Option.bind_some, hw]
          exact Ev_neg (by omega) (Ev_neg h0 (Ev_pos h1 (Ev_pos (by omega) (Ev_pos (by omega) (Ev.now _)))))), r2, by rw [List.length_replicate]; omega⟩
      · exact ⟨l, i1, s1, Ev_succ (by
          simp only [spec_l21Inputs.l0, e1, Option.bind_some]
          exact Ev_neg (by omega) (Ev_neg h0 (Ev_neg h1 (Ev.now _)))), r1, by omega⟩
  | succ d ih =>
    intro l n i seed hr hn hd hl
    by_cases hp : n > 0
    · obtain ⟨y, i1, s1, e1, r1, _⟩ := next_tells hr 10 (by omega)
      obtain ⟨z, i2, s2, e2, r2, _⟩ := pick_tells r1 [y, 7, 8, 8, 4, 5, 2] (by simp) (by simp)
      obtain ⟨ys, i3, s3, h3, r3, hy⟩ := ih (l ++ [z]) (n - 1) i2 s2 r2 (by omega) (by omega) (by simp; omega)
      exact ⟨ys, i3, s3, Ev_succ (by
        simp only [spec_l21Inputs.l0, e1, e2, Option.bind_some]
        rw [w64 (by omega) (by omega)]
        exact Ev_pos hp (Ev_pos (by omega) h3)), r3, hy⟩
    · exact ih l n i seed hr (by omega) (by omega) (by omega)
theorem inputs_tells {c : List Int} {i seed : Int} (hr : Rd c i seed) : ∃ ys i' s', Ev (fun k => spec_l21Inputs.f k c i seed) (ys, i', s') ∧ Rd c i' s' ∧ ys.length ≤ 100 := by
  have hj : ∀ (l : List Int) (i seed : Int), Rd c i seed → l.length ≤ 3 → ∃ ys i' s', Ev (fun k => spec_l21Inputs.j0 k l c i seed) (ys, i', s') ∧ Rd c i' s' ∧ ys.length ≤ 100 := fun l i seed hr hl => by
    obtain ⟨y, i1, s1, e1, r1, g1, g2⟩ := next_tells hr 8 (by omega)
    have g2 := g2 (by omega)
    obtain ⟨ys, i2, s2, h2, r2, hy⟩ := inputs_l0 c 8 l y i1 s1 r1 (by omega) (by omega) (by omega)
    exact ⟨ys, i2, s2, Ev_succ (by
      simp only [spec_l21Inputs.j0, e1, Option.bind_some]
      exact h2), r2, hy⟩
  obtain ⟨y, i1, s1, e1, r1, _⟩ := next_tells hr 2 (by omega)
  unfold spec_l21Inputs.f
  simp only [e1, Option.bind_some]
  by_cases h0 : y = 0
  · obtain ⟨ys, i2, s2, h2, r2, hy⟩ := hj ([] ++ [0, 1, 2]) i1 s1 r1 (by simp)
    exact ⟨ys, i2, s2, Ev_pos h0 (Ev_pos (by simp) h2), r2, hy⟩
  · obtain ⟨ys, i2, s2, h2, r2, hy⟩ := hj [] i1 s1 r1 (by simp)
    exact ⟨ys, i2, s2, Ev_neg h0 h2, r2, hy⟩
theorem good21_tells {c : List Int} {i seed : Int} (hr : Rd c i seed) : ∃ b0 b1 b2 b3 b4 d i' s', Ev (fun k => spec_l21Good.f k c i seed) (b0, b1, b2, b3, b4, d, i', s') ∧ Rd c i' s' := by
  obtain ⟨ys, i1, s1, h1, r1, hy⟩ := inputs_tells hr
  obtain ⟨g, hg⟩ := gives_tells false false false false false 0 ys (by omega)
  refine ⟨g.1, g.2.1, g.2.2.1, g.2.2.2.1, g.2.2.2.2.1, g.2.2.2.2.2.1, i1, s1, ?_, r1⟩
  unfold spec_l21Good.f
  exact Ev.bind h1 (Ev.bind hg (Ev.now _))
theorem draw21_tells {c : List Int} {i seed : Int} (hr : Rd c i seed) : ∃ b0 b1 b2 b3 b4 d i' s', Ev (fun k => spec_l21Draw.f k c i seed) (b0, b1, b2, b3, b4, d, i', s') ∧ Rd c i' s' := by
  obtain ⟨b0, b1, b2, b3, b4, d, i1, s1, h1, r1⟩ := good21_tells hr
  obtain ⟨y, i2, s2, e2, r2, _⟩ := next_tells r1 24 (by omega)
  obtain ⟨z, i3, s3, e3, r3, _⟩ := pick_tells r2 [(-1), 3, 4, 5] (by simp) (by simp)
  unfold spec_l21Draw.f
  by_cases h0 : y = 0
  · refine ⟨b0, b1, true, b3, b4, d, i2, s2, Ev.bind h1 ?_, r2⟩
    simp only [e2, Option.bind_some]
    exact Ev_pos h0 (Ev.now _)
  · by_cases h1' : y = 1
    · refine ⟨b0, b1, b2, true, b4, d, i2, s2, Ev.bind h1 ?_, r2⟩
      simp only [e2, Option.bind_some]
      exact Ev_neg h0 (Ev_pos h1' (Ev.now _))
    · by_cases h2 : y = 2
      · refine ⟨b0, b1, b2, b3, b4, z, i3, s3, Ev.bind h1 ?_, r3⟩
        simp only [e2, e3, Option.bind_some]
        exact Ev_neg h0 (Ev_neg h1' (Ev_pos h2 (Ev.now _)))
      · by_cases h3 : y = 3
        · refine ⟨b0, b1, b2, b3, true, d, i2, s2, Ev.bind h1 ?_, r2⟩
          simp only [e2, Option.bind_some]
          exact Ev_neg h0 (Ev_neg h1' (Ev_neg h2 (Ev_pos h3 (Ev.now _))))
        · refine ⟨b0, b1, b2, b3, b4, d, i2, s2, Ev.bind h1 ?_, r2⟩
          simp only [e2, Option.bind_some]
          exact Ev_neg h0 (Ev_neg h1' (Ev_neg h2 (Ev_neg h3 (Ev.now _))))

theorem hand25_l0 (c : List Int) (d : Nat) : ∀ (l : List Int) (n i seed : Int), Rd c i seed → 0 ≤ n → n + d = 10 → l.length ≤ n → ∃ ys i' s', Ev (fun k => spec_l25Hand.l0 k l n c i seed) (ys, i', s') ∧ Rd c i' s' ∧ ys.length ≤ 11 := by
  induction d with
  | zero =>
    intro l n i seed hr h0 h1 hl
    obtain ⟨y, i1, s1, e1, r1, _⟩ := next_tells hr 30 (by omega)
    by_cases hy : y = 0
    · obtain ⟨z, i2, s2, e2, r2, _⟩ := pick_tells r1 [10, 3, (-1)] (by simp) (by simp)
      exact ⟨l ++ [z], i2, s2, Ev_succ (by
        simp only [spec_l25Hand.l0, e1, e2, Option.bind_some]
        exact Ev_neg (by omega) (Ev_pos hy (Ev_pos (by omega) (Ev.now _)))), r2, by simp; omega⟩
    · exact ⟨l, i1, s1, Ev_succ (by
        simp only [spec_l25Hand.l0, e1, Option.bind_some]
        exact Ev_neg (by omega) (Ev_neg hy (Ev.now _))), r1, by omega⟩
  | succ d ih =>
    intro l n i seed hr h0 h1 hl
    have hw : wrap64 (n + 1) = n + 1 := w64 (by omega) (by omega)
    obtain ⟨y, i1, s1, e1, r1, _⟩ := next_tells hr 3 (by omega)
    by_cases hy : y > 0
    · obtain ⟨ys, i2, s2, h2, r2, hys⟩ := ih (l ++ [n]) (n + 1) i1 s1 r1 (by omega) (by omega) (by simp; omega)
      exact ⟨ys, i2, s2, Ev_succ (by
        simp only [spec_l25Hand.l0, e1, Option.bind_some, hw]
        exact Ev_pos (by omega) (Ev_pos hy (Ev_pos (by omega) h2))), r2, hys⟩
    · obtain ⟨ys, i2, s2, h2, r2, hys⟩ := ih l (n + 1) i1 s1 r1 (by omega) (by omega) (by omega)
      exact ⟨ys, i2, s2, Ev_succ (by
        simp only [spec_l25Hand.l0, e1, Option.bind_some, hw]
        exact Ev_pos (by omega) (Ev_neg hy h2)), r2, hys⟩
theorem hand25_tells {c : List Int} {i seed : Int} (hr : Rd c i seed) : ∃ ys i' s', Ev (fun k => spec_l25Hand.f k c i seed) (ys, i', s') ∧ Rd c i' s' ∧ ys.length ≤ 11 := by
  unfold spec_l25Hand.f
  exact hand25_l0 c 10 [] 0 i seed hr (by omega) (by omega) (by simp)

theorem drawReached_tells (c : List Int) (hc : ∀ b ∈ c, 0 ≤ b ∧ b ≤ 255) (hl : c.length ≤ 4096) : ∃ b0 b1 b2 b3 b4 d H, Ev (fun k => spec_DrawReachedFrom.f k c) (b0, b1, b2, b3, b4, d, H) ∧ H.length ≤ 11 := by
  obtain ⟨s0, h0, r0⟩ := from_tells c hc hl
  obtain ⟨b0, b1, b2, b3, b4, d, i1, s1, h1, r1⟩ := draw21_tells r0
  obtain ⟨H, i2, s2, h2, r2, hH⟩ := hand25_tells r1
  refine ⟨b0, b1, b2, b3, b4, d, H, ?_, hH⟩
  unfold spec_DrawReachedFrom.f
  exact Ev.bind h0 (Ev.bind h1 (Ev.bind h2 (Ev.now _)))

theorem rd_here {b : List Int} {i : Int} (h0 : 0 ≤ i) (h1 : i < b.length) : rd b i = b[i.toNat]'(by omega) := by
  simp [rd, List.getD_eq_getElem?_getD, List.getElem?_eq_getElem (show i.toNat < b.length by omega)]
theorem l01Has_ev (l : List Int) (h : l.length ≤ 100000000) (v : Int) : Ev (fun k => spec_l01Has.f k l v) (decide (v ∈ l)) := by
  unfold spec_l01Has.f
  exact Ev_allK (F := fun k i => spec_l01Has.l0 k l v i) (p := fun i => ¬ rd l i = v) (n := l.length) (bad := true) (fun i h0 h1 => ⟨fun hp hr => Ev_succ (by
    simp only [spec_l01Has.l0]
    rw [w64 (by omega) (by omega)]
    exact Ev_pos h1 (Ev_pos h0 (Ev_neg hp hr))), fun hp hr => Ev_succ (by
    simp only [spec_l01Has.l0]
    exact Ev_pos h1 (Ev_pos h0 (Ev_pos (by simpa using hp) (Ev_some hr.symm))))⟩) l.length 0 (by omega) (by omega) (fun hno => by
    rw [decide_eq_true_eq]
    by_cases hm : v ∈ l
    · exact hm
    · refine absurd (fun j h0 h1 he => hm ?_) hno
      rw [← he, rd_here h0 h1]
      exact List.getElem_mem _) (fun hall => Ev_succ (by
    simp only [spec_l01Has.l0]
    refine Ev_neg (by omega) (Ev_some ?_)
    symm
    rw [decide_eq_false_iff_not]
    intro hm
    obtain ⟨j, hj⟩ := List.mem_iff_getElem?.1 hm
    obtain ⟨hl, he⟩ := List.getElem?_eq_some_iff.1 hj
    refine hall (j : Int) (by omega) (by omega) ?_
    rw [rd_here (by omega) (by omega), ← he]
    congr 1))

theorem next_list {n : Int} {h : List Int} (hn : 0 ≤ n ∧ n ≤ 159) (hh : HandOk h) (hl : h.length ≤ 1000000) : Ev (fun k => spec_l25Next.f k n h) (h.map (nextM n)) := by
  unfold spec_l25Next.f
  have hloop : ∀ (d : Nat) (o : List Int) (i : Int), 0 ≤ i → i + d = h.length → o = (h.take i.toNat).map (nextM n) → Ev (fun k => spec_l25Next.l0 k n h o i) (h.map (nextM n)) := by
    intro d
    induction d with
    | zero =>
      intro o i h0 h1 ho
      refine Ev_succ (by
        simp only [spec_l25Next.l0]
        refine Ev_neg (by omega) (Ev_some ?_)
        rw [ho, show i.toNat = h.length by omega, List.take_length])
    | succ d ih =>
      intro o i h0 h1 ho
      obtain ⟨b, g, hb, hg, hc⟩ := spec_step hn (hh i h0 (by omega)).1
      have hr := ih (o ++ [nextM n (rd h i)]) (i + 1) (by omega) (by omega) (by
        rw [ho, show (i + 1).toNat = i.toNat + 1 by omega, List.take_succ_eq_append_getElem (by omega), List.map_append, rd_here h0 (by omega)]
        rfl)
      have hol : o.length ≤ 1000000 := by rw [ho, List.length_map, List.length_take]; omega
      refine Ev_succ (by
        simp only [spec_l25Next.l0]
        rw [w64 (by omega) (by omega)]
        refine Ev_pos (by omega) (Ev_bindc hb (Ev_pos h0 (Ev_bindc hg ?_)))
        rcases hc with ⟨c1, c2⟩ | ⟨c1, c2⟩
        · exact Ev_pos c1 (Ev.bind c2 (Ev_pos (by omega) hr))
        · rw [c2] at hr
          exact Ev_neg c1 (Ev_pos (by omega) hr))
  exact hloop h.length [] 0 (by omega) (by omega) rfl
theorem rd_map {n : Int} {h : List Int} {i : Int} (h0 : 0 ≤ i) (h1 : i < h.length) : rd (h.map (nextM n)) i = nextM n (rd h i) := by
  rw [rd_here h0 (by rw [List.length_map]; exact h1), rd_here h0 h1, List.getElem_map]

theorem nodup_le : ∀ (n : Nat) (l : List Int), l.Nodup → (∀ v ∈ l, 0 ≤ v ∧ v < n) → l.length ≤ n := by
  intro n
  induction n with
  | zero =>
    intro l _ h
    cases l with
    | nil => exact Nat.le_refl _
    | cons a t => have := h a (by simp); omega
  | succ n ih =>
    intro l hd h
    by_cases hm : (n : Int) ∈ l
    · have h1 := ih (l.erase (n : Int)) (hd.erase _) (fun v hv => by
        have h2 := (hd.mem_erase_iff).1 hv
        have h3 := h v h2.2
        have h4 := h2.1
        omega)
      have := List.length_erase_of_mem hm
      omega
    · exact Nat.le_succ_of_le (ih l hd (fun v hv => by
        have h3 := h v hv
        have : v ≠ n := fun e => hm (e ▸ hv)
        omega))
theorem next_le {n i : Int} (hn : 0 ≤ n ∧ n ≤ 159) (hi : 0 ≤ i ∧ i ≤ 9) : nextM n i ≤ 159 := by
  obtain ⟨ok, v, _, _, h3, h4, h5⟩ := step_tells hn hi
  rw [h3]
  cases ok with
  | true => exact (h4 rfl).2
  | false => rw [h5 rfl]; omega
theorem hand_mem {H : List Int} (h : HandOk H) : ∀ x ∈ H, 0 ≤ x ∧ x ≤ 9 := fun x hx => by
  obtain ⟨j, hj⟩ := List.mem_iff_getElem?.1 hx
  obtain ⟨hl, he⟩ := List.getElem?_eq_some_iff.1 hj
  have := (h (j : Int) (by omega) (by omega)).1
  rw [rd_here (by omega) (by omega)] at this
  simp only [Int.toNat_natCast] at this
  rw [he] at this
  exact this
theorem drop_here {H : List Int} {j : Int} (h0 : 0 ≤ j) (h1 : j < H.length) : H.drop j.toNat = rd H j :: H.drop (j + 1).toNat := by
  rw [List.drop_eq_getElem_cons (show j.toNat < H.length by omega), rd_here h0 h1, show (j + 1).toNat = j.toNat + 1 by omega]
def pushM (v : Int) (p : List Int) : List Int → List Int × List (List Int) → List Int × List (List Int)
  | [], s => s
  | h :: t, s => pushM v p t (if 0 ≤ nextM v h ∧ nextM v h ∉ s.1 then (s.1 ++ [nextM v h], s.2 ++ [p ++ [h]]) else s)
def goM (H : List Int) : Nat → Nat → List Int × List (List Int) → List Int × List (List Int)
  | 0, _, s => s
  | d + 1, i, s => if i < s.1.length then goM H d (i + 1) (pushM (s.1.getD i 0) (s.2.getD i []) H s) else s
def finalM (n : Int) (H : List Int) : List Int × List (List Int) := goM H 160 0 ([n], [[]])
/-- Inputs at hand that lead from one number to another. -/
inductive PathM (H : List Int) (n : Int) : List Int → Int → Prop
  | nil : PathM H n [] n
  | snoc {p : List Int} {v h : Int} : PathM H n p v → h ∈ H → 0 ≤ nextM v h → PathM H n (p ++ [h]) (nextM v h)
structure InvM (n : Int) (H : List Int) (s : List Int × List (List Int)) : Prop where
  len : s.2.length = s.1.length
  nd : s.1.Nodup
  rng : ∀ v ∈ s.1, 0 ≤ v ∧ v ≤ 159
  st : s.1[0]? = some n
  least : ∀ C : Int → Prop, C n → (∀ v h, C v → h ∈ H → 0 ≤ nextM v h → C (nextM v h)) → ∀ v ∈ s.1, C v
  path : ∀ m v p, s.1[m]? = some v → s.2[m]? = some p → PathM H n p v ∧ p.length ≤ m
theorem InvM.le {n : Int} {H : List Int} {s : List Int × List (List Int)} (h : InvM n H s) : s.1.length ≤ 160 := nodup_le 160 s.1 h.nd (fun v hv => by have := h.rng v hv; omega)
theorem at_mem {L : List Int} {m : Nat} {v : Int} (h : L[m]? = some v) : v ∈ L := List.mem_of_getElem? h
theorem at_lt {α : Type} {L : List α} {m : Nat} {v : α} (h : L[m]? = some v) : m < L.length := (List.getElem?_eq_some_iff.1 h).1
theorem at_app {α : Type} {L : List α} {m : Nat} {v : α} (h : L[m]? = some v) (a : List α) : (L ++ a)[m]? = some v := by rw [List.getElem?_append_left (at_lt h)]; exact h
theorem push_one {n : Int} {H : List Int} {s : List Int × List (List Int)} (hH : HandOk H) (hI : InvM n H s) {v h : Int} {p : List Int} {i : Nat} (hv : s.1[i]? = some v) (hp : s.2[i]? = some p) (hh : h ∈ H) (h0 : 0 ≤ nextM v h) (hn : nextM v h ∉ s.1) : InvM n H (s.1 ++ [nextM v h], s.2 ++ [p ++ [h]]) := by
  have hr := hI.rng v (at_mem hv)
  have hq := hI.path i v p hv hp
  have hi := at_lt hv
  refine ⟨by simp [hI.len], ?_, ?_, at_app hI.st _, ?_, ?_⟩
  · exact List.pairwise_append.2 ⟨hI.nd, List.pairwise_singleton _ _, fun a ha b hb => by
      rw [List.mem_singleton.1 hb]
      exact fun e => hn (e ▸ ha)⟩
  · intro x hx
    rcases List.mem_append.1 hx with hx | hx
    · exact hI.rng x hx
    · rw [List.mem_singleton.1 hx]
      exact ⟨h0, next_le hr (hand_mem hH h hh)⟩
  · intro C c0 c1 x hx
    rcases List.mem_append.1 hx with hx | hx
    · exact hI.least C c0 c1 x hx
    · rw [List.mem_singleton.1 hx]
      exact c1 v h (hI.least C c0 c1 v (at_mem hv)) hh h0
  · intro m x q hx hq'
    by_cases hm : m < s.1.length
    · have e1 : s.1[m]? = some x := by rw [← hx]; exact (List.getElem?_append_left hm).symm
      have e2 : s.2[m]? = some q := by rw [← hq']; exact (List.getElem?_append_left (by rw [hI.len]; exact hm)).symm
      exact hI.path m x q e1 e2
    · have hlt := at_lt hx
      simp only [List.length_append, List.length_singleton] at hlt
      obtain rfl : m = s.1.length := by omega
      have e1 : x = nextM v h := by
        rw [List.getElem?_append_right (Nat.le_refl _), Nat.sub_self] at hx
        exact (Option.some.inj hx).symm
      have e2 : q = p ++ [h] := by
        rw [List.getElem?_append_right (by rw [hI.len]; exact Nat.le_refl _), hI.len, Nat.sub_self] at hq'
        exact (Option.some.inj hq').symm
      rw [e1, e2]
      exact ⟨hq.1.snoc hh h0, by simp only [List.length_append, List.length_singleton]; omega⟩
theorem push_tells {n : Int} {H : List Int} (hH : HandOk H) {v : Int} {p : List Int} {i : Nat} : ∀ (t : List Int) (s : List Int × List (List Int)), (∀ h ∈ t, h ∈ H) → InvM n H s → s.1[i]? = some v → s.2[i]? = some p → InvM n H (pushM v p t s) ∧ (∃ a b, (pushM v p t s).1 = s.1 ++ a ∧ (pushM v p t s).2 = s.2 ++ b) ∧ ∀ h ∈ t, 0 ≤ nextM v h → nextM v h ∈ (pushM v p t s).1 := by
  intro t
  induction t with
  | nil => intro s _ hI _ _; exact ⟨hI, ⟨[], [], (List.append_nil _).symm, (List.append_nil _).symm⟩, fun h hh => absurd hh (by simp)⟩
  | cons h t ih =>
    intro s ht hI hv hp
    have hh := ht h (by simp)
    have ht' : ∀ x ∈ t, x ∈ H := fun x hx => ht x (List.mem_cons_of_mem _ hx)
    simp only [pushM]
    by_cases hc : 0 ≤ nextM v h ∧ nextM v h ∉ s.1
    · rw [if_pos hc]
      obtain ⟨h1, ⟨a, b, ha, hb⟩, h3⟩ := ih _ ht' (push_one hH hI hv hp hh hc.1 hc.2) (at_app hv _) (at_app hp _)
      refine ⟨h1, ⟨[nextM v h] ++ a, [p ++ [h]] ++ b, by rw [ha, List.append_assoc], by rw [hb, List.append_assoc]⟩, fun x hx hx0 => ?_⟩
      rcases List.mem_cons.1 hx with rfl | hx
      · rw [ha]; simp
      · exact h3 x hx hx0
    · rw [if_neg hc]
      obtain ⟨h1, ⟨a, b, ha, hb⟩, h3⟩ := ih _ ht' hI hv hp
      refine ⟨h1, ⟨a, b, ha, hb⟩, fun x hx hx0 => ?_⟩
      rcases List.mem_cons.1 hx with rfl | hx
      · rw [ha]
        by_cases hm : nextM v x ∈ s.1
        · exact List.mem_append_left _ hm
        · exact absurd ⟨hx0, hm⟩ hc
      · exact h3 x hx hx0
theorem inv_at {n : Int} {H : List Int} {s : List Int × List (List Int)} (hI : InvM n H s) {i : Nat} (h : i < s.1.length) : s.1[i]? = some (s.1.getD i 0) ∧ s.2[i]? = some (s.2.getD i []) := by
  rw [List.getD_eq_getElem?_getD, List.getD_eq_getElem?_getD, List.getElem?_eq_getElem h, List.getElem?_eq_getElem (show i < s.2.length by rw [hI.len]; exact h)]
  exact ⟨rfl, rfl⟩
theorem go_tells {n : Int} {H : List Int} (hH : HandOk H) : ∀ (d i : Nat) (s : List Int × List (List Int)), i + d = 160 → InvM n H s → (∀ m v, m < i → s.1[m]? = some v → ∀ h ∈ H, 0 ≤ nextM v h → nextM v h ∈ s.1) → InvM n H (goM H d i s) ∧ (∃ a b, (goM H d i s).1 = s.1 ++ a ∧ (goM H d i s).2 = s.2 ++ b) ∧ ∀ v ∈ (goM H d i s).1, ∀ h ∈ H, 0 ≤ nextM v h → nextM v h ∈ (goM H d i s).1 := by
  have hend : ∀ (i : Nat) (s : List Int × List (List Int)), s.1.length ≤ i → InvM n H s → (∀ m v, m < i → s.1[m]? = some v → ∀ h ∈ H, 0 ≤ nextM v h → nextM v h ∈ s.1) → InvM n H s ∧ (∃ a b, s.1 = s.1 ++ a ∧ s.2 = s.2 ++ b) ∧ ∀ v ∈ s.1, ∀ h ∈ H, 0 ≤ nextM v h → nextM v h ∈ s.1 := fun i s hi hI hc => ⟨hI, ⟨[], [], (List.append_nil _).symm, (List.append_nil _).symm⟩, fun v hv => by
    obtain ⟨m, hm⟩ := List.mem_iff_getElem?.1 hv
    exact hc m v (by have := at_lt hm; omega) hm⟩
  intro d
  induction d with
  | zero =>
    intro i s hi hI hc
    exact hend i s (by have := hI.le; omega) hI hc
  | succ d ih =>
    intro i s hi hI hc
    simp only [goM]
    by_cases hl : i < s.1.length
    · rw [if_pos hl]
      obtain ⟨hv, hp⟩ := inv_at hI hl
      obtain ⟨h1, ⟨a, b, ha, hb⟩, h3⟩ := push_tells hH H s (fun x hx => hx) hI hv hp
      obtain ⟨g1, ⟨a', b', ga, gb⟩, g3⟩ := ih (i + 1) _ (by omega) h1 (fun m v hm hv' h hh h0 => by
        by_cases hmi : m = i
        · rw [hmi, ha, at_app hv a] at hv'
          rw [← Option.some.inj hv'] at h0 ⊢
          exact h3 h hh h0
        · have hlt : m < s.1.length := by omega
          have : s.1[m]? = some v := by rw [← hv', ha]; exact (List.getElem?_append_left hlt).symm
          rw [ha]
          exact List.mem_append_left _ (hc m v (by omega) this h hh h0))
      exact ⟨g1, ⟨a ++ a', b ++ b', by rw [ga, ha, List.append_assoc], by rw [gb, hb, List.append_assoc]⟩, g3⟩
    · rw [if_neg hl]
      exact hend i s (by omega) hI hc
theorem start_inv {n : Int} (hn : 0 ≤ n ∧ n ≤ 159) (H : List Int) : InvM n H ([n], [[]]) := by
  refine ⟨rfl, List.pairwise_singleton _ _, fun v hv => by rw [List.mem_singleton.1 hv]; exact hn, rfl, fun C c0 _ v hv => by rw [List.mem_singleton.1 hv]; exact c0, fun m v p hv hp => ?_⟩
  have := at_lt hv
  simp only [List.length_singleton] at this
  obtain rfl : m = 0 := by omega
  obtain rfl := Option.some.inj hv
  obtain rfl := Option.some.inj hp
  exact ⟨PathM.nil, Nat.zero_le _⟩
theorem final_tells {n : Int} (hn : 0 ≤ n ∧ n ≤ 159) {H : List Int} (hH : HandOk H) : InvM n H (finalM n H) ∧ ∀ v ∈ (finalM n H).1, ∀ h ∈ H, 0 ≤ nextM v h → nextM v h ∈ (finalM n H).1 := by
  obtain ⟨h1, _, h3⟩ := go_tells hH 160 0 ([n], [[]]) rfl (start_inv hn H) (fun m v hm => absurd hm (by omega))
  exact ⟨h1, h3⟩

theorem copyList_eq {b : List Int} (h : b.length ≤ 1000000) : impl_copyList.f b = some b := by
  unfold impl_copyList.f
  simp only [Option.bind_some, List.length_nil, List.nil_append]
  rw [if_pos (by omega)]
structure RelM (W : List (List Int)) (S : List Bool) (s : List Int × List (List Int)) : Prop where
  wl : W.length = 160
  sl : S.length = 160
  seen : ∀ v : Int, 0 ≤ v → v ≤ 159 → (rdOf false S v = true ↔ v ∈ s.1)
  ways : ∀ (m : Nat) (v : Int) (p : List Int), s.1[m]? = some v → s.2[m]? = some p → W[v.toNat]? = some p
theorem seen_set {S : List Bool} {L : List Int} (hl : S.length = 160) {t : Int} (h0 : 0 ≤ t) (h1 : t ≤ 159) (h : ∀ v : Int, 0 ≤ v → v ≤ 159 → (rdOf false S v = true ↔ v ∈ L)) : ∀ v : Int, 0 ≤ v → v ≤ 159 → (rdOf false (S.set t.toNat true) v = true ↔ v ∈ L ++ [t]) := by
  intro v hv0 hv1
  rw [List.mem_append, List.mem_singleton, ← h v hv0 hv1]
  by_cases hv : v = t
  · rw [hv]
    simp [rdOf, List.getD_eq_getElem?_getD, List.getElem?_set_self (show t.toNat < S.length by omega)]
  · have : rdOf false (S.set t.toNat true) v = rdOf false S v := by
      simp only [rdOf, List.getD_eq_getElem?_getD]
      rw [List.getElem?_set_ne (by omega)]
    rw [this]
    simp [hv]
theorem rel_push {n : Int} {H : List Int} {W : List (List Int)} {S : List Bool} {s : List Int × List (List Int)} (hI : InvM n H s) (hR : RelM W S s) {t : Int} {q : List Int} (h0 : 0 ≤ t) (h1 : t ≤ 159) (hn : t ∉ s.1) : RelM (W.set t.toNat q) (S.set t.toNat true) (s.1 ++ [t], s.2 ++ [q]) := by
  refine ⟨by rw [List.length_set]; exact hR.wl, by rw [List.length_set]; exact hR.sl, seen_set hR.sl h0 h1 hR.seen, fun m v p hv hp => ?_⟩
  by_cases hm : m < s.1.length
  · have e1 : s.1[m]? = some v := by rw [← hv]; exact (List.getElem?_append_left hm).symm
    have e2 : s.2[m]? = some p := by rw [← hp]; exact (List.getElem?_append_left (by rw [hI.len]; exact hm)).symm
    have hr := hI.rng v (at_mem e1)
    have hne : v ≠ t := fun e => hn (e ▸ at_mem e1)
    rw [List.getElem?_set_ne (by omega)]
    exact hR.ways m v p e1 e2
  · have hlt := at_lt hv
    simp only [List.length_append, List.length_singleton] at hlt
    obtain rfl : m = s.1.length := by omega
    have e1 : v = t := by
      rw [List.getElem?_append_right (Nat.le_refl _), Nat.sub_self] at hv
      exact (Option.some.inj hv).symm
    have e2 : p = q := by
      rw [List.getElem?_append_right (by rw [hI.len]; exact Nat.le_refl _), hI.len, Nat.sub_self] at hp
      exact (Option.some.inj hp).symm
    rw [e1, e2, List.getElem?_set_self (by rw [hR.wl]; omega)]
theorem short_in {n : Int} {H : List Int} (hH : HandOk H) (hl : H.length ≤ 1000000) {v : Int} {p : List Int} {i : Nat} (hi : i < 160) (f : List Int × List (List Int)) : ∀ (d : Nat) (j : Int) (s : List Int × List (List Int)) (W : List (List Int)) (S : List Bool), 0 ≤ j → j + d = H.length → InvM n H s → s.1[i]? = some v → s.2[i]? = some p → RelM W S s →
    (∀ W' S', RelM W' S' (pushM v p (H.drop j.toNat) s) → ∃ Wf Sf, Ev (fun k => impl_shortest.l0 k H W' S' ((pushM v p (H.drop j.toNat) s).1.drop (i + 1))) (Wf, Sf) ∧ RelM Wf Sf f) →
    ∃ Wf Sf, Ev (fun k => impl_shortest.l1 k H W S (s.1.drop (i + 1)) v H (H.length : Int) j) (Wf, Sf) ∧ RelM Wf Sf f := by
  intro d
  induction d with
  | zero =>
    intro j s W S h0 h1 hI hv hp hR hr
    rw [List.drop_eq_nil_of_le (show H.length ≤ j.toNat by omega)] at hr
    obtain ⟨Wf, Sf, h2, h3⟩ := hr W S hR
    exact ⟨Wf, Sf, Ev_succ (by
      simp only [impl_shortest.l1]
      exact Ev_neg (by omega) h2), h3⟩
  | succ d ih =>
    intro j s W S h0 h1 hI hv hp hR hr
    have hjl : j < H.length := by omega
    have hle := hI.le
    have hvr := hI.rng v (at_mem hv)
    have hpl := (hI.path i v p hv hp).2
    have hil := at_lt hv
    have hmem : rd H j ∈ H := by rw [rd_here h0 hjl]; exact List.getElem_mem _
    obtain ⟨b, g, hb, hg, hc⟩ := impl_step hvr (hand_mem hH _ hmem)
    have hww : rd_L3 W v = p := by
      show W.getD v.toNat [] = p
      rw [List.getD_eq_getElem?_getD, hR.ways i v p hv hp]
      rfl
    have hwl := hR.wl
    have hsl := hR.sl
    rw [drop_here h0 hjl] at hr
    simp only [pushM] at hr
    by_cases hpush : 0 ≤ nextM v (rd H j) ∧ nextM v (rd H j) ∉ s.1
    · rw [if_pos hpush] at hr
      rcases hc with ⟨c1, c2, c3, c4⟩ | ⟨c1, c2⟩
      · obtain ⟨Wf, Sf, h2, h3⟩ := ih (j + 1) (s.1 ++ [nextM v (rd H j)], s.2 ++ [p ++ [rd H j]]) (W.set (nextM v (rd H j)).toNat (p ++ [rd H j])) (S.set (nextM v (rd H j)).toNat true) (by omega) (by omega) (push_one hH hI hv hp hmem hpush.1 hpush.2) (at_app hv _) (at_app hp _) (rel_push hI hR c3 c4 hpush.2) hr
        refine ⟨Wf, Sf, Ev_succ (by
          simp only [impl_shortest.l1]
          rw [w64 (x := j + 1) (by omega) (by omega), hww]
          refine Ev_pos (by omega) (Ev_pos h0 (Ev_pos (by omega) (Ev_bindc hb (Ev_bindc hg (Ev_bindc c2 (Ev_pos c1 (Ev_pos c3 (Ev_pos (by omega) (Ev_neg (fun q => hpush.2 ((hR.seen _ c3 c4).1 q)) (Ev_pos hvr.1 (Ev_pos (by omega) (Ev_bindc (copyList_eq (by omega)) (Ev_pos (by omega) (Ev_pos (by omega) (Ev_pos (by rw [List.length_drop]; omega) ?_)))))))))))))))
          simp only [List.drop_append_of_le_length (show i + 1 ≤ s.1.length by omega)] at h2
          exact h2), h3⟩
      · omega
    · rw [if_neg hpush] at hr
      obtain ⟨Wf, Sf, h2, h3⟩ := ih (j + 1) s W S (by omega) (by omega) hI hv hp hR hr
      refine ⟨Wf, Sf, Ev_succ (by
        simp only [impl_shortest.l1]
        rw [w64 (x := j + 1) (by omega) (by omega)]
        refine Ev_pos (by omega) (Ev_pos h0 (Ev_pos (by omega) (Ev_bindc hb (Ev_bindc hg ?_))))
        rcases hc with ⟨c1, c2, c3, c4⟩ | ⟨c1, c2⟩
        · refine Ev_bindc c2 (Ev_pos c1 (Ev_pos c3 (Ev_pos (by omega) (Ev_pos ((hR.seen _ c3 c4).2 ?_) h2))))
          by_cases hm : nextM v (rd H j) ∈ s.1
          · exact hm
          · exact absurd ⟨c3, hm⟩ hpush
        · obtain ⟨z, hz⟩ := num_some g.1 g.2.1 g.2.2.1 g.2.2.2.1 g.2.2.2.2.1 g.2.2.2.2.2.1
          exact Ev_bindc hz (Ev_neg c1 h2)), h3⟩
theorem short_out {n : Int} {H : List Int} (hH : HandOk H) (hl : H.length ≤ 1000000) : ∀ (d i : Nat) (s : List Int × List (List Int)) (W : List (List Int)) (S : List Bool), i + d = 160 → InvM n H s → RelM W S s → ∃ Wf Sf, Ev (fun k => impl_shortest.l0 k H W S (s.1.drop i)) (Wf, Sf) ∧ RelM Wf Sf (goM H d i s) := by
  have hend : ∀ (i : Nat) (s : List Int × List (List Int)) (W : List (List Int)) (S : List Bool), s.1.length ≤ i → RelM W S s → ∃ Wf Sf, Ev (fun k => impl_shortest.l0 k H W S (s.1.drop i)) (Wf, Sf) ∧ RelM Wf Sf s := fun i s W S hi hR => ⟨W, S, Ev_succ (by
    simp only [impl_shortest.l0]
    rw [List.drop_eq_nil_of_le hi]
    exact Ev_neg (by simp) (Ev.now _)), hR⟩
  intro d
  induction d with
  | zero =>
    intro i s W S hi hI hR
    exact hend i s W S (by have := hI.le; omega) hR
  | succ d ih =>
    intro i s W S hi hI hR
    simp only [goM]
    by_cases hlt : i < s.1.length
    · rw [if_pos hlt]
      obtain ⟨hv, hp⟩ := inv_at hI hlt
      have hle := hI.le
      obtain ⟨Wf, Sf, h2, h3⟩ := short_in hH hl (show i < 160 by omega) (goM H d (i + 1) (pushM (s.1.getD i 0) (s.2.getD i []) H s)) H.length 0 s W S (by omega) (by omega) hI hv hp hR (fun W' S' hR' => ih (i + 1) _ W' S' (by omega) (push_tells hH H s (fun x hx => hx) hI hv hp).1 hR')
      have e1 : (s.1.drop i).drop (1 : Int).toNat = s.1.drop (i + 1) := by rw [List.drop_drop]; rfl
      have e2 : rd (s.1.drop i) 0 = s.1.getD i 0 := by
        show (s.1.drop i).getD 0 0 = s.1.getD i 0
        rw [List.getD_eq_getElem?_getD, List.getD_eq_getElem?_getD, List.getElem?_drop]
        rfl
      have e3 : (s.1.drop i).length = s.1.length - i := List.length_drop
      exact ⟨Wf, Sf, Ev_succ (by
        simp only [impl_shortest.l0]
        rw [e1, e2, e3]
        exact Ev_pos (by omega) (Ev_pos (by omega) (Ev_pos (by omega) h2))), h3⟩
    · rw [if_neg hlt]
      exact hend i s W S (by omega) hR
theorem shortest_ev {b0 b1 b2 b3 b4 : Bool} {d : Int} {n : Int} (hnum : impl_numberOf.f b0 b1 b2 b3 b4 d = some n) (hn : 0 ≤ n ∧ n ≤ 159) {H : List Int} (hH : HandOk H) (hl : H.length ≤ 1000000) : ∃ W S, Ev (fun k => impl_shortest.f k b0 b1 b2 b3 b4 d H) (W, S) ∧ RelM W S (finalM n H) := by
  have hR : RelM (List.replicate 160 []) ((List.replicate 160 false).set n.toNat true) ([n], [[]]) := by
    refine ⟨by rw [List.length_replicate], by rw [List.length_set, List.length_replicate], ?_, fun m v p hv hp => ?_⟩
    · have := seen_set (S := List.replicate 160 false) (L := []) (by rw [List.length_replicate]) hn.1 hn.2 (fun v h0 h1 => by
        have : ∀ n : Nat, rdOf false (List.replicate n false) v = false := fun n => by
          simp only [rdOf, List.getD_eq_getElem?_getD, List.getElem?_replicate]
          split <;> rfl
        rw [this 160]
        simp)
      exact this
    · have := at_lt hv
      simp only [List.length_singleton] at this
      obtain rfl : m = 0 := by omega
      obtain rfl := Option.some.inj hv
      obtain rfl := Option.some.inj hp
      rw [List.getElem?_replicate, if_pos (by omega)]
  obtain ⟨W, S, h2, h3⟩ := short_out hH hl 160 0 ([n], [[]]) _ _ rfl (start_inv hn H) hR
  refine ⟨W, S, ?_, h3⟩
  unfold impl_shortest.f
  refine Ev_pos (by omega) (Ev_pos (by omega) (Ev_bindc rfl (Ev_bindc hnum (Ev_bindc rfl (Ev_pos (by simp) (Ev_pos hn.1 (Ev_pos ?_ h2)))))))
  rw [List.length_replicate]
  show n < 160
  omega

/-- A number at its place, once. -/
def insM : List Int → Int → List Int
  | [], v => [v]
  | a :: t, v => if a < v then a :: insM t v else if a = v then a :: t else v :: a :: t
theorem insM_len (v : Int) : ∀ l : List Int, (insM l v).length ≤ l.length + 1 := by
  intro l
  induction l with
  | nil => simp [insM]
  | cons a t ih =>
    simp only [insM]
    split
    · simp only [List.length_cons]; omega
    · split <;> simp
theorem insM_mem (v w : Int) : ∀ l : List Int, w ∈ insM l v ↔ w ∈ l ∨ w = v := by
  intro l
  induction l with
  | nil => simp [insM]
  | cons a t ih =>
    simp only [insM]
    split
    · rw [List.mem_cons, ih, List.mem_cons, or_assoc]
    · split
      · rename_i h
        rw [h]
        constructor
        · exact .inl
        · rintro (h | rfl)
          · exact h
          · simp
      · rw [List.mem_cons, or_comm]
theorem insM_incr (v : Int) : ∀ l : List Int, l.Pairwise (· < ·) → (insM l v).Pairwise (· < ·) := by
  intro l
  induction l with
  | nil => intro _; exact List.pairwise_singleton _ _
  | cons a t ih =>
    intro h
    obtain ⟨h1, h2⟩ := List.pairwise_cons.1 h
    simp only [insM]
    by_cases hv : a < v
    · rw [if_pos hv]
      refine List.pairwise_cons.2 ⟨fun x hx => ?_, ih h2⟩
      rcases (insM_mem v x t).1 hx with hx | rfl
      · exact h1 x hx
      · exact hv
    · rw [if_neg hv]
      by_cases he : a = v
      · rw [if_pos he]; exact h
      · rw [if_neg he]
        refine List.pairwise_cons.2 ⟨fun x hx => ?_, h⟩
        rcases List.mem_cons.1 hx with rfl | hx
        · omega
        · have := h1 x hx; omega
theorem insert_ev (l : List Int) (hl : l.length ≤ 1000) (v : Int) : Ev (fun k => spec_l03Insert.f k l v) (insM l v) := by
  unfold spec_l03Insert.f
  have htail : ∀ j : Int, 0 ≤ j → j ≤ l.length → spec_l03Insert.tail l v j = some (l.take j.toNat ++ [v] ++ l.drop j.toNat) := fun j h0 h1 => by
    unfold spec_l03Insert.tail
    rw [if_pos h0, if_pos h1, if_pos (by omega)]
  have h : ∀ (d : Nat) (j : Int), 0 ≤ j → j + d = l.length → Ev (fun k => spec_l03Insert.l0 k l v j) (l.take j.toNat ++ insM (l.drop j.toNat) v) := by
    intro d
    induction d with
    | zero =>
      intro j h0 h1
      refine Ev_succ (by
        simp only [spec_l03Insert.l0]
        refine Ev_neg (by omega) (Ev_const ?_)
        rw [htail j h0 (by omega), List.drop_eq_nil_of_le (by omega), List.append_nil]
        rfl)
    | succ d ih =>
      intro j h0 h1
      have hd := drop_here h0 (show j < l.length by omega)
      refine Ev_succ (by
        simp only [spec_l03Insert.l0]
        rw [w64 (x := j + 1) (by omega) (by omega)]
        refine Ev_pos (by omega) (Ev_pos h0 (Ev_ite (fun hv => ?_) (fun hv => Ev_ite (fun he => ?_) (fun he => ?_))))
        · have := ih (j + 1) (by omega) (by omega)
          rw [hd]
          simp only [insM]
          rw [if_pos hv]
          rw [show (j + 1).toNat = j.toNat + 1 by omega, List.take_succ_eq_append_getElem (by omega), ← rd_here h0 (by omega), List.append_assoc] at this
          rw [show (j + 1).toNat = j.toNat + 1 by omega]
          exact this
        · refine Ev_some ?_
          rw [hd]
          simp only [insM]
          rw [if_neg hv, if_pos he, ← hd, List.take_append_drop]
        · refine Ev_const ?_
          rw [htail j h0 (by omega), hd]
          simp only [insM]
          rw [if_neg hv, if_neg he, List.append_assoc]
          rfl)
  exact h l.length 0 (by omega) (by omega)
/-- Numbers from j on, d of them, which are asked for. -/
def seqF (q : Int → Bool) : Nat → Int → List Int
  | 0, _ => []
  | d + 1, j => if q j = true then j :: seqF q d (j + 1) else seqF q d (j + 1)
theorem seqF_mem (q : Int → Bool) (v : Int) : ∀ (d : Nat) (j : Int), v ∈ seqF q d j ↔ j ≤ v ∧ v < j + d ∧ q v = true := by
  intro d
  induction d with
  | zero => intro j; simp only [seqF, List.not_mem_nil, false_iff]; omega
  | succ d ih =>
    intro j
    simp only [seqF]
    by_cases hq : q j = true
    · rw [if_pos hq, List.mem_cons, ih]
      constructor
      · rintro (rfl | ⟨h1, h2, h3⟩)
        · exact ⟨Int.le_refl _, by omega, hq⟩
        · exact ⟨by omega, by omega, h3⟩
      · rintro ⟨h1, h2, h3⟩
        by_cases hv : v = j
        · exact .inl hv
        · exact .inr ⟨by omega, by omega, h3⟩
    · rw [if_neg hq, ih]
      constructor
      · rintro ⟨h1, h2, h3⟩; exact ⟨by omega, by omega, h3⟩
      · rintro ⟨h1, h2, h3⟩
        by_cases hv : v = j
        · rw [hv] at h3; exact absurd h3 hq
        · exact ⟨by omega, by omega, h3⟩
theorem seqF_incr (q : Int → Bool) : ∀ (d : Nat) (j : Int), (seqF q d j).Pairwise (· < ·) := by
  intro d
  induction d with
  | zero => intro j; exact List.Pairwise.nil
  | succ d ih =>
    intro j
    simp only [seqF]
    split
    · refine List.pairwise_cons.2 ⟨fun x hx => ?_, ih _⟩
      have := (seqF_mem q x d (j + 1)).1 hx
      omega
    · exact ih _
theorem seqF_len (q : Int → Bool) : ∀ (d : Nat) (j : Int), (seqF q d j).length ≤ d := by
  intro d
  induction d with
  | zero => intro j; simp [seqF]
  | succ d ih => intro j; simp only [seqF]; have := ih (j + 1); split <;> (try simp only [List.length_cons]) <;> omega
theorem incr_eq : ∀ {l m : List Int}, l.Pairwise (· < ·) → m.Pairwise (· < ·) → (∀ v, v ∈ l ↔ v ∈ m) → l = m := by
  intro l
  induction l with
  | nil =>
    intro m _ _ h
    cases m with
    | nil => rfl
    | cons a t => exact absurd ((h a).2 (by simp)) (by simp)
  | cons a t ih =>
    intro m hl hm h
    cases m with
    | nil => exact absurd ((h a).1 (by simp)) (by simp)
    | cons b u =>
      obtain ⟨h1, h2⟩ := List.pairwise_cons.1 hl
      obtain ⟨h3, h4⟩ := List.pairwise_cons.1 hm
      have e : a = b := by
        have ha := (h a).1 (by simp)
        have hb := (h b).2 (by simp)
        rcases List.mem_cons.1 ha with e | ha
        · exact e
        · rcases List.mem_cons.1 hb with e | hb
          · exact e.symm
          · have := h3 a ha; have := h1 b hb; omega
      subst e
      refine congrArg (a :: ·) (ih h2 h4 (fun v => ⟨fun hv => ?_, fun hv => ?_⟩))
      · rcases List.mem_cons.1 ((h v).1 (List.mem_cons_of_mem _ hv)) with e | hv'
        · have := h1 v hv; omega
        · exact hv'
      · rcases List.mem_cons.1 ((h v).2 (List.mem_cons_of_mem _ hv)) with e | hv'
        · have := h3 v hv; omega
        · exact hv'
/-- The numbers that are reached, strictly increasing. -/
def reachM (n : Int) (H : List Int) : List Int := seqF (fun v => decide (v ∈ (finalM n H).1)) 160 0
theorem reachM_mem {n : Int} (hn : 0 ≤ n ∧ n ≤ 159) {H : List Int} (hH : HandOk H) (v : Int) : v ∈ reachM n H ↔ v ∈ (finalM n H).1 := by
  unfold reachM
  rw [seqF_mem]
  constructor
  · rintro ⟨_, _, h⟩; simpa using h
  · intro h
    have := (final_tells hn hH).1.rng v h
    exact ⟨by omega, by omega, by simpa using h⟩
theorem reachM_len (n : Int) (H : List Int) : (reachM n H).length ≤ 160 := seqF_len _ _ _
theorem spec_in {n : Int} {H : List Int} (hH : HandOk H) (hl : H.length ≤ 1000000) {v : Int} {p : List Int} {i : Nat} (hi : i < 160) (r : List Int) : ∀ (d : Nat) (j : Int) (s : List Int × List (List Int)), 0 ≤ j → j + d = H.length → InvM n H s → s.1[i]? = some v → s.2[i]? = some p →
    Ev (fun k => spec_l25Reached.l0 k H (pushM v p (H.drop j.toNat) s).1 ((i : Int) + 1)) r → Ev (fun k => spec_l25Reached.l1 k H s.1 (i : Int) (H.map (nextM v)) j) r := by
  intro d
  induction d with
  | zero =>
    intro j s h0 h1 hI hv hp hr
    rw [List.drop_eq_nil_of_le (by omega)] at hr
    refine Ev_succ (by
      simp only [spec_l25Reached.l1, List.length_map]
      rw [w64 (x := (i : Int) + 1) (by omega) (by omega)]
      exact Ev_neg (by omega) hr)
  | succ d ih =>
    intro j s h0 h1 hI hv hp hr
    have hjl : j < H.length := by omega
    have hle := hI.le
    have em := rd_map (n := v) h0 hjl
    have hmem : rd H j ∈ H := by rw [rd_here h0 hjl]; exact List.getElem_mem _
    rw [drop_here h0 hjl] at hr
    simp only [pushM] at hr
    refine Ev_succ (by
      simp only [spec_l25Reached.l1, List.length_map]
      rw [em, w64 (x := j + 1) (by omega) (by omega)]
      refine Ev_pos (by omega) (Ev_pos h0 (Ev_ite (fun c => Ev.bind (l01Has_ev s.1 (by omega) _) (Ev_ite (fun hh => ?_) (fun hh => ?_))) (fun c => ?_)))
      · rw [if_neg (fun q => q.2 (by simpa using hh))] at hr
        exact ih (j + 1) s (by omega) (by omega) hI hv hp hr
      · have hc : 0 ≤ nextM v (rd H j) ∧ nextM v (rd H j) ∉ s.1 := ⟨c, by simpa using hh⟩
        rw [if_pos hc] at hr
        exact Ev_pos (by omega) (ih (j + 1) (s.1 ++ [nextM v (rd H j)], s.2 ++ [p ++ [rd H j]]) (by omega) (by omega) (push_one hH hI hv hp hmem hc.1 hc.2) (at_app hv _) (at_app hp _) hr)
      · rw [if_neg (fun q => c q.1)] at hr
        exact ih (j + 1) s (by omega) (by omega) hI hv hp hr)
theorem spec_out {n : Int} {H : List Int} (hH : HandOk H) (hl : H.length ≤ 1000000) (r : List Int) : ∀ (d i : Nat) (s : List Int × List (List Int)), i + d = 160 → InvM n H s →
    Ev (fun k => spec_l25Reached.l2 k (goM H d i s).1 [] 0) r → Ev (fun k => spec_l25Reached.l0 k H s.1 (i : Int)) r := by
  intro d
  induction d with
  | zero =>
    intro i s hi hI hr
    have := hI.le
    refine Ev_succ (by
      simp only [spec_l25Reached.l0]
      exact Ev_neg (by omega) hr)
  | succ d ih =>
    intro i s hi hI hr
    simp only [goM] at hr
    by_cases hlt : i < s.1.length
    · rw [if_pos hlt] at hr
      obtain ⟨hv, hp⟩ := inv_at hI hlt
      have hrng := hI.rng _ (at_mem hv)
      refine Ev_succ (by
        simp only [spec_l25Reached.l0]
        refine Ev_pos (by omega) (Ev_pos (by omega) ?_)
        rw [show rd s.1 (i : Int) = s.1.getD i 0 from rfl]
        refine Ev.bind (next_list hrng hH hl) (spec_in hH hl (by omega) r H.length 0 s (by omega) (by omega) hI hv hp ?_)
        exact ih (i + 1) _ (by omega) (push_tells hH H s (fun x hx => hx) hI hv hp).1 hr)
    · rw [if_neg hlt] at hr
      refine Ev_succ (by
        simp only [spec_l25Reached.l0]
        exact Ev_neg (by omega) hr)
theorem ins_loop (L : List Int) (hL : L.length ≤ 160) : ∀ (d : Nat) (o : List Int) (j : Int), 0 ≤ j → j + d = L.length → o.length ≤ j → Ev (fun k => spec_l25Reached.l2 k L o j) ((L.drop j.toNat).foldl insM o) := by
  intro d
  induction d with
  | zero =>
    intro o j h0 h1 ho
    refine Ev_succ (by
      simp only [spec_l25Reached.l2]
      rw [List.drop_eq_nil_of_le (by omega)]
      exact Ev_neg (by omega) (Ev.now _))
  | succ d ih =>
    intro o j h0 h1 ho
    rw [drop_here h0 (by omega)]
    have hn := insM_len (rd L j) o
    refine Ev_succ (by
      simp only [spec_l25Reached.l2]
      rw [w64 (x := j + 1) (by omega) (by omega)]
      exact Ev_pos (by omega) (Ev_pos h0 (Ev.bind (insert_ev o (by omega) _) (ih _ (j + 1) (by omega) (by omega) (by omega)))))
theorem ins_fold : ∀ (L o : List Int), o.Pairwise (· < ·) → (L.foldl insM o).Pairwise (· < ·) ∧ ∀ v, v ∈ L.foldl insM o ↔ v ∈ o ∨ v ∈ L := by
  intro L
  induction L with
  | nil => intro o ho; exact ⟨ho, fun v => by simp⟩
  | cons a t ih =>
    intro o ho
    obtain ⟨h1, h2⟩ := ih (insM o a) (insM_incr a o ho)
    refine ⟨h1, fun v => ?_⟩
    rw [List.foldl_cons, h2, insM_mem, List.mem_cons, or_assoc]
theorem spec_reached_ev {n : Int} (hn : 0 ≤ n ∧ n ≤ 159) {H : List Int} (hH : HandOk H) (hl : H.length ≤ 1000000) : Ev (fun k => spec_l25Reached.f k n H) (reachM n H) := by
  unfold spec_l25Reached.f
  have hf := (final_tells hn hH).1
  refine spec_out hH hl (reachM n H) 160 0 ([n], [[]]) rfl (start_inv hn H) ?_
  have h := ins_loop (finalM n H).1 hf.le (finalM n H).1.length [] 0 (by omega) (by omega) (by simp)
  have e : ((finalM n H).1.drop (0 : Int).toNat).foldl insM [] = reachM n H := by
    obtain ⟨h1, h2⟩ := ins_fold (finalM n H).1 [] List.Pairwise.nil
    refine incr_eq h1 (seqF_incr _ _ _) (fun v => ?_)
    rw [reachM_mem hn hH v]
    exact (h2 v).trans (by simp)
  rw [e] at h
  exact h

theorem implR_loop {n : Int} {H : List Int} {S : List Bool} (hs : S.length = 160) (h : ∀ v : Int, 0 ≤ v → v ≤ 159 → (rdOf false S v = true ↔ v ∈ (finalM n H).1)) : ∀ (d : Nat) (o : List Int) (j : Int), 0 ≤ j → j + d = 160 → o.length ≤ j → Ev (fun k => impl_reachedFrom.l0 k o S (S.length : Int) j) (o ++ seqF (fun v => decide (v ∈ (finalM n H).1)) d j) := by
  intro d
  induction d with
  | zero =>
    intro o j h0 h1 ho
    refine Ev_succ (by
      simp only [impl_reachedFrom.l0, seqF, List.append_nil]
      exact Ev_neg (by omega) (Ev.now _))
  | succ d ih =>
    intro o j h0 h1 ho
    have hj := h j h0 (by omega)
    simp only [seqF]
    refine Ev_succ (by
      simp only [impl_reachedFrom.l0]
      rw [w64 (x := j + 1) (by omega) (by omega)]
      refine Ev_pos (by omega) (Ev_pos h0 (Ev_pos (by omega) (Ev_ite (fun c => Ev_pos (by omega) ?_) (fun c => ?_))))
      · rw [if_pos (decide_eq_true (hj.1 c))]
        have := ih (o ++ [j]) (j + 1) (by omega) (by omega) (by rw [List.length_append, List.length_singleton]; omega)
        rw [List.append_assoc] at this
        exact this
      · rw [if_neg (fun q => c (hj.2 (by simpa using q)))]
        exact ih o (j + 1) (by omega) (by omega) (by omega))
theorem impl_reached_ev {b0 b1 b2 b3 b4 : Bool} {d : Int} {n : Int} (hnum : impl_numberOf.f b0 b1 b2 b3 b4 d = some n) (hn : 0 ≤ n ∧ n ≤ 159) {H : List Int} (hH : HandOk H) (hl : H.length ≤ 1000000) : Ev (fun k => impl_reachedFrom.f k b0 b1 b2 b3 b4 d H) (reachM n H) := by
  unfold impl_reachedFrom.f
  obtain ⟨W, S, h1, h2⟩ := shortest_ev hnum hn hH hl
  exact Ev.bind h1 (implR_loop h2.sl h2.seen 160 [] 0 (by omega) (by omega) (by simp))

theorem reach_tell (b0 b1 b2 b3 b4 : Bool) (d : Int) (H : List Int) (hl : H.length ≤ 1000000) : ∃ r1 r2, Ev (fun k => spec_ReachedFrom.f k b0 b1 b2 b3 b4 d H) (r1, r2) ∧ Ev (fun k => impl_ReachedFrom.f k b0 b1 b2 b3 b4 d H) (r1, r2) ∧ r1.length ≤ 160 ∧ (if soundB b0 b1 b2 b3 b4 d = true ∧ handB H = true then r2 = 0 ∧ ∀ n, impl_numberOf.f b0 b1 b2 b3 b4 d = some n → r1 = reachM n H else r2 = 1) := by
  have hc := l25Code_ev b0 b1 b2 b3 b4 d H hl
  obtain ⟨t1, t2, t3⟩ := sound_tells b0 b1 b2 b3 b4 d
  have hi := isHand_ev H hl
  unfold spec_ReachedFrom.f impl_ReachedFrom.f
  by_cases hs : soundB b0 b1 b2 b3 b4 d = true
  · obtain ⟨n, n0, n1, hnum, hspec, _⟩ := t3 hs
    by_cases hh : HandOk H
    · rw [if_pos ⟨hs, handB_iff.2 hh⟩] at hc
      exact ⟨reachM n H, 0, Ev.bind hc (Ev_pos rfl (Ev.bind hspec (Ev.bind (spec_reached_ev ⟨n0, n1⟩ hh hl) (Ev.now _)))), Ev_bindc t2 (Ev_pos hs (Ev.bind hi (Ev_pos (handB_iff.2 hh) (Ev.bind (impl_reached_ev hnum ⟨n0, n1⟩ hh hl) (Ev.now _))))), reachM_len n H, by rw [if_pos ⟨hs, handB_iff.2 hh⟩]; exact ⟨rfl, fun n' hn' => by rw [hnum] at hn'; rw [Option.some.inj hn']⟩⟩
    · rw [if_neg (fun q => hh (handB_iff.1 q.2))] at hc
      exact ⟨[], 1, Ev.bind hc (Ev_neg (by decide) (Ev.now _)), Ev_bindc t2 (Ev_pos hs (Ev.bind hi (Ev_neg (fun q => hh (handB_iff.1 q)) (Ev.now _)))), by simp, by rw [if_neg (fun q => hh (handB_iff.1 q.2))]⟩
  · rw [if_neg (fun q => hs q.1)] at hc
    exact ⟨[], 1, Ev.bind hc (Ev_neg (by decide) (Ev.now _)), Ev_bindc t2 (Ev_neg hs (Ev.now _)), by simp, by rw [if_neg (fun q => hs q.1)]⟩

theorem numB_all : ∀ (n : Fin 160) (i : Fin 10), (!numB (n.val : Int) || decide (nextM (n.val : Int) (i.val : Int) < 0) || numB (nextM (n.val : Int) (i.val : Int))) = true := by decide +kernel
theorem numB_next {n i : Int} (h : numB n = true) (hi : 0 ≤ i ∧ i ≤ 9) (h0 : 0 ≤ nextM n i) : numB (nextM n i) = true := by
  have hn := (num_tells n).2.2 h
  have q := numB_all ⟨n.toNat, by omega⟩ ⟨i.toNat, by omega⟩
  simp only at q
  rw [show ((n.toNat : Nat) : Int) = n by omega, show ((i.toNat : Nat) : Int) = i by omega, h, decide_eq_false (by omega)] at q
  simpa using q
theorem numSound_all : ∀ (b0 b1 b2 b3 b4 : Bool) (d : Fin 5), (match impl_numberOf.f b0 b1 b2 b3 b4 (d.val : Int) with
  | some n => !soundB b0 b1 b2 b3 b4 (d.val : Int) || numB n
  | none => false) = true := by decide +kernel
theorem sound_rng {b0 b1 b2 b3 b4 : Bool} {d : Int} (h : soundB b0 b1 b2 b3 b4 d = true) : 0 ≤ d ∧ d ≤ 4 := by
  refine Classical.byContradiction (fun q => ?_)
  have e2 : impl_IsSound.f b0 b1 b2 b3 b4 d = some false := by
    unfold impl_IsSound.f
    rw [within_eq, decide_eq_false q]
    rfl
  unfold soundB at h
  rw [e2] at h
  exact absurd h (by decide)
theorem numB_sound {b0 b1 b2 b3 b4 : Bool} {d n : Int} (h : soundB b0 b1 b2 b3 b4 d = true) (hn : impl_numberOf.f b0 b1 b2 b3 b4 d = some n) : numB n = true := by
  have hd := sound_rng h
  have q := numSound_all b0 b1 b2 b3 b4 ⟨d.toNat, by omega⟩
  simp only at q
  rw [show ((d.toNat : Nat) : Int) = d by omega, hn, h] at q
  simpa using q
theorem give_all : ∀ (b0 b1 b2 b3 b4 : Bool) (d : Fin 5) (i : Fin 10), (match impl_numberOf.f b0 b1 b2 b3 b4 (d.val : Int), impl_giveInput.f b0 b1 b2 b3 b4 (d.val : Int) (i.val : Int) with
  | some n, some g => !soundB b0 b1 b2 b3 b4 (d.val : Int) || decide (nextM n (i.val : Int) < 0) || (g.2.2.2.2.2.2 == 0 && soundB g.1 g.2.1 g.2.2.1 g.2.2.2.1 g.2.2.2.2.1 g.2.2.2.2.2.1 && (impl_numberOf.f g.1 g.2.1 g.2.2.1 g.2.2.2.1 g.2.2.2.2.1 g.2.2.2.2.2.1 == some (nextM n (i.val : Int))))
  | _, _ => false) = true := by decide +kernel
theorem give_tells {b0 b1 b2 b3 b4 : Bool} {d n i : Int} (h : soundB b0 b1 b2 b3 b4 d = true) (hn : impl_numberOf.f b0 b1 b2 b3 b4 d = some n) (hi : 0 ≤ i ∧ i ≤ 9) (h0 : 0 ≤ nextM n i) : ∃ g : Bool × Bool × Bool × Bool × Bool × Int × Int, impl_GiveInput.f b0 b1 b2 b3 b4 d i = some g ∧ g.2.2.2.2.2.2 = 0 ∧ soundB g.1 g.2.1 g.2.2.1 g.2.2.2.1 g.2.2.2.2.1 g.2.2.2.2.2.1 = true ∧ impl_numberOf.f g.1 g.2.1 g.2.2.1 g.2.2.2.1 g.2.2.2.2.1 g.2.2.2.2.2.1 = some (nextM n i) := by
  have hd := sound_rng h
  have q := give_all b0 b1 b2 b3 b4 ⟨d.toNat, by omega⟩ ⟨i.toNat, by omega⟩
  simp only at q
  rw [show ((d.toNat : Nat) : Int) = d by omega, show ((i.toNat : Nat) : Int) = i by omega, hn, h] at q
  cases hg : impl_giveInput.f b0 b1 b2 b3 b4 d i with
  | none => rw [hg] at q; simp at q
  | some g =>
    rw [hg] at q
    simp only at q
    rw [decide_eq_false (show ¬ nextM n i < 0 by omega)] at q
    simp only [Bool.not_true, Bool.false_or, Bool.and_eq_true, beq_iff_eq] at q
    refine ⟨g, ?_, q.1.1, q.1.2, q.2⟩
    unfold impl_GiveInput.f
    rw [(sound_tells b0 b1 b2 b3 b4 d).2.1]
    simp only [Option.bind_some]
    rw [if_pos h, hg]
    rfl

def SafeAt (s : List Int) (i : Int) : Prop := numB (rd s i) = true ∧ (0 < i → ¬ rd s (i - 1) ≥ rd s i)
def SafeOk (s : List Int) : Prop := ∀ i : Int, 0 ≤ i → i < s.length → SafeAt s i
noncomputable def safeB (s : List Int) : Bool := open Classical in decide (SafeOk s)
theorem safeB_iff {s : List Int} : safeB s = true ↔ SafeOk s := by unfold safeB; exact @decide_eq_true_iff _ (Classical.propDecidable _)
theorem safeB_no {s : List Int} (h : ¬ SafeOk s) : safeB s = false := by rw [Bool.eq_false_iff]; exact fun q => h (safeB_iff.1 q)
theorem areSafe_ev (s : List Int) (hn : s.length ≤ 1000000) : Ev (fun k => impl_areSafe.f k s) (safeB s) := by
  unfold impl_areSafe.f
  exact Ev_allK (F := fun k i => impl_areSafe.l0 k s s (s.length : Int) i) (p := SafeAt s) (n := s.length) (bad := false) (fun i h0 h1 => ⟨fun hp hr => Ev_succ (by
    simp only [impl_areSafe.l0]
    refine Ev_pos h1 (Ev_pos h0 (Ev_pos h1 (Ev_bindc (num_tells _).2.1 ?_)))
    rw [hp.1, w64 (x := i + 1) (by omega) (by omega), w64 (x := i - 1) (by omega) (by omega)]
    exact Ev_pos rfl (Ev_ite (fun hi => Ev_pos (by omega) (Ev_pos (by omega) (Ev_neg (hp.2 hi) hr))) (fun _ => hr))), fun hp hr => Ev_succ (by
    simp only [impl_areSafe.l0]
    refine Ev_pos h1 (Ev_pos h0 (Ev_pos h1 (Ev_bindc (num_tells _).2.1 ?_)))
    rw [w64 (x := i - 1) (by omega) (by omega)]
    exact Ev_ite (fun ha => Ev_ite (fun hi => Ev_pos (by omega) (Ev_pos (by omega) (Ev_ite (fun _ => Ev_some hr.symm) (fun hb => absurd ⟨ha, fun _ => hb⟩ hp)))) (fun hi => absurd ⟨ha, fun q => absurd q hi⟩ hp)) (fun _ => Ev_some hr.symm))⟩) s.length 0 (by omega) (by omega) (fun hno => safeB_no hno) (fun hv => Ev_succ (by
    simp only [impl_areSafe.l0]
    exact Ev_neg (by omega) (Ev_some (safeB_iff.2 hv).symm)))

def HasOk (s : List Int) (has : List Bool) : Prop := has.length = 160 ∧ ∀ v : Int, 0 ≤ v → v ≤ 159 → (rdOf false has v = true ↔ v ∈ s)
theorem fill_has {s h : List Int} (hs : SafeOk s) (hsl : s.length ≤ 1000000) (d : Nat) : ∀ (has : List Bool) (i : Int), 0 ≤ i → i + d = s.length → has.length = 160 → (∀ v : Int, 0 ≤ v → v ≤ 159 → (rdOf false has v = true ↔ v ∈ s.take i.toNat)) → ∃ hf, HasOk s hf ∧ ∀ r, Ev (fun k => impl_firstLeak.l1 k h hf s (s.length : Int) 0) r → Ev (fun k => impl_firstLeak.l0 k s h has s (s.length : Int) i) r := by
  induction d with
  | zero =>
    intro has i h0 h1 hl hm
    refine ⟨has, ⟨hl, fun v h2 h3 => by rw [hm v h2 h3, show i.toNat = s.length by omega, List.take_length]⟩, fun r hr => Ev_succ (by
      simp only [impl_firstLeak.l0]
      exact Ev_neg (by omega) hr)⟩
  | succ d ih =>
    intro has i h0 h1 hl hm
    have hnum := (num_tells (rd s i)).2.2 (hs i h0 (by omega)).1
    obtain ⟨hf, h2, h3⟩ := ih (has.set (rd s i).toNat true) (i + 1) (by omega) (by omega) (by rw [List.length_set]; exact hl) (fun v h4 h5 => by
      rw [show (i + 1).toNat = i.toNat + 1 by omega, List.take_succ_eq_append_getElem (by omega), List.mem_append, List.mem_singleton, ← hm v h4 h5, ← rd_here h0 (by omega)]
      by_cases hv : v = rd s i
      · rw [hv]
        simp [rdOf, List.getD_eq_getElem?_getD, List.getElem?_set_self (show (rd s i).toNat < has.length by omega)]
      · have : rdOf false (has.set (rd s i).toNat true) v = rdOf false has v := by
          simp only [rdOf, List.getD_eq_getElem?_getD]
          rw [List.getElem?_set_ne (by omega)]
        rw [this]
        simp [hv])
    refine ⟨hf, h2, fun r hr => Ev_succ (by
      simp only [impl_firstLeak.l0]
      rw [w64 (by omega) (by omega)]
      exact Ev_pos (by omega) (Ev_pos h0 (Ev_pos (by omega) (Ev_pos hnum.1 (Ev_pos (by rw [hl]; omega) (h3 r hr))))))⟩

theorem leak_bothI {s h : List Int} (hs : SafeOk s) (hh : HandOk h) (hsl : s.length ≤ 1000000) (hhl : h.length ≤ 1000000) {has : List Bool} (hok : HasOk s has) (d : Nat) : ∀ i : Int, 0 ≤ i → i + d = s.length → ((∀ m : Int, i ≤ m → m < s.length → ∀ x ∈ h, 0 ≤ nextM (rd s m) x → nextM (rd s m) x ∈ s) ∧ Ev (fun k => impl_firstLeak.l1 k h has s (s.length : Int) i) (0, 0, false)) ∨ (∃ a b, (a ∈ s ∧ b ∈ h ∧ 0 ≤ nextM a b ∧ nextM a b ∉ s) ∧ Ev (fun k => impl_firstLeak.l1 k h has s (s.length : Int) i) (a, b, true)) := by
  induction d with
  | zero =>
    intro i h0 h1
    exact .inl ⟨fun m h2 h3 => by omega, Ev_succ (by simp only [impl_firstLeak.l1]; exact Ev_neg (by omega) (Ev.now _))⟩
  | succ d ih =>
    intro i h0 h1
    have hnum := (num_tells (rd s i)).2.2 (hs i h0 (by omega)).1
    have hinner : ∀ (e : Nat) (j : Int), 0 ≤ j → j + e = h.length → ((∀ m : Int, i + 1 ≤ m → m < s.length → ∀ x ∈ h, 0 ≤ nextM (rd s m) x → nextM (rd s m) x ∈ s) ∧ (∀ m : Int, j ≤ m → m < h.length → 0 ≤ nextM (rd s i) (rd h m) → nextM (rd s i) (rd h m) ∈ s) ∧ Ev (fun k => impl_firstLeak.l2 k h has (rd s i) s (s.length : Int) i h (h.length : Int) j) (0, 0, false)) ∨ (∃ a b, (a ∈ s ∧ b ∈ h ∧ 0 ≤ nextM a b ∧ nextM a b ∉ s) ∧ Ev (fun k => impl_firstLeak.l2 k h has (rd s i) s (s.length : Int) i h (h.length : Int) j) (a, b, true)) := by
      intro e
      induction e with
      | zero =>
        intro j h2 h3
        rcases ih (i + 1) (by omega) (by omega) with ⟨gc, g2⟩ | ⟨a, b, gx, g2⟩
        · refine .inl ⟨gc, fun m h4 h5 => by omega, Ev_succ (by simp only [impl_firstLeak.l2]; rw [w64 (x := i + 1) (by omega) (by omega)]; exact Ev_neg (by omega) g2)⟩
        · exact .inr ⟨a, b, gx, Ev_succ (by simp only [impl_firstLeak.l2]; rw [w64 (x := i + 1) (by omega) (by omega)]; exact Ev_neg (by omega) g2)⟩
      | succ e ihe =>
        intro j h2 h3
        obtain ⟨b, g, hb, hg, hc⟩ := impl_step hnum (hh j h2 (by omega)).1
        by_cases hleak : 0 ≤ nextM (rd s i) (rd h j) ∧ nextM (rd s i) (rd h j) ∉ s
        · rcases hc with ⟨c1, c2, c3, c4⟩ | ⟨c1, c2⟩
          · refine .inr ⟨rd s i, rd h j, ⟨by rw [rd_here h0 (by omega)]; exact List.getElem_mem _, by rw [rd_here h2 (by omega)]; exact List.getElem_mem _, hleak.1, hleak.2⟩, Ev_succ ?_⟩
            simp only [impl_firstLeak.l2]
            refine Ev_pos (by omega) (Ev_pos h2 (Ev_pos (by omega) (Ev_bindc hb (Ev_bindc hg (Ev_pos c1 (Ev_bindc c2 (Ev_pos c3 (Ev_pos (by rw [hok.1]; omega) (Ev_neg (fun q => hleak.2 ((hok.2 _ c3 c4).1 q)) (Ev.now _))))))))))
          · omega
        · have hgo := ihe (j + 1) (by omega) (by omega)
          have hi1 : ∀ r, Ev (fun k => impl_firstLeak.l2 k h has (rd s i) s (s.length : Int) i h (h.length : Int) (j + 1)) r → Ev (fun k => impl_firstLeak.l2 k h has (rd s i) s (s.length : Int) i h (h.length : Int) j) r := fun r hr => Ev_succ (by
            simp only [impl_firstLeak.l2]
            rw [w64 (x := j + 1) (by omega) (by omega)]
            refine Ev_pos (by omega) (Ev_pos h2 (Ev_pos (by omega) (Ev_bindc hb (Ev_bindc hg ?_))))
            rcases hc with ⟨c1, c2, c3, c4⟩ | ⟨c1, c2⟩
            · refine Ev_pos c1 (Ev_bindc c2 (Ev_pos c3 (Ev_pos (by rw [hok.1]; omega) (Ev_pos ((hok.2 _ c3 c4).2 ?_) hr))))
              by_cases hm : nextM (rd s i) (rd h j) ∈ s
              · exact hm
              · exact absurd ⟨c3, hm⟩ hleak
            · exact Ev_neg c1 hr)
          rcases hgo with ⟨gc, gd, g2⟩ | ⟨a, b', gx, g2⟩
          · refine .inl ⟨gc, fun m h4 h5 h6 => ?_, hi1 _ g2⟩
            by_cases hm : m = j
            · subst hm
              exact Classical.byContradiction (fun q => hleak ⟨h6, q⟩)
            · exact gd m (by omega) h5 h6
          · exact .inr ⟨a, b', gx, hi1 _ g2⟩
    have hi0 : ∀ r, Ev (fun k => impl_firstLeak.l2 k h has (rd s i) s (s.length : Int) i h (h.length : Int) 0) r → Ev (fun k => impl_firstLeak.l1 k h has s (s.length : Int) i) r := fun r hr => Ev_succ (by
      simp only [impl_firstLeak.l1]
      exact Ev_pos (by omega) (Ev_pos h0 (Ev_pos (by omega) hr)))
    rcases hinner h.length 0 (by omega) (by omega) with ⟨gc, gd, g2⟩ | ⟨a, b, gx, g2⟩
    · refine .inl ⟨fun m h2 h3 x hx h4 => ?_, hi0 _ g2⟩
      by_cases hm : m = i
      · subst hm
        obtain ⟨e, he⟩ := List.mem_iff_getElem?.1 hx
        obtain ⟨hl, he⟩ := List.getElem?_eq_some_iff.1 he
        have e2 : rd h (e : Int) = x := by rw [rd_here (by omega) (by omega)]; exact he
        rw [← e2] at h4 ⊢
        exact gd e (by omega) (by omega) h4
      · exact gc m (by omega) h3 x hx h4
    · exact .inr ⟨a, b, gx, hi0 _ g2⟩
theorem leak_tellsI {s h : List Int} (hs : SafeOk s) (hh : HandOk h) (hsl : s.length ≤ 1000000) (hhl : h.length ≤ 1000000) : ((∀ v ∈ s, ∀ x ∈ h, 0 ≤ nextM v x → nextM v x ∈ s) ∧ Ev (fun k => impl_firstLeak.f k s h) (0, 0, false)) ∨ (∃ a b, (a ∈ s ∧ b ∈ h ∧ 0 ≤ nextM a b ∧ nextM a b ∉ s) ∧ Ev (fun k => impl_firstLeak.f k s h) (a, b, true)) := by
  obtain ⟨hf, hok, hfill⟩ := fill_has (h := h) hs hsl s.length (List.replicate 160 false) 0 (by omega) (by omega) (by simp) (fun v h0 h1 => by
    have : ∀ n : Nat, rdOf false (List.replicate n false) v = false := fun n => by
      simp only [rdOf, List.getD_eq_getElem?_getD, List.getElem?_replicate]
      split <;> rfl
    rw [this 160]
    simp)
  unfold impl_firstLeak.f
  rcases leak_bothI hs hh hsl hhl hok s.length 0 (by omega) (by omega) with ⟨gc, g2⟩ | ⟨a, b, gx, g2⟩
  · refine .inl ⟨fun v hv x hx h4 => ?_, Ev_pos (by omega) (hfill _ g2)⟩
    obtain ⟨e, he⟩ := List.mem_iff_getElem?.1 hv
    obtain ⟨hl, he⟩ := List.getElem?_eq_some_iff.1 he
    have e2 : rd s (e : Int) = v := by rw [rd_here (by omega) (by omega)]; exact he
    rw [← e2] at h4 ⊢
    exact gc e (by omega) (by omega) x hx h4
  · exact .inr ⟨a, b, gx, Ev_pos (by omega) (hfill _ g2)⟩

theorem incr_at {l : List Int} (h : l.Pairwise (· < ·)) {i : Int} (h0 : 0 < i) (h1 : i < l.length) : rd l (i - 1) < rd l i := by
  rw [rd_here (by omega) (by omega), rd_here (by omega) h1]
  exact List.pairwise_iff_getElem.1 h _ _ _ _ (by omega)
theorem reach_num {n : Int} (hn : 0 ≤ n ∧ n ≤ 159) (hb : numB n = true) {H : List Int} (hH : HandOk H) : ∀ v ∈ reachM n H, numB v = true := fun v hv =>
  (final_tells hn hH).1.least (fun v => numB v = true) hb (fun v h hv hh h0 => numB_next hv (hand_mem hH h hh) h0) v ((reachM_mem hn hH v).1 hv)
theorem reach_safe {n : Int} (hn : 0 ≤ n ∧ n ≤ 159) (hb : numB n = true) {H : List Int} (hH : HandOk H) : SafeOk (reachM n H) := fun i h0 h1 => by
  refine ⟨reach_num hn hb hH _ (by rw [rd_here h0 h1]; exact List.getElem_mem _), fun hpos => ?_⟩
  have := incr_at (seqF_incr (fun v => decide (v ∈ (finalM n H).1)) 160 0) hpos h1
  show ¬ rd (reachM n H) (i - 1) ≥ rd (reachM n H) i
  unfold reachM
  omega
theorem reach_own {n : Int} (hn : 0 ≤ n ∧ n ≤ 159) {H : List Int} (hH : HandOk H) : n ∈ reachM n H := (reachM_mem hn hH n).2 (at_mem (final_tells hn hH).1.st)
theorem reach_closed {n : Int} (hn : 0 ≤ n ∧ n ≤ 159) {H : List Int} (hH : HandOk H) : ∀ v ∈ reachM n H, ∀ x ∈ H, 0 ≤ nextM v x → nextM v x ∈ reachM n H := fun v hv x hx h0 =>
  (reachM_mem hn hH _).2 ((final_tells hn hH).2 v ((reachM_mem hn hH v).1 hv) x hx h0)
theorem closed_ev {s H : List Int} (hs : SafeOk s) (hH : HandOk H) (hsl : s.length ≤ 1000000) (hl : H.length ≤ 1000000) (hc : ∀ v ∈ s, ∀ x ∈ H, 0 ≤ nextM v x → nextM v x ∈ s) : Ev (fun k => impl_AreClosed.f k s H) (true, 0) := by
  unfold impl_AreClosed.f
  refine Ev.bind (areSafe_ev s hsl) (Ev_pos (safeB_iff.2 hs) (Ev.bind (isHand_ev H hl) (Ev_pos (handB_iff.2 hH) ?_)))
  rcases leak_tellsI hs hH hsl hl with ⟨_, g2⟩ | ⟨a, b, ⟨x1, x2, x3, x4⟩, g2⟩
  · exact Ev.bind g2 (Ev.now _)
  · exact absurd (hc a x1 b x2 x3) x4

theorem takes_own {b : List Int} (h : b.length ≤ 1000000) : spec_l01Own.f b = some b := by
  unfold spec_l01Own.f
  simp only [Option.bind_some, List.nil_append]
  rw [if_pos (by simp; omega)]
theorem closed_j2 (c H L : List Int) {i seed : Int} (hr : Rd c i seed) (hL : L.length ≤ 170) : ∃ s, Ev (fun k => spec_DrawAreClosed.j2 k H L c i seed) (s, H) ∧ s.length ≤ 171 := by
  obtain ⟨y, i1, s1, e1, r1, _⟩ := next_tells hr 24 (by omega)
  by_cases hy : y = 0
  · obtain ⟨z, i2, s2, e2, r2, _⟩ := next_tells r1 161 (by omega)
    exact ⟨L ++ [z], Ev_succ (by
      simp only [spec_DrawAreClosed.j2, e1, e2, Option.bind_some]
      exact Ev_pos hy (Ev_pos (by omega) (Ev.now _))), by simp; omega⟩
  · exact ⟨L, Ev_succ (by
      simp only [spec_DrawAreClosed.j2, e1, Option.bind_some]
      exact Ev_neg hy (Ev.now _)), by omega⟩
theorem closed_j1 (c H L : List Int) (b : Bool) (hb : b = true → 1 < L.length) {i seed : Int} (hr : Rd c i seed) (hL : L.length ≤ 170) : ∃ s, Ev (fun k => spec_DrawAreClosed.j1 k H L b c i seed) (s, H) ∧ s.length ≤ 171 := by
  cases b with
  | true =>
    have h1 := hb rfl
    obtain ⟨z, i2, s2, e2, r2, g1, g2⟩ := next_tells hr (L.length : Int) (by omega)
    have g2 := g2 (by omega)
    have hw : wrap64 (z + 1) = z + 1 := w64 (by omega) (by omega)
    obtain ⟨s, h3, hs⟩ := closed_j2 c H (L.take z.toNat ++ L.drop (z + 1).toNat) r2 (by rw [List.length_append, List.length_take, List.length_drop]; omega)
    exact ⟨s, Ev_succ (by
      simp only [spec_DrawAreClosed.j1, if_true, e2, Option.bind_some, hw, takes_own (show (L.take z.toNat).length ≤ 1000000 by rw [List.length_take]; omega)]
      exact Ev_pos g1 (Ev_pos (by omega) (Ev_pos (by omega) (Ev_pos (by omega) (Ev_pos (by rw [List.length_take, List.length_drop]; omega) h3))))), hs⟩
  | false =>
    obtain ⟨s, h3, hs⟩ := closed_j2 c H L hr hL
    exact ⟨s, Ev_succ (by
      simp only [spec_DrawAreClosed.j1, Bool.false_eq_true, if_false]
      exact h3), hs⟩
theorem closed_j0 (c H L : List Int) {i seed : Int} (hr : Rd c i seed) (hL : L.length ≤ 170) : ∃ s, Ev (fun k => spec_DrawAreClosed.j0 k H L c i seed) (s, H) ∧ s.length ≤ 171 := by
  obtain ⟨y, i1, s1, e1, r1, _⟩ := next_tells hr 2 (by omega)
  by_cases hy : y = 0
  · obtain ⟨s, h3, hs⟩ := closed_j1 c H L (decide ((L.length : Int) > 1)) (fun q => by have := of_decide_eq_true q; omega) r1 hL
    exact ⟨s, Ev_succ (by
      simp only [spec_DrawAreClosed.j0, e1, Option.bind_some]
      exact Ev_pos hy h3), hs⟩
  · obtain ⟨s, h3, hs⟩ := closed_j1 c H L false (fun q => by cases q) r1 hL
    exact ⟨s, Ev_succ (by
      simp only [spec_DrawAreClosed.j0, e1, Option.bind_some]
      exact Ev_neg hy h3), hs⟩
theorem drawClosed_tells (c : List Int) (hc : ∀ b ∈ c, 0 ≤ b ∧ b ≤ 255) (hl : c.length ≤ 4096) : ∃ s H, Ev (fun k => spec_DrawFirstLeak.f k c) (s, H) ∧ s.length ≤ 171 ∧ H.length ≤ 11 := by
  obtain ⟨s0, h0, r0⟩ := from_tells c hc hl
  obtain ⟨b0, b1, b2, b3, b4, d, H, h1, hH⟩ := drawReached_tells c hc hl
  obtain ⟨r, e, h2, _, hr, _⟩ := reach_tell b0 b1 b2 b3 b4 d H (by omega)
  have key : ∃ s, Ev (fun k => spec_DrawAreClosed.f k c) (s, H) ∧ s.length ≤ 171 := by
    unfold spec_DrawAreClosed.f
    by_cases he : e = 0
    · obtain ⟨s, h3, hs⟩ := closed_j0 c H r r0 (by omega)
      exact ⟨s, Ev.bind h0 (Ev.bind h1 (Ev.bind h2 (Ev_pos he h3))), hs⟩
    · obtain ⟨y, i1, s1, e1, r1, _⟩ := next_tells r0 160 (by omega)
      obtain ⟨s, h3, hs⟩ := closed_j0 c H [y] r1 (by simp)
      refine ⟨s, Ev.bind h0 (Ev.bind h1 (Ev.bind h2 (Ev_neg he ?_))), hs⟩
      simp only [e1, Option.bind_some]
      exact h3
  obtain ⟨s, h3, hs⟩ := key
  refine ⟨s, H, ?_, hs, hH⟩
  unfold spec_DrawFirstLeak.f
  exact Ev.bind h3 (Ev.now _)

theorem num25_l0 (l : List Bool) (hl : l.length ≤ 100) (e : Nat) : ∀ (a b i : Int), 0 ≤ i → i + e = l.length → ∃ n, Ev (fun k => spec_l25Number.l0 k a l b i) n := by
  induction e with
  | zero =>
    intro a b i h0 h1
    exact ⟨a, Ev_succ (by
      simp only [spec_l25Number.l0]
      exact Ev_neg (by omega) (Ev.now _))⟩
  | succ e ih =>
    intro a b i h0 h1
    obtain ⟨n, hn⟩ := ih (wrap64 (a + b)) (wrap64 (2 * b)) (i + 1) (by omega) (by omega)
    obtain ⟨m, hm⟩ := ih a (wrap64 (2 * b)) (i + 1) (by omega) (by omega)
    by_cases hc : rdOf false l i = true
    · exact ⟨n, Ev_succ (by
        simp only [spec_l25Number.l0]
        rw [w64 (x := i + 1) (by omega) (by omega)]
        exact Ev_pos (by omega) (Ev_pos h0 (Ev_pos hc hn)))⟩
    · exact ⟨m, Ev_succ (by
        simp only [spec_l25Number.l0]
        rw [w64 (x := i + 1) (by omega) (by omega)]
        exact Ev_pos (by omega) (Ev_pos h0 (Ev_neg hc hm)))⟩
theorem drawWith_tells (c : List Int) (hc : ∀ b ∈ c, 0 ≤ b ∧ b ≤ 255) (hl : c.length ≤ 4096) : ∃ n, Ev (fun k => spec_DrawControllerWith.f k c) n := by
  obtain ⟨s0, h0, r0⟩ := from_tells c hc hl
  obtain ⟨y, i1, s1, e1, r1, _⟩ := next_tells r0 160 (by omega)
  obtain ⟨b0, b1, b2, b3, b4, d, i2, s2, h2, r2⟩ := good21_tells r1
  obtain ⟨n, hn⟩ := num25_l0 [b0, b1, b2, b3, b4] (by simp) 5 (wrap64 (32 * d)) 1 0 (by omega) (by simp)
  obtain ⟨z, i3, s3, e3, r3, _⟩ := pick_tells r2 [y, n, 159, 160, (-1)] (by simp) (by simp)
  refine ⟨z, ?_⟩
  unfold spec_DrawControllerWith.f
  refine Ev.bind h0 ?_
  simp only [e1, Option.bind_some]
  refine Ev.bind h2 (Ev.bind (a := n) (by unfold spec_l25Number.f; exact hn) ?_)
  simp only [e3, Option.bind_some]
  exact Ev.now _
theorem drawNum_tells (c : List Int) (hc : ∀ b ∈ c, 0 ≤ b ∧ b ≤ 255) (hl : c.length ≤ 4096) : ∃ b0 b1 b2 b3 b4 d, Ev (fun k => spec_DrawNumberOf.f k c) (b0, b1, b2, b3, b4, d) := by
  obtain ⟨s0, h0, r0⟩ := from_tells c hc hl
  obtain ⟨b0, b1, b2, b3, b4, d, i1, s1, h1, r1⟩ := draw21_tells r0
  refine ⟨b0, b1, b2, b3, b4, d, ?_⟩
  unfold spec_DrawNumberOf.f
  exact Ev.bind h0 (Ev.bind h1 (Ev.now _))

theorem l25Safe_ev (s h : List Int) (hn : s.length ≤ 1000000) (hh : h.length ≤ 1000000) : Ev (fun k => spec_l25Safe.f k s h) (if safeB s = true ∧ handB h = true then 0 else 1) := by
  unfold spec_l25Safe.f
  have hsound : spec_IsSound.f false false false false false 0 = some true := by
    unfold spec_IsSound.f
    rw [l01In_eq]
    decide
  exact Ev_allK (F := fun k i => spec_l25Safe.l0 k s h i) (p := SafeAt s) (n := s.length) (bad := 1) (fun i h0 h1 => ⟨fun hp hr => Ev_succ (by
    simp only [spec_l25Safe.l0]
    refine Ev_pos h1 (Ev_pos h0 (Ev_bindc (num_tells _).1 ?_))
    rw [hp.1, w64 (x := i + 1) (by omega) (by omega), w64 (x := i - 1) (by omega) (by omega)]
    exact Ev_pos rfl (Ev_ite (fun hi => Ev_pos (by omega) (Ev_pos (by omega) (Ev_neg (hp.2 hi) hr))) (fun _ => hr))), fun hp hr => Ev_succ (by
    simp only [spec_l25Safe.l0]
    refine Ev_pos h1 (Ev_pos h0 (Ev_bindc (num_tells _).1 ?_))
    rw [w64 (x := i - 1) (by omega) (by omega)]
    exact Ev_ite (fun ha => Ev_ite (fun hi => Ev_pos (by omega) (Ev_pos (by omega) (Ev_ite (fun _ => Ev_some hr.symm) (fun hb => absurd ⟨ha, fun _ => hb⟩ hp)))) (fun hi => absurd ⟨ha, fun q => absurd q hi⟩ hp)) (fun _ => Ev_some hr.symm))⟩) s.length 0 (by omega) (by omega) (fun hno => if_neg (fun q => hno (safeB_iff.1 q.1))) (fun hv => Ev_succ (by
    simp only [spec_l25Safe.l0]
    refine Ev_neg (by omega) (Ev.bind ?_ (Ev.now _))
    unfold spec_l25Code.f
    refine Ev_bindc hsound (Ev_pos rfl (Ev.bind (rises_ev h hh) (Ev_ite (fun q => ?_) (fun q => ?_))))
    · rw [if_pos ⟨safeB_iff.2 hv, q⟩]; exact Ev.now _
    · rw [if_neg (fun w => q w.2)]; exact Ev.now _))

theorem leak_both {s h : List Int} (hs : SafeOk s) (hh : HandOk h) (hsl : s.length ≤ 1000000) (hhl : h.length ≤ 1000000) {has : List Bool} (hok : HasOk s has) (d : Nat) : ∀ i : Int, 0 ≤ i → i + d = s.length → (Ev (fun k => spec_l25Leak.l0 k s h i) (-1, -1) ∧ Ev (fun k => impl_firstLeak.l1 k h has s (s.length : Int) i) (0, 0, false)) ∨ (∃ a b, 0 ≤ a ∧ Ev (fun k => spec_l25Leak.l0 k s h i) (a, b) ∧ Ev (fun k => impl_firstLeak.l1 k h has s (s.length : Int) i) (a, b, true)) := by
  induction d with
  | zero =>
    intro i h0 h1
    exact .inl ⟨Ev_succ (by simp only [spec_l25Leak.l0]; exact Ev_neg (by omega) (Ev.now _)), Ev_succ (by simp only [impl_firstLeak.l1]; exact Ev_neg (by omega) (Ev.now _))⟩
  | succ d ih =>
    intro i h0 h1
    have hnum := (num_tells (rd s i)).2.2 (hs i h0 (by omega)).1
    have hinner : ∀ (e : Nat) (j : Int), 0 ≤ j → j + e = h.length → (Ev (fun k => spec_l25Leak.l1 k s h i (h.map (nextM (rd s i))) j) (-1, -1) ∧ Ev (fun k => impl_firstLeak.l2 k h has (rd s i) s (s.length : Int) i h (h.length : Int) j) (0, 0, false)) ∨ (∃ a b, 0 ≤ a ∧ Ev (fun k => spec_l25Leak.l1 k s h i (h.map (nextM (rd s i))) j) (a, b) ∧ Ev (fun k => impl_firstLeak.l2 k h has (rd s i) s (s.length : Int) i h (h.length : Int) j) (a, b, true)) := by
      intro e
      induction e with
      | zero =>
        intro j h2 h3
        rcases ih (i + 1) (by omega) (by omega) with ⟨g1, g2⟩ | ⟨a, b, g0, g1, g2⟩
        · refine .inl ⟨Ev_succ (by simp only [spec_l25Leak.l1, List.length_map]; rw [w64 (x := i + 1) (by omega) (by omega)]; exact Ev_neg (by omega) g1), Ev_succ (by simp only [impl_firstLeak.l2]; rw [w64 (x := i + 1) (by omega) (by omega)]; exact Ev_neg (by omega) g2)⟩
        · exact .inr ⟨a, b, g0, Ev_succ (by simp only [spec_l25Leak.l1, List.length_map]; rw [w64 (x := i + 1) (by omega) (by omega)]; exact Ev_neg (by omega) g1), Ev_succ (by simp only [impl_firstLeak.l2]; rw [w64 (x := i + 1) (by omega) (by omega)]; exact Ev_neg (by omega) g2)⟩
      | succ e ihe =>
        intro j h2 h3
        obtain ⟨b, g, hb, hg, hc⟩ := impl_step hnum (hh j h2 (by omega)).1
        have em := rd_map (n := rd s i) h2 (show j < h.length by omega)
        by_cases hleak : 0 ≤ nextM (rd s i) (rd h j) ∧ nextM (rd s i) (rd h j) ∉ s
        · rcases hc with ⟨c1, c2, c3, c4⟩ | ⟨c1, c2⟩
          · refine .inr ⟨rd s i, rd h j, hnum.1, Ev_succ ?_, Ev_succ ?_⟩
            · simp only [spec_l25Leak.l1, List.length_map]
              rw [em]
              exact Ev_pos (by omega) (Ev_pos h2 (Ev_pos c3 (Ev.bind (l01Has_ev s (by omega) _) (Ev_neg (by simpa using hleak.2) (Ev_pos h0 (Ev_pos (by omega) (Ev_pos (by omega) (Ev.now _))))))))
            · simp only [impl_firstLeak.l2]
              refine Ev_pos (by omega) (Ev_pos h2 (Ev_pos (by omega) (Ev_bindc hb (Ev_bindc hg (Ev_pos c1 (Ev_bindc c2 (Ev_pos c3 (Ev_pos (by rw [hok.1]; omega) (Ev_neg (fun q => hleak.2 ((hok.2 _ c3 c4).1 q)) (Ev.now _))))))))))
          · omega
        · have hgo := ihe (j + 1) (by omega) (by omega)
          have hs1 : ∀ r, Ev (fun k => spec_l25Leak.l1 k s h i (h.map (nextM (rd s i))) (j + 1)) r → Ev (fun k => spec_l25Leak.l1 k s h i (h.map (nextM (rd s i))) j) r := fun r hr => Ev_succ (by
            simp only [spec_l25Leak.l1, List.length_map]
            rw [em, w64 (x := j + 1) (by omega) (by omega)]
            exact Ev_pos (by omega) (Ev_pos h2 (Ev_ite (fun c => Ev.bind (l01Has_ev s (by omega) _) (Ev_pos (by
              by_cases hm : nextM (rd s i) (rd h j) ∈ s
              · simpa using hm
              · exact absurd ⟨c, hm⟩ hleak) hr)) (fun _ => hr))))
          have hi1 : ∀ r, Ev (fun k => impl_firstLeak.l2 k h has (rd s i) s (s.length : Int) i h (h.length : Int) (j + 1)) r → Ev (fun k => impl_firstLeak.l2 k h has (rd s i) s (s.length : Int) i h (h.length : Int) j) r := fun r hr => Ev_succ (by
            simp only [impl_firstLeak.l2]
            rw [w64 (x := j + 1) (by omega) (by omega)]
            refine Ev_pos (by omega) (Ev_pos h2 (Ev_pos (by omega) (Ev_bindc hb (Ev_bindc hg ?_))))
            rcases hc with ⟨c1, c2, c3, c4⟩ | ⟨c1, c2⟩
            · refine Ev_pos c1 (Ev_bindc c2 (Ev_pos c3 (Ev_pos (by rw [hok.1]; omega) (Ev_pos ((hok.2 _ c3 c4).2 ?_) hr))))
              by_cases hm : nextM (rd s i) (rd h j) ∈ s
              · exact hm
              · exact absurd ⟨c3, hm⟩ hleak
            · exact Ev_neg c1 hr)
          rcases hgo with ⟨g1, g2⟩ | ⟨a, b', g0, g1, g2⟩
          · exact .inl ⟨hs1 _ g1, hi1 _ g2⟩
          · exact .inr ⟨a, b', g0, hs1 _ g1, hi1 _ g2⟩
    have hnext := next_list hnum hh hhl
    have hs0 : ∀ r, Ev (fun k => spec_l25Leak.l1 k s h i (h.map (nextM (rd s i))) 0) r → Ev (fun k => spec_l25Leak.l0 k s h i) r := fun r hr => Ev_succ (by
      simp only [spec_l25Leak.l0]
      exact Ev_pos (by omega) (Ev_pos h0 (Ev.bind hnext hr)))
    have hi0 : ∀ r, Ev (fun k => impl_firstLeak.l2 k h has (rd s i) s (s.length : Int) i h (h.length : Int) 0) r → Ev (fun k => impl_firstLeak.l1 k h has s (s.length : Int) i) r := fun r hr => Ev_succ (by
      simp only [impl_firstLeak.l1]
      exact Ev_pos (by omega) (Ev_pos h0 (Ev_pos (by omega) hr)))
    rcases hinner h.length 0 (by omega) (by omega) with ⟨g1, g2⟩ | ⟨a, b, g0, g1, g2⟩
    · exact .inl ⟨hs0 _ g1, hi0 _ g2⟩
    · exact .inr ⟨a, b, g0, hs0 _ g1, hi0 _ g2⟩
theorem leak_tells {s h : List Int} (hs : SafeOk s) (hh : HandOk h) (hsl : s.length ≤ 1000000) (hhl : h.length ≤ 1000000) : (Ev (fun k => spec_l25Leak.f k s h) (-1, -1) ∧ Ev (fun k => impl_firstLeak.f k s h) (0, 0, false)) ∨ (∃ a b, 0 ≤ a ∧ Ev (fun k => spec_l25Leak.f k s h) (a, b) ∧ Ev (fun k => impl_firstLeak.f k s h) (a, b, true)) := by
  obtain ⟨hf, hok, hfill⟩ := fill_has (h := h) hs hsl s.length (List.replicate 160 false) 0 (by omega) (by omega) (by simp) (fun v h0 h1 => by
    have : ∀ n : Nat, rdOf false (List.replicate n false) v = false := fun n => by
      simp only [rdOf, List.getD_eq_getElem?_getD, List.getElem?_replicate]
      split <;> rfl
    rw [this 160]
    simp)
  unfold spec_l25Leak.f impl_firstLeak.f
  rcases leak_both hs hh hsl hhl hok s.length 0 (by omega) (by omega) with ⟨g1, g2⟩ | ⟨a, b, g0, g1, g2⟩
  · exact .inl ⟨g1, Ev_pos (by omega) (hfill _ g2)⟩
  · exact .inr ⟨a, b, g0, g1, Ev_pos (by omega) (hfill _ g2)⟩

theorem leak_full {s h : List Int} (hs : SafeOk s) (hh : HandOk h) (hsl : s.length ≤ 1000000) (hhl : h.length ≤ 1000000) : ((∀ v ∈ s, ∀ x ∈ h, 0 ≤ nextM v x → nextM v x ∈ s) ∧ Ev (fun k => spec_l25Leak.f k s h) (-1, -1) ∧ Ev (fun k => impl_firstLeak.f k s h) (0, 0, false)) ∨ (∃ a b, 0 ≤ a ∧ (a ∈ s ∧ b ∈ h ∧ 0 ≤ nextM a b ∧ nextM a b ∉ s) ∧ Ev (fun k => spec_l25Leak.f k s h) (a, b) ∧ Ev (fun k => impl_firstLeak.f k s h) (a, b, true)) := by
  rcases leak_tells hs hh hsl hhl with ⟨g1, g2⟩ | ⟨a, b, g0, g1, g2⟩
  · rcases leak_tellsI hs hh hsl hhl with ⟨k1, k2⟩ | ⟨a', b', k1, k2⟩
    · exact .inl ⟨k1, g1, g2⟩
    · have := Ev_unique g2 k2
      simp at this
  · rcases leak_tellsI hs hh hsl hhl with ⟨k1, k2⟩ | ⟨a', b', k1, k2⟩
    · have := Ev_unique g2 k2
      simp at this
    · have := Ev_unique g2 k2
      simp only [Prod.mk.injEq, and_true] at this
      obtain ⟨rfl, rfl⟩ := this
      exact .inr ⟨a, b, g0, k1, g1, g2⟩
theorem fl_tells (s h : List Int) (hsl : s.length ≤ 1000000) (hhl : h.length ≤ 1000000) : ∃ n i e c o, Ev (fun k => spec_FirstLeak.f k s h) (n, i, e) ∧ Ev (fun k => impl_FirstLeak.f k s h) (n, i, e) ∧ Ev (fun k => spec_AreClosed.f k s h) (c, o) ∧ Ev (fun k => impl_AreClosed.f k s h) (c, o) ∧ ((o = 1 ∧ e = 1) ∨ (o = 0 ∧ SafeOk s ∧ HandOk h ∧ ((c = true ∧ e = 4 ∧ ∀ v ∈ s, ∀ x ∈ h, 0 ≤ nextM v x → nextM v x ∈ s) ∨ (c = false ∧ e = 0 ∧ n ∈ s ∧ i ∈ h ∧ 0 ≤ nextM n i ∧ nextM n i ∉ s)))) := by
  have hc := l25Safe_ev s h hsl hhl
  have h1 := areSafe_ev s hsl
  have h2 := isHand_ev h hhl
  unfold spec_FirstLeak.f impl_FirstLeak.f spec_AreClosed.f impl_AreClosed.f
  by_cases hs : SafeOk s
  · by_cases hh : HandOk h
    · rw [if_pos ⟨safeB_iff.2 hs, handB_iff.2 hh⟩] at hc
      have hb := handB_iff.2 hh
      rcases leak_full hs hh hsl hhl with ⟨gc, g1, g2⟩ | ⟨a, b, g0, gx, g1, g2⟩
      · refine ⟨0, 0, 4, true, 0, Ev.bind hc (Ev_pos rfl (Ev.bind g1 (Ev_pos (by decide) (Ev.now _)))), Ev.bind h1 (Ev_pos (safeB_iff.2 hs) (Ev.bind h2 (Ev_succ ?_))), Ev.bind hc (Ev_pos rfl (Ev.bind g1 (Ev_some (by decide)))), Ev.bind h1 (Ev_pos (safeB_iff.2 hs) (Ev.bind h2 (Ev_pos (handB_iff.2 hh) (Ev.bind g2 (Ev.now _))))), .inr ⟨rfl, hs, hh, .inl ⟨rfl, rfl, gc⟩⟩⟩
        rw [hb]
        simp only [impl_FirstLeak.j0, Bool.not_true, Bool.false_eq_true, if_false]
        exact Ev.bind g2 (Ev_neg (by simp) (Ev.now _))
      · refine ⟨a, b, 0, false, 0, Ev.bind hc (Ev_pos rfl (Ev.bind g1 (Ev_neg (by simp only; omega) (Ev.now _)))), Ev.bind h1 (Ev_pos (safeB_iff.2 hs) (Ev.bind h2 (Ev_succ ?_))), Ev.bind hc (Ev_pos rfl (Ev.bind g1 (Ev_some (by rw [decide_eq_false (by simp only; omega)])))), Ev.bind h1 (Ev_pos (safeB_iff.2 hs) (Ev.bind h2 (Ev_pos (handB_iff.2 hh) (Ev.bind g2 (Ev.now _))))), .inr ⟨rfl, hs, hh, .inr ⟨rfl, rfl, gx⟩⟩⟩
        rw [hb]
        simp only [impl_FirstLeak.j0, Bool.not_true, Bool.false_eq_true, if_false]
        exact Ev.bind g2 (Ev_pos rfl (Ev.now _))
    · rw [if_neg (fun q => hh (handB_iff.1 q.2))] at hc
      refine ⟨0, 0, 1, false, 1, Ev.bind hc (Ev_neg (by decide) (Ev.now _)), Ev.bind h1 (Ev_pos (safeB_iff.2 hs) (Ev.bind h2 (Ev_succ ?_))), Ev.bind hc (Ev_neg (by decide) (Ev.now _)), Ev.bind h1 (Ev_pos (safeB_iff.2 hs) (Ev.bind h2 (Ev_neg (fun q => hh (handB_iff.1 q)) (Ev.now _)))), .inl ⟨rfl, rfl⟩⟩
      rw [handB_no hh]
      simp only [impl_FirstLeak.j0, Bool.not_false, if_true]
      exact Ev.now _
  · rw [if_neg (fun q => hs (safeB_iff.1 q.1))] at hc
    exact ⟨0, 0, 1, false, 1, Ev.bind hc (Ev_neg (by decide) (Ev.now _)), Ev.bind h1 (Ev_neg (fun q => hs (safeB_iff.1 q)) (Ev_succ (by
      simp only [impl_FirstLeak.j0, if_true]
      exact Ev.now _))), Ev.bind hc (Ev_neg (by decide) (Ev.now _)), Ev.bind h1 (Ev_neg (fun q => hs (safeB_iff.1 q)) (Ev.now _)), .inl ⟨rfl, rfl⟩⟩

theorem numberOf_ok {b0 b1 b2 b3 b4 : Bool} {d n : Int} (h : soundB b0 b1 b2 b3 b4 d = true) (hn : impl_numberOf.f b0 b1 b2 b3 b4 d = some n) : impl_NumberOf.f b0 b1 b2 b3 b4 d = some (n, 0) := by
  unfold impl_NumberOf.f
  rw [(sound_tells b0 b1 b2 b3 b4 d).2.1]
  simp only [Option.bind_some]
  rw [if_pos h, hn]
  rfl

theorem hasIntB_ev (l : List Int) (h : l.length ≤ 100000000) (v : Int) : Ev (fun k => laws_hasInt.f k l v) (decide (v ∈ l)) := by
  unfold laws_hasInt.f
  exact Ev_allK (F := fun k i => laws_hasInt.l0 k l v i) (p := fun i => ¬ rd l i = v) (n := l.length) (bad := true) (fun i h0 h1 => ⟨fun hp hr => Ev_succ (by
    simp only [laws_hasInt.l0]
    rw [w64 (by omega) (by omega)]
    exact Ev_pos h1 (Ev_pos h0 (Ev_neg hp hr))), fun hp hr => Ev_succ (by
    simp only [laws_hasInt.l0]
    exact Ev_pos h1 (Ev_pos h0 (Ev_pos (by simpa using hp) (Ev_some hr.symm))))⟩) l.length 0 (by omega) (by omega) (fun hno => by
    rw [decide_eq_true_eq]
    by_cases hm : v ∈ l
    · exact hm
    · refine absurd (fun j h0 h1 he => hm ?_) hno
      rw [← he, rd_here h0 h1]
      exact List.getElem_mem _) (fun hall => Ev_succ (by
    simp only [laws_hasInt.l0]
    refine Ev_neg (by omega) (Ev_some ?_)
    symm
    rw [decide_eq_false_iff_not]
    intro hm
    obtain ⟨j, hj⟩ := List.mem_iff_getElem?.1 hm
    obtain ⟨hl, he⟩ := List.getElem?_eq_some_iff.1 hj
    refine hall (j : Int) (by omega) (by omega) ?_
    rw [rd_here (by omega) (by omega), ← he]
    rfl))

theorem wrapU64 (n : Int) : IntKind.u64.wrap n = n % 18446744073709551616 := by simp [IntKind.wrap, IntKind.bits, IntKind.signed]
theorem and_low (h : Int) : 0 ≤ Go.bits .and .u64 (IntKind.u64.wrap h / 8589934592) 16777215 ∧ Go.bits .and .u64 (IntKind.u64.wrap h / 8589934592) 16777215 ≤ 16777215 := by
  rw [wrapU64]
  have := Go.bits_mask .u64 64 (by decide) (fun n h0 h1 => by rw [wrapU64]; omega) 24 (by decide) (h % 18446744073709551616 / 8589934592) (by omega) (by omega)
  rw [show ((2 : Int) ^ 24 - 1) = 16777215 by decide] at this
  rw [this]
  omega
/-- The dice: the code's bytes, the place, the sum. -/
def Dice (c : List Int) (i h : Int) : Prop := (∀ b ∈ c, 0 ≤ b ∧ b ≤ 255) ∧ c.length ≤ 4096 ∧ 0 ≤ i ∧ i ≤ c.length
theorem roll_tells (c : List Int) (hc : ∀ b ∈ c, 0 ≤ b ∧ b ≤ 255) (hl : c.length ≤ 4096) (s0 : Int) : ∃ h, Ev (fun k => laws_roll.f k c s0) (c, 0, h) := by
  have h := Ev_for (F := fun k s i => laws_roll.l0 k c i c 0 s) (step := fun s i => .inr (IntKind.u64.wrap ((IntKind.u64.wrap ((IntKind.u64.wrap (s * 1099511628211)) + (IntKind.u64.wrap (rd c i)))) + 3))) (out := fun s => (c, 0, s)) (n := c.length) (fun s i => True)
    (fun s hI => ⟨1, fun k hk => by
      obtain ⟨k, rfl⟩ : ∃ m, k = m + 1 := ⟨k - 1, by omega⟩
      simp only [laws_roll.l0]
      rw [if_neg (by omega)]⟩)
    (fun s i h0 h1 hI => by
      refine .inr ⟨_, rfl, trivial, 0, fun k _ => ?_⟩
      simp only [laws_roll.l0]
      rw [if_pos h1, if_pos h0, w64 (x := i + 1) (by omega) (by omega)]) c.length (IntKind.u64.wrap ((IntKind.u64.wrap (s0 * 7919)) + (IntKind.u64.wrap ((c.length : Int))))) 0 (by omega) (by omega) trivial
  have h2 := forM_ind (step := fun s i => .inr (IntKind.u64.wrap ((IntKind.u64.wrap ((IntKind.u64.wrap (s * 1099511628211)) + (IntKind.u64.wrap (rd c i)))) + 3))) (out := fun s => (c, (0 : Int), s)) (n := c.length) (fun s _ => True) (fun r => ∃ s, r = (c, (0 : Int), s)) (fun s hI => ⟨s, rfl⟩)
    (fun s i h0 h1 hI => ⟨(fun r hr => by cases hr), fun _ _ => trivial⟩) c.length (IntKind.u64.wrap ((IntKind.u64.wrap (s0 * 7919)) + (IntKind.u64.wrap ((c.length : Int))))) 0 (by omega) (by omega) trivial
  obtain ⟨s, hs⟩ := h2
  refine ⟨s, ?_⟩
  rw [hs] at h
  exact h
theorem below_tells {c : List Int} {i h : Int} (hd : Dice c i h) (n : Int) (h1 : 1 ≤ n) : ∃ x i' h', laws_dice_below.f c i h n = some (x, i', h') ∧ Dice c i' h' ∧ 0 ≤ x ∧ x < n := by
  obtain ⟨hc, hl, h0, h2⟩ := hd
  obtain ⟨y, hy⟩ : ∃ y, y = Go.bits .and .u64 ((IntKind.u64.wrap ((IntKind.u64.wrap (h * 6364136223846793005)) + 1442695040888963407)) / 8589934592) 16777215 := ⟨_, rfl⟩
  have hb : 0 ≤ y ∧ y ≤ 16777215 := by rw [hy]; exact and_low _
  unfold laws_dice_below.f
  rw [← hy]
  have hm : ∀ x : Int, 0 ≤ x → 0 ≤ Int.tmod x n ∧ Int.tmod x n < n := fun x hx => by
    rw [Int.tmod_eq_emod_of_nonneg hx]
    exact ⟨Int.emod_nonneg x (by omega), Int.emod_lt_of_pos x (by omega)⟩
  rw [w64 (x := y) (by omega) (by omega)]
  by_cases hi : i < (c.length : Int)
  · have hr := rd_byte hc i
    have r2 := hm (y + rd c i) (by omega)
    rw [if_pos hi, if_pos h0, if_neg (by omega), w64 (x := rd c i) (by omega) (by omega), w64 (x := y + rd c i) (by omega) (by omega), w64 (x := i + 1) (by omega) (by omega)]
    exact ⟨_, _, _, rfl, ⟨hc, hl, by omega, by omega⟩, r2.1, r2.2⟩
  · have r3 := hm y (by omega)
    rw [if_neg hi, if_neg (by omega)]
    exact ⟨_, _, _, rfl, ⟨hc, hl, h0, h2⟩, r3.1, r3.2⟩

theorem proofs_j6 {s H : List Int} (hsl : s.length ≤ 1000000) (hl : H.length ≤ 1000000) {n i e : Int} (hs : SafeOk s) (hH : HandOk H) (h : e = 0 → n ∈ s ∧ i ∈ H ∧ 0 ≤ nextM n i ∧ nextM n i ∉ s) : Ev (fun k => laws_FnProofs.j6 k s H n i e) true := by
  refine Ev_succ (by
    simp only [laws_FnProofs.j6]
    refine Ev_ite (fun he => ?_) (fun _ => Ev.now _)
    obtain ⟨h1, h2, h3, h4⟩ := h he
    obtain ⟨m, hm⟩ := List.mem_iff_getElem?.1 h1
    obtain ⟨hml, hme⟩ := List.getElem?_eq_some_iff.1 hm
    have e2 : rd s (m : Int) = n := by rw [rd_here (by omega) (by omega)]; exact hme
    have hb : numB n = true := by rw [← e2]; exact (hs m (by omega) (by omega)).1
    obtain ⟨g, g1, _, g3, _⟩ := with_tells n
    obtain ⟨q1, q2, q3⟩ := g3 hb
    obtain ⟨x, x1, x2, x3, x4⟩ := give_tells q2 q3 (hand_mem hH i h2) h3
    exact Ev_bindc g1 (Ev_bindc x1 (Ev_bindc (numberOf_ok x3 x4) (Ev_pos q1 (Ev_pos x2 (Ev_pos rfl (Ev.bind (hasIntB_ev s (by omega) n) (Ev_pos (decide_eq_true h1) (Ev.bind (hasIntB_ev s (by omega) (nextM n i)) (Ev_neg (by simpa using h4) (Ev.bind (hasIntB_ev H (by omega) i) (Ev_some (decide_eq_true h2)))))))))))))
theorem proofs_l0 {s H r : List Int} (hsl : s.length ≤ 1000000) (hrl : r.length ≤ 1000000) {n i e : Int} (hr : ∀ v ∈ r, v ∈ s) (h6 : Ev (fun k => laws_FnProofs.j6 k s H n i e) true) (d : Nat) : ∀ j : Int, 0 ≤ j → j + d = r.length → Ev (fun k => laws_FnProofs.l0 k s H n i e r j) true := by
  induction d with
  | zero =>
    intro j h0 h1
    exact Ev_succ (by
      simp only [laws_FnProofs.l0]
      exact Ev_neg (by omega) h6)
  | succ d ih =>
    intro j h0 h1
    exact Ev_succ (by
      simp only [laws_FnProofs.l0]
      rw [w64 (x := j + 1) (by omega) (by omega)]
      exact Ev_pos (by omega) (Ev_pos h0 (Ev.bind (hasIntB_ev s (by omega) _) (Ev_pos (decide_eq_true (hr _ (by rw [rd_here h0 (by omega)]; exact List.getElem_mem _))) (ih (j + 1) (by omega) (by omega))))))
theorem FnProofs : laws_FnProofs.Pure := by
  intro c hn0 hn1 hw
  have hc := bytes_of hw
  refine Ev.rounds ?_
  unfold laws_FnProofs.f
  rw [big_eq]
  simp only [Option.bind_some, decide_eq_true_eq]
  refine Ev_ite (fun _ => Ev.now _) (fun hb => ?_)
  have hl : c.length ≤ 4096 := by omega
  obtain ⟨s, H, h1, hsl, hHl⟩ := drawClosed_tells c hc hl
  obtain ⟨n, i, e, cl, o, f1, f2, f3, f4, f5⟩ := fl_tells s H (by omega) (by omega)
  obtain ⟨kn, h2⟩ := drawWith_tells c hc hl
  obtain ⟨g, g1, g2, g3, g4⟩ := with_tells kn
  obtain ⟨b0, b1, b2, b3, b4, d, h3⟩ := drawNum_tells c hc hl
  obtain ⟨r1, r2, n1, n2, n3⟩ := nof_tells b0 b1 b2 b3 b4 d
  refine Ev.bind h1 (Ev.bind f2 (Ev.bind f1 (Ev.bind f4 (Ev.bind f3 (Ev.bind h2 (Ev_bindc g1 (Ev_bindc g2 (Ev.bind h3 (Ev_bindc n2 (Ev.bind n1 ?_))))))))))
  refine Ev_pos rfl (Ev_pos rfl (Ev_pos rfl (Ev_pos rfl (Ev_neg (by simp) (Ev_pos rfl (Ev_neg (by simp) (Ev_pos rfl ?_)))))))
  have er : ((r1, r2).1 != (r1, r2).1) = false := by simp
  simp only [er]
  have hj2 : Ev (fun k => laws_FnProofs.j2 k c s H n i e cl o) true := by
    rcases f5 with ⟨q1, q2⟩ | ⟨q1, hs, hH, q⟩
    · exact Ev_succ (by
        simp only [laws_FnProofs.j2]
        exact Ev_neg (by omega) (Ev_some (by rw [q1, q2]; rfl)))
    · rcases q with ⟨q2, q3, q4⟩ | ⟨q2, q3, q4⟩
      · have h6 : Ev (fun k => laws_FnProofs.j6 k s H n i e) true := proofs_j6 (by omega) (by omega) hs hH (fun q => by omega)
        refine Ev_succ (by
          simp only [laws_FnProofs.j2]
          refine Ev_pos q1 (Ev_neg (by rw [q2, q3]; simp) (Ev_pos q2 (Ev_succ ?_)))
          simp only [laws_FnProofs.j3, decide_eq_true_eq]
          refine Ev_ite (fun hpos => ?_) (fun _ => h6)
          obtain ⟨hh, h0⟩ := roll_tells c hc hl 2501
          obtain ⟨x, i', h', e1, _, x0, x1⟩ := below_tells (c := c) (i := 0) (h := hh) ⟨hc, hl, by omega, by omega⟩ (s.length : Int) (by omega)
          refine Ev.bind h0 (Ev_bindc e1 (Ev_pos x0 (Ev_pos x1 ?_)))
          have hnb := (hs x x0 x1).1
          obtain ⟨w, w1, _, w3, _⟩ := with_tells (rd s x)
          obtain ⟨y1, y2, y3⟩ := w3 hnb
          obtain ⟨r, e', _, t2, t3, t4⟩ := reach_tell w.1 w.2.1 w.2.2.1 w.2.2.2.1 w.2.2.2.2.1 w.2.2.2.2.2.1 H (by omega)
          rw [if_pos ⟨y2, handB_iff.2 hH⟩] at t4
          obtain ⟨rfl, t5⟩ := t4
          have hrr := t5 _ y3
          have hn := (num_tells (rd s x)).2.2 hnb
          refine Ev_bindc w1 (Ev.bind t2 (Ev_pos y1 (Ev_succ ?_)))
          have ez : (((0 : Int)) != 0) = false := by decide
          simp only [laws_FnProofs.j4, ez, Bool.false_eq_true, if_false]
          refine proofs_l0 (by omega) (by omega) (fun v hv => ?_) h6 r.length 0 (by omega) (by omega)
          rw [hrr] at hv
          exact (final_tells hn hH).1.least (fun v => v ∈ s) (by rw [rd_here x0 x1]; exact List.getElem_mem _) (fun v h hv hh h0 => q4 v hv h hh h0) v ((reachM_mem hn hH v).1 hv))
      · have h6 : Ev (fun k => laws_FnProofs.j6 k s H n i e) true := proofs_j6 (by omega) (by omega) hs hH (fun _ => q4)
        exact Ev_succ (by
          simp only [laws_FnProofs.j2]
          refine Ev_pos q1 (Ev_neg (by rw [q2, q3]; simp) (Ev_neg (by rw [q2]; simp) (Ev_succ ?_)))
          simp only [laws_FnProofs.j3, Bool.false_eq_true, if_false]
          exact h6)
  have hj1 : Ev (fun k => laws_FnProofs.j1 k c s H n i e cl o r1 r2 b0 b1 b2 b3 b4 d) true := Ev_succ (by
    simp only [laws_FnProofs.j1]
    refine Ev_ite (fun h0 => ?_) (fun _ => hj2)
    obtain ⟨m1, m2, m3⟩ := n3 h0
    have hnb := numB_sound m1 m2
    have e1 : impl_ControllerWith.f r1 = some (b0, b1, b2, b3, b4, d, 0) := by
      unfold impl_ControllerWith.f
      rw [(num_tells r1).2.1]
      simp only [Option.bind_some]
      rw [if_pos hnb, m3]
      rfl
    exact Ev_bindc e1 (Ev_pos rfl (Ev_neg (by simp) hj2)))
  refine Ev_succ (by
    simp only [laws_FnProofs.j0, Bool.false_eq_true, if_false]
    refine Ev_ite (fun h0 => ?_) (fun _ => hj1)
    have hnb := g4 h0
    obtain ⟨_, y2, y3⟩ := g3 hnb
    exact Ev_bindc (numberOf_ok y2 y3) (Ev_pos rfl (Ev_pos rfl (Ev_bindc (sound_tells _ _ _ _ _ _).2.1 (Ev_pos y2 hj1)))))



end Go.Proofs.Ythieppjmjgijfaa.Pure
