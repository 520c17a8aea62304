/- The statement over numbers and lists for FnExactShortestInputs: the reference and the program answer alike for all arguments. -/
import Derived.Test.YthieppjmjgijfaaXFnExactShortestInputs
set_option linter.unusedVariables false
set_option linter.unusedSimpArgs false
namespace Go.Proofs.Ythieppjmjgijfaa.Pure
open Go.RowKit Go.Proofs.Ythieppjmjgijfaa.PFnExactShortestInputs Go.Proofs.YthieppjmjgijfaaW.PrintWords Go.Proofs.YthieppjmjgijfaaW.PrintLast Go.Proofs.YthieppjmjgijfaaW.PrintMore
open Go.Proofs.YthieppjmjgijfaaX

theorem w64 {x : Int} (h0 : -9223372036854775808 ≤ x) (h1 : x ≤ 9223372036854775807) : wrap64 x = x := by unfold wrap64; omega
theorem Ev_ite {α : Type} {c : Prop} [Decidable c] {g h : Nat → Option α} {r : α} (h1 : c → Ev g r) (h2 : ¬ c → Ev h r) : Ev (fun k => if c then g k else h k) r := by
  by_cases hc : c
  · obtain ⟨K, hK⟩ := h1 hc
    exact ⟨K, fun k hk => (if_pos hc).trans (hK k hk)⟩
  · obtain ⟨K, hK⟩ := h2 hc
    exact ⟨K, fun k hk => (if_neg hc).trans (hK k hk)⟩
theorem Ev_pos {α : Type} {c : Prop} [Decidable c] {g h : Nat → Option α} {r : α} (hc : c) (h1 : Ev g r) : Ev (fun k => if c then g k else h k) r := Ev_ite (fun _ => h1) (fun n => absurd hc n)
theorem Ev_neg {α : Type} {c : Prop} [Decidable c] {g h : Nat → Option α} {r : α} (hc : ¬ c) (h1 : Ev h r) : Ev (fun k => if c then g k else h k) r := Ev_ite (fun n => absurd n hc) (fun _ => h1)
theorem Ev_some {α : Type} {r q : α} (h : r = q) : Ev (fun _ => some r) q := h ▸ Ev.now r
theorem Ev_eq {α : Type} {g : Nat → Option α} {r q : α} (h : r = q) (k : Ev g r) : Ev g q := h ▸ k
theorem Ev_const {α : Type} {o : Option α} {r : α} (h : o = some r) : Ev (fun _ => o) r := by subst h; exact Ev.now r
theorem Ev_bindc {α β : Type} {o : Option α} {f : Nat → α → Option β} {a : α} {r : β} (h : o = some a) (k : Ev (fun n => f n a) r) : Ev (fun n => o.bind (f n)) r := by subst h; exact k
theorem Ev_unique {α : Type} {g : Nat → Option α} {r q : α} (h : Ev g r) (k : Ev g q) : r = q := by
  obtain ⟨K, h⟩ := h
  obtain ⟨L, k⟩ := k
  have h1 := h (max K L) (by omega)
  have h2 := k (max K L) (by omega)
  rw [h1] at h2
  exact Option.some.inj h2
theorem lit64 {x : Int} (h : (Lit.int .i64 x).wf = true) : -9223372036854775808 ≤ x ∧ x ≤ 9223372036854775807 := by
  have h := h
  simp [Lit.wf, IntKind.min, IntKind.max, IntKind.bits, IntKind.signed] at h
  omega
theorem mn_eq (a b : Int) : mn a b = min a b := by unfold mn; omega
theorem mx_eq (a b : Int) : mx a b = max a b := by unfold mx; omega

theorem within_eq (a lo hi : Int) : impl_within.f a lo hi = some (decide (lo ≤ a ∧ a ≤ hi)) := by
  unfold impl_within.f
  by_cases h : lo ≤ a <;> simp [h]

theorem l01In_eq (a lo hi : Int) : spec_l01In.f a lo hi = some (decide (lo ≤ a ∧ a ≤ hi)) := by
  unfold spec_l01In.f
  by_cases h : a ≥ lo
  · have : lo ≤ a := h
    simp [this]
  · have : ¬ lo ≤ a := h
    simp [this]

/-- A loop over the numbers 0 to n - 1: d rounds from i on. -/
def forM {S ρ : Type} (step : S → Int → ρ ⊕ S) (out : S → ρ) : Nat → S → Int → ρ
  | 0, s, _ => out s
  | d + 1, s, i => match step s i with
    | .inl r => r
    | .inr s' => forM step out d s' (i + 1)
theorem Ev_for {S ρ : Type} {F : Nat → S → Int → Option ρ} {step : S → Int → ρ ⊕ S} {out : S → ρ} {n : Nat} (Inv : S → Int → Prop)
    (hend : ∀ s, Inv s n → ∃ K, ∀ k, K ≤ k → F k s n = some (out s))
    (hstep : ∀ (s : S) (i : Int), 0 ≤ i → i < n → Inv s i → (∃ r, step s i = .inl r ∧ ∃ K, ∀ k, K ≤ k → F k s i = some r) ∨ (∃ s', step s i = .inr s' ∧ Inv s' (i + 1) ∧ ∃ K, ∀ k, K ≤ k → F (k + 1) s i = F k s' (i + 1))) :
    ∀ (d : Nat) (s : S) (i : Int), 0 ≤ i → i + d = n → Inv s i → Ev (fun k => F k s i) (forM step out d s i) := by
  intro d
  induction d with
  | zero =>
    intro s i h0 h1 hI
    obtain rfl : i = n := by omega
    exact hend s hI
  | succ d ih =>
    intro s i h0 h1 hI
    rcases hstep s i h0 (by omega) hI with ⟨r, hr, hK⟩ | ⟨s', hs, hI', K, hK⟩
    · simp only [forM, hr]
      exact hK
    · simp only [forM, hs]
      obtain ⟨K', h⟩ := ih s' (i + 1) (by omega) (by omega) hI'
      refine ⟨K + K' + 1, fun k hk => ?_⟩
      obtain ⟨k, rfl⟩ : ∃ m, k = m + 1 := ⟨k - 1, by omega⟩
      exact (hK k (by omega)).trans (h k (by omega))
/-- What holds at the end of a loop. -/
theorem forM_ind {S ρ : Type} {step : S → Int → ρ ⊕ S} {out : S → ρ} {n : Nat} (Inv : S → Int → Prop) (Post : ρ → Prop) (hend : ∀ s, Inv s n → Post (out s))
    (hstep : ∀ (s : S) (i : Int), 0 ≤ i → i < n → Inv s i → (∀ r, step s i = .inl r → Post r) ∧ ∀ s', step s i = .inr s' → Inv s' (i + 1)) : ∀ (d : Nat) (s : S) (i : Int), 0 ≤ i → i + d = n → Inv s i → Post (forM step out d s i) := by
  intro d
  induction d with
  | zero =>
    intro s i h0 h1 hI
    obtain rfl : i = n := by omega
    exact hend s hI
  | succ d ih =>
    intro s i h0 h1 hI
    obtain ⟨h2, h3⟩ := hstep s i h0 (by omega) hI
    simp only [forM]
    cases hs : step s i with
    | inl r => exact h2 r hs
    | inr s' => exact ih s' (i + 1) (by omega) (by omega) (h3 s' hs)

theorem Ev_succ {α : Type} {g : Nat → Option α} {r : α} (h : Ev (fun k => g (k + 1)) r) : Ev g r := Ev.step (fun _ => rfl) h
theorem Ev_for2 {S ρ : Type} {F : Nat → S → Int → Option ρ} {step : S → Int → ρ ⊕ S} {out : S → ρ} {n : Nat} (Inv : S → Int → Prop)
    (hend : ∀ s, Inv s n → Ev (fun k => F k s n) (out s))
    (hstep : ∀ (s : S) (i : Int), 0 ≤ i → i < n → Inv s i → (∃ r, step s i = .inl r ∧ Ev (fun k => F k s i) r) ∨ (∃ s', step s i = .inr s' ∧ Inv s' (i + 1) ∧ ∀ r, Ev (fun k => F k s' (i + 1)) r → Ev (fun k => F k s i) r)) :
    ∀ (d : Nat) (s : S) (i : Int), 0 ≤ i → i + d = n → Inv s i → Ev (fun k => F k s i) (forM step out d s i) := by
  intro d
  induction d with
  | zero =>
    intro s i h0 h1 hI
    obtain rfl : i = n := by omega
    exact hend s hI
  | succ d ih =>
    intro s i h0 h1 hI
    rcases hstep s i h0 (by omega) hI with ⟨r, hr, hK⟩ | ⟨s', hs, hI', hK⟩
    · simp only [forM, hr]
      exact hK
    · simp only [forM, hs]
      exact hK _ (ih s' (i + 1) (by omega) (by omega) hI')
/-- A loop over a list that only gathers: a fold. -/
theorem forM_fold {S ρ α : Type} (xs : List α) (rdx : Int → α) (hrd : ∀ (j : Nat) (h : j < xs.length), rdx j = xs[j]) (upd : S → α → S) (out : S → ρ) (d : Nat) : ∀ (s : S) (i : Nat), i + d = xs.length →
    forM (ρ := ρ) (fun s i => .inr (upd s (rdx i))) out d s i = out ((xs.drop i).foldl upd s) := by
  induction d with
  | zero =>
    intro s i hi
    rw [List.drop_eq_nil_of_le (by omega)]
    rfl
  | succ d ih =>
    intro s i hi
    rw [List.drop_eq_getElem_cons (show i < xs.length by omega)]
    simp only [forM, List.foldl_cons]
    have := ih (upd s (rdx i)) (i + 1) (by omega)
    rw [← hrd i (by omega)]
    exact this
theorem forM_fold0 {S ρ α : Type} (xs : List α) (rdx : Int → α) (hrd : ∀ (j : Nat) (h : j < xs.length), rdx j = xs[j]) (upd : S → α → S) (out : S → ρ) (s : S) :
    forM (ρ := ρ) (fun s i => .inr (upd s (rdx i))) out xs.length s 0 = out (xs.foldl upd s) := by
  have := forM_fold xs rdx hrd upd out xs.length s 0 (by omega)
  rw [List.drop_zero] at this
  exact this
/-- A loop that looks at each place, and stops at the first that fails. -/
theorem forM_all {p : Int → Bool} {b : Bool} {n : Nat} (d : Nat) : ∀ i : Int, 0 ≤ i → i + d = n → (forM (S := Unit) (ρ := Bool) (fun _ i => if p i = true then .inr () else .inl false) (fun _ => b) d () i = true ↔ b = true ∧ ∀ j : Int, i ≤ j → j < n → p j = true) := by
  induction d with
  | zero =>
    intro i h0 hi
    simp only [forM]
    exact ⟨fun h => ⟨h, fun j h1 h2 => by omega⟩, fun h => h.1⟩
  | succ d ih =>
    intro i h0 hi
    simp only [forM]
    by_cases hp : p i = true
    · rw [if_pos hp]
      refine (ih (i + 1) (by omega) (by omega)).trans ⟨fun h => ⟨h.1, fun j h1 h2 => ?_⟩, fun h => ⟨h.1, fun j h1 h2 => h.2 j (by omega) h2⟩⟩
      by_cases hj : j = i
      · rw [hj]; exact hp
      · exact h.2 j (by omega) h2
    · rw [if_neg hp]
      exact ⟨(fun h => by cases h), fun h => absurd (h.2 i (Int.le_refl _) (by omega)) hp⟩

/-- A loop that never stops before its end. -/
def foldU {S : Type} (upd : S → Int → S) : Nat → S → Int → S
  | 0, s, _ => s
  | d + 1, s, i => foldU upd d (upd s i) (i + 1)
theorem foldU_ind {S : Type} {upd : S → Int → S} {n : Int} (Inv : S → Int → Prop) (hstep : ∀ (s : S) (i : Int), 0 ≤ i → i < n → Inv s i → Inv (upd s i) (i + 1)) : ∀ (d : Nat) (s : S) (i : Int), 0 ≤ i → i + d = n → Inv s i → Inv (foldU upd d s i) n := by
  intro d
  induction d with
  | zero => intro s i h0 h1 hI; obtain rfl : i = n := by omega
            exact hI
  | succ d ih => intro s i h0 h1 hI; exact ih _ _ (by omega) (by omega) (hstep s i h0 (by omega) hI)
theorem Ev_forK {S τ : Type} {F : Nat → S → Int → Option τ} {upd : S → Int → S} {n : Int} {r : τ} (Inv : S → Int → Prop)
    (hstep : ∀ (s : S) (i : Int), 0 ≤ i → i < n → Inv s i → Inv (upd s i) (i + 1) ∧ (Ev (fun k => F k (upd s i) (i + 1)) r → Ev (fun k => F k s i) r)) :
    ∀ (d : Nat) (s : S) (i : Int), 0 ≤ i → i + d = n → Inv s i → (Inv (foldU upd d s i) n → Ev (fun k => F k (foldU upd d s i) n) r) → Ev (fun k => F k s i) r := by
  intro d
  induction d with
  | zero => intro s i h0 h1 hI h; obtain rfl : i = n := by omega
            exact h hI
  | succ d ih =>
    intro s i h0 h1 hI h
    obtain ⟨h2, h3⟩ := hstep s i h0 (by omega) hI
    exact h3 (ih _ _ (by omega) (by omega) h2 h)

theorem Ev_allK {τ : Type} {F : Nat → Int → Option τ} {p : Int → Prop} {n : Int} {r bad : τ}
    (hstep : ∀ i : Int, 0 ≤ i → i < n → (p i → Ev (fun k => F k (i + 1)) r → Ev (fun k => F k i) r) ∧ (¬ p i → r = bad → Ev (fun k => F k i) r)) :
    ∀ (d : Nat) (i : Int), 0 ≤ i → i + d = n → (¬ (∀ j : Int, i ≤ j → j < n → p j) → r = bad) → ((∀ j : Int, i ≤ j → j < n → p j) → Ev (fun k => F k n) r) → Ev (fun k => F k i) r := by
  intro d
  induction d with
  | zero => intro i h0 h1 _ h; obtain rfl : i = n := by omega
            exact h (fun j h2 h3 => by omega)
  | succ d ih =>
    intro i h0 h1 hb hg
    obtain ⟨h2, h3⟩ := hstep i h0 (by omega)
    by_cases hp : p i
    · refine h2 hp (ih (i + 1) (by omega) (by omega) (fun h => hb (fun q => h (fun j h4 h5 => q j (by omega) h5))) (fun h => hg (fun j h4 h5 => ?_)))
      by_cases hj : j = i
      · rw [hj]; exact hp
      · exact h j (by omega) h5
    · exact h3 hp (hb (fun q => hp (q i (Int.le_refl _) (by omega))))

def HandAt (h : List Int) (i : Int) : Prop := (0 ≤ rd h i ∧ rd h i ≤ 9) ∧ (0 < i → rd h (i - 1) < rd h i)
def HandOk (h : List Int) : Prop := ∀ i : Int, 0 ≤ i → i < h.length → HandAt h i
noncomputable def handB (h : List Int) : Bool := open Classical in decide (HandOk h)
theorem handB_iff {h : List Int} : handB h = true ↔ HandOk h := by unfold handB; exact @decide_eq_true_iff _ (Classical.propDecidable _)
theorem handB_no {s : List Int} (h : ¬ HandOk s) : handB s = false := by rw [Bool.eq_false_iff]; exact fun q => h (handB_iff.1 q)
theorem rises_ev (s : List Int) (hn : s.length ≤ 1000000) : Ev (fun k => spec_l01Rises.f k s 10) (handB s) := by
  unfold spec_l01Rises.f
  have w9 : wrap64 (10 - 1) = 9 := by rw [w64 (by omega) (by omega)]; omega
  exact Ev_allK (F := fun k i => spec_l01Rises.l0 k s 10 i) (p := HandAt s) (n := s.length) (bad := false) (fun i h0 h1 => ⟨fun hp hr => Ev_succ (by
    simp only [spec_l01Rises.l0, w9, l01In_eq, Option.bind_some, decide_eq_true_eq]
    rw [w64 (x := i + 1) (by omega) (by omega), w64 (x := i - 1) (by omega) (by omega)]
    exact Ev_pos h1 (Ev_pos h0 (Ev_pos hp.1 (Ev_ite (fun hi => Ev_pos (by omega) (Ev_pos (by omega) (Ev_neg (by have := hp.2 hi; omega) hr))) (fun _ => hr))))), fun hp hr => Ev_succ (by
    simp only [spec_l01Rises.l0, w9, l01In_eq, Option.bind_some, decide_eq_true_eq]
    rw [w64 (x := i - 1) (by omega) (by omega)]
    exact Ev_pos h1 (Ev_pos h0 (Ev_ite (fun ha => Ev_ite (fun hi => Ev_pos (by omega) (Ev_pos (by omega) (Ev_ite (fun _ => Ev_some hr.symm) (fun hb => absurd ⟨ha, fun _ => by omega⟩ hp)))) (fun hi => absurd ⟨ha, fun q => absurd q hi⟩ hp)) (fun _ => Ev_some hr.symm))))⟩) s.length 0 (by omega) (by omega) (fun hno => handB_no hno) (fun hv => Ev_succ (by
    simp only [spec_l01Rises.l0]
    exact Ev_neg (by omega) (Ev_some (handB_iff.2 hv).symm)))
theorem isHand_ev (s : List Int) (hn : s.length ≤ 1000000) : Ev (fun k => impl_isHand.f k s) (handB s) := by
  unfold impl_isHand.f
  have hall : Ev (fun k => impl_allWithin.f k s 0 9) (open Classical in decide (∀ i : Int, 0 ≤ i → i < s.length → 0 ≤ rd s i ∧ rd s i ≤ 9)) := by
    unfold impl_allWithin.f
    exact Ev_allK (F := fun k i => impl_allWithin.l0 k 0 9 s (s.length : Int) i) (p := fun i => 0 ≤ rd s i ∧ rd s i ≤ 9) (n := s.length) (bad := false) (fun i h4 h5 => ⟨fun hp hr => Ev_succ (by
      simp only [impl_allWithin.l0, within_eq, Option.bind_some, decide_eq_true_eq]
      rw [w64 (by omega) (by omega)]
      exact Ev_pos h5 (Ev_pos h4 (Ev_pos h5 (Ev_pos hp hr)))), fun hp hr => Ev_succ (by
      simp only [impl_allWithin.l0, within_eq, Option.bind_some, decide_eq_true_eq]
      exact Ev_pos h5 (Ev_pos h4 (Ev_pos h5 (Ev_neg hp (Ev_some hr.symm)))))⟩) s.length 0 (by omega) (by omega) (fun hno => @decide_eq_false _ (Classical.propDecidable _) hno) (fun hv => Ev_succ (by
      simp only [impl_allWithin.l0]
      exact Ev_neg (by omega) (Ev_some (@decide_eq_true _ (Classical.propDecidable _) hv).symm)))
  refine Ev.bind hall (Ev_ite (fun h => ?_) (fun h => Ev_some (handB_no (fun q => h (@decide_eq_true _ (Classical.propDecidable _) (fun i h0 h1 => (q i h0 h1).1)))).symm))
  have hw := @of_decide_eq_true _ (Classical.propDecidable _) h
  by_cases hz : s.length = 0
  · exact Ev_succ (by
      simp only [impl_isHand.l0]
      exact Ev_neg (by omega) (Ev_some (handB_iff.2 (fun i h0 h1 => by omega)).symm))
  · have hloop : ∀ (d : Nat) (i : Int), 1 ≤ i → i + d = s.length → (∀ j : Int, 0 ≤ j → j < i → HandAt s j) → Ev (fun k => impl_isHand.l0 k s i) (handB s) := by
      intro d
      induction d with
      | zero =>
        intro i h0 h1 hp
        exact Ev_succ (by
          simp only [impl_isHand.l0]
          exact Ev_neg (by omega) (Ev_some (handB_iff.2 (fun j h2 h3 => hp j h2 (by omega))).symm))
      | succ d ih =>
        intro i h0 h1 hp
        refine Ev_succ (by
          simp only [impl_isHand.l0]
          rw [w64 (x := i + 1) (by omega) (by omega), w64 (x := i - 1) (by omega) (by omega)]
          refine Ev_pos (by omega) (Ev_pos (by omega) (Ev_pos (by omega) (Ev_pos (by omega) (Ev_ite (fun hb => Ev_some (handB_no (fun q => ?_)).symm) (fun hb => ih (i + 1) (by omega) (by omega) (fun j h2 h3 => ?_))))))
          · have := (q i (by omega) (by omega)).2 (by omega)
            omega
          · by_cases hj : j = i
            · rw [hj]; exact ⟨hw i (by omega) (by omega), fun _ => by omega⟩
            · exact hp j h2 (by omega))
    exact hloop (s.length - 1) 1 (by omega) (by omega) (fun j h0 h1 => by
      obtain rfl : j = 0 := by omega
      exact ⟨hw 0 (by omega) (by omega), fun q => absurd q (by omega)⟩)

/-- The controller with a number, after an input: whether it is allowed, and the number then (-1 if not). -/
def stepS (n i : Int) : Option (Bool × Int) := (spec_l25With.f n).bind fun b => (spec_l21Give.f b.1 b.2.1 b.2.2.1 b.2.2.2.1 b.2.2.2.2.1 b.2.2.2.2.2 i).bind fun g => if g.2.2.2.2.2.2 = true then (spec_l25Number.f 10 g.1 g.2.1 g.2.2.1 g.2.2.2.1 g.2.2.2.2.1 g.2.2.2.2.2.1).bind fun t => some (true, t) else some (false, -1)
def stepI (n i : Int) : Option (Bool × Int) := (impl_controllerWith.f n).bind fun b => (impl_giveInput.f b.1 b.2.1 b.2.2.1 b.2.2.2.1 b.2.2.2.2.1 b.2.2.2.2.2 i).bind fun g => if g.2.2.2.2.2.2 = 0 then (impl_numberOf.f g.1 g.2.1 g.2.2.1 g.2.2.2.1 g.2.2.2.2.1 g.2.2.2.2.2.1).bind fun t => some (true, t) else some (false, -1)
theorem step_all : ∀ (n : Fin 160) (i : Fin 10), stepS (n.val : Int) (i.val : Int) = stepI (n.val : Int) (i.val : Int) ∧ (match stepS (n.val : Int) (i.val : Int) with | some (ok, v) => (if ok then decide (0 ≤ v ∧ v ≤ 159) else v == -1) | none => false) = true := by decide +kernel
def nextM (n i : Int) : Int := ((stepS n i).getD (false, -1)).2
theorem step_tells {n i : Int} (hn : 0 ≤ n ∧ n ≤ 159) (hi : 0 ≤ i ∧ i ≤ 9) : ∃ ok v, stepS n i = some (ok, v) ∧ stepI n i = some (ok, v) ∧ nextM n i = v ∧ (ok = true → 0 ≤ v ∧ v ≤ 159) ∧ (ok = false → v = -1) := by
  obtain ⟨h1, h2⟩ := step_all ⟨n.toNat, by omega⟩ ⟨i.toNat, by omega⟩
  simp only at h1 h2
  rw [show ((n.toNat : Nat) : Int) = n by omega, show ((i.toNat : Nat) : Int) = i by omega] at h1 h2
  cases hs : stepS n i with
  | none => rw [hs] at h2; exact absurd h2 (by simp)
  | some p =>
    obtain ⟨ok, v⟩ := p
    rw [hs] at h2
    refine ⟨ok, v, rfl, by rw [← h1, hs], by unfold nextM; rw [hs]; rfl, fun h => ?_, fun h => ?_⟩
    · rw [h] at h2; simpa using h2
    · rw [h] at h2; simpa using h2
theorem spec_step {n i : Int} (hn : 0 ≤ n ∧ n ≤ 159) (hi : 0 ≤ i ∧ i ≤ 9) : ∃ b g, spec_l25With.f n = some b ∧ spec_l21Give.f b.1 b.2.1 b.2.2.1 b.2.2.2.1 b.2.2.2.2.1 b.2.2.2.2.2 i = some g ∧ ((g.2.2.2.2.2.2 = true ∧ Ev (fun k => spec_l25Number.f k g.1 g.2.1 g.2.2.1 g.2.2.2.1 g.2.2.2.2.1 g.2.2.2.2.2.1) (nextM n i)) ∨ (¬ g.2.2.2.2.2.2 = true ∧ nextM n i = -1)) := by
  obtain ⟨ok, v, h1, _, h3, h4, h5⟩ := step_tells hn hi
  unfold stepS at h1
  obtain ⟨b, hb, h1⟩ := Option.bind_eq_some_iff.1 h1
  obtain ⟨g, hg, h1⟩ := Option.bind_eq_some_iff.1 h1
  refine ⟨b, g, hb, hg, ?_⟩
  by_cases hc : g.2.2.2.2.2.2 = true
  · rw [if_pos hc] at h1
    obtain ⟨t, ht, h1⟩ := Option.bind_eq_some_iff.1 h1
    obtain ⟨rfl, rfl⟩ := Prod.mk.inj (Option.some.inj h1)
    exact .inl ⟨hc, by rw [h3]; exact Ev.of (k := 10) (spec_l25Number.mono _ _ _ _ _ _) ht⟩
  · rw [if_neg hc] at h1
    obtain ⟨rfl, rfl⟩ := Prod.mk.inj (Option.some.inj h1)
    exact .inr ⟨hc, h3⟩
theorem impl_step {n i : Int} (hn : 0 ≤ n ∧ n ≤ 159) (hi : 0 ≤ i ∧ i ≤ 9) : ∃ b g, impl_controllerWith.f n = some b ∧ impl_giveInput.f b.1 b.2.1 b.2.2.1 b.2.2.2.1 b.2.2.2.2.1 b.2.2.2.2.2 i = some g ∧ ((g.2.2.2.2.2.2 = 0 ∧ impl_numberOf.f g.1 g.2.1 g.2.2.1 g.2.2.2.1 g.2.2.2.2.1 g.2.2.2.2.2.1 = some (nextM n i) ∧ 0 ≤ nextM n i ∧ nextM n i ≤ 159) ∨ (¬ g.2.2.2.2.2.2 = 0 ∧ nextM n i = -1)) := by
  obtain ⟨ok, v, _, h1, h3, h4, h5⟩ := step_tells hn hi
  unfold stepI at h1
  obtain ⟨b, hb, h1⟩ := Option.bind_eq_some_iff.1 h1
  obtain ⟨g, hg, h1⟩ := Option.bind_eq_some_iff.1 h1
  refine ⟨b, g, hb, hg, ?_⟩
  by_cases hc : g.2.2.2.2.2.2 = 0
  · rw [if_pos hc] at h1
    obtain ⟨t, ht, h1⟩ := Option.bind_eq_some_iff.1 h1
    obtain ⟨rfl, rfl⟩ := Prod.mk.inj (Option.some.inj h1)
    exact .inl ⟨hc, by rw [h3]; exact ht, by rw [h3]; exact h4 rfl⟩
  · rw [if_neg hc] at h1
    obtain ⟨rfl, rfl⟩ := Prod.mk.inj (Option.some.inj h1)
    exact .inr ⟨hc, h3⟩

theorem rd_here {b : List Int} {i : Int} (h0 : 0 ≤ i) (h1 : i < b.length) : rd b i = b[i.toNat]'(by omega) := by
  simp [rd, List.getD_eq_getElem?_getD, List.getElem?_eq_getElem (show i.toNat < b.length by omega)]
theorem l01Has_ev (l : List Int) (h : l.length ≤ 100000000) (v : Int) : Ev (fun k => spec_l01Has.f k l v) (decide (v ∈ l)) := by
  unfold spec_l01Has.f
  exact Ev_allK (F := fun k i => spec_l01Has.l0 k l v i) (p := fun i => ¬ rd l i = v) (n := l.length) (bad := true) (fun i h0 h1 => ⟨fun hp hr => Ev_succ (by
    simp only [spec_l01Has.l0]
    rw [w64 (by omega) (by omega)]
    exact Ev_pos h1 (Ev_pos h0 (Ev_neg hp hr))), fun hp hr => Ev_succ (by
    simp only [spec_l01Has.l0]
    exact Ev_pos h1 (Ev_pos h0 (Ev_pos (by simpa using hp) (Ev_some hr.symm))))⟩) l.length 0 (by omega) (by omega) (fun hno => by
    rw [decide_eq_true_eq]
    by_cases hm : v ∈ l
    · exact hm
    · refine absurd (fun j h0 h1 he => hm ?_) hno
      rw [← he, rd_here h0 h1]
      exact List.getElem_mem _) (fun hall => Ev_succ (by
    simp only [spec_l01Has.l0]
    refine Ev_neg (by omega) (Ev_some ?_)
    symm
    rw [decide_eq_false_iff_not]
    intro hm
    obtain ⟨j, hj⟩ := List.mem_iff_getElem?.1 hm
    obtain ⟨hl, he⟩ := List.getElem?_eq_some_iff.1 hj
    refine hall (j : Int) (by omega) (by omega) ?_
    rw [rd_here (by omega) (by omega), ← he]
    congr 1))

theorem next_list {n : Int} {h : List Int} (hn : 0 ≤ n ∧ n ≤ 159) (hh : HandOk h) (hl : h.length ≤ 1000000) : Ev (fun k => spec_l25Next.f k n h) (h.map (nextM n)) := by
  unfold spec_l25Next.f
  have hloop : ∀ (d : Nat) (o : List Int) (i : Int), 0 ≤ i → i + d = h.length → o = (h.take i.toNat).map (nextM n) → Ev (fun k => spec_l25Next.l0 k n h o i) (h.map (nextM n)) := by
    intro d
    induction d with
    | zero =>
      intro o i h0 h1 ho
      refine Ev_succ (by
        simp only [spec_l25Next.l0]
        refine Ev_neg (by omega) (Ev_some ?_)
        rw [ho, show i.toNat = h.length by omega, List.take_length])
    | succ d ih =>
      intro o i h0 h1 ho
      obtain ⟨b, g, hb, hg, hc⟩ := spec_step hn (hh i h0 (by omega)).1
      have hr := ih (o ++ [nextM n (rd h i)]) (i + 1) (by omega) (by omega) (by
        rw [ho, show (i + 1).toNat = i.toNat + 1 by omega, List.take_succ_eq_append_getElem (by omega), List.map_append, rd_here h0 (by omega)]
        rfl)
      have hol : o.length ≤ 1000000 := by rw [ho, List.length_map, List.length_take]; omega
      refine Ev_succ (by
        simp only [spec_l25Next.l0]
        rw [w64 (by omega) (by omega)]
        refine Ev_pos (by omega) (Ev_bindc hb (Ev_pos h0 (Ev_bindc hg ?_)))
        rcases hc with ⟨c1, c2⟩ | ⟨c1, c2⟩
        · exact Ev_pos c1 (Ev.bind c2 (Ev_pos (by omega) hr))
        · rw [c2] at hr
          exact Ev_neg c1 (Ev_pos (by omega) hr))
  exact hloop h.length [] 0 (by omega) (by omega) rfl
theorem rd_map {n : Int} {h : List Int} {i : Int} (h0 : 0 ≤ i) (h1 : i < h.length) : rd (h.map (nextM n)) i = nextM n (rd h i) := by
  rw [rd_here h0 (by rw [List.length_map]; exact h1), rd_here h0 h1, List.getElem_map]

def soundB (b0 b1 b2 b3 b4 : Bool) (d : Int) : Bool := (impl_IsSound.f b0 b1 b2 b3 b4 d).getD false
theorem sound_all : ∀ (b0 b1 b2 b3 b4 : Bool) (d : Fin 5), spec_IsSound.f b0 b1 b2 b3 b4 (d.val : Int) = impl_IsSound.f b0 b1 b2 b3 b4 (d.val : Int) ∧ (match impl_IsSound.f b0 b1 b2 b3 b4 (d.val : Int), impl_numberOf.f b0 b1 b2 b3 b4 (d.val : Int) with
  | some s, some n => (spec_l25Number.f 10 b0 b1 b2 b3 b4 (d.val : Int) == some n) && decide (0 ≤ n ∧ n ≤ 159) && (impl_controllerWith.f n == some (b0, b1, b2, b3, b4, (d.val : Int)))
  | _, _ => false) = true := by decide +kernel
theorem sound_tells (b0 b1 b2 b3 b4 : Bool) (d : Int) : spec_IsSound.f b0 b1 b2 b3 b4 d = some (soundB b0 b1 b2 b3 b4 d) ∧ impl_IsSound.f b0 b1 b2 b3 b4 d = some (soundB b0 b1 b2 b3 b4 d) ∧ (soundB b0 b1 b2 b3 b4 d = true → ∃ n, 0 ≤ n ∧ n ≤ 159 ∧ impl_numberOf.f b0 b1 b2 b3 b4 d = some n ∧ Ev (fun k => spec_l25Number.f k b0 b1 b2 b3 b4 d) n ∧ impl_controllerWith.f n = some (b0, b1, b2, b3, b4, d)) := by
  by_cases h : 0 ≤ d ∧ d ≤ 4
  · obtain ⟨h1, h2⟩ := sound_all b0 b1 b2 b3 b4 ⟨d.toNat, by omega⟩
    simp only at h1 h2
    rw [show ((d.toNat : Nat) : Int) = d by omega] at h1 h2
    cases hs : impl_IsSound.f b0 b1 b2 b3 b4 d with
    | none => rw [hs] at h2; simp at h2
    | some s =>
      cases hn : impl_numberOf.f b0 b1 b2 b3 b4 d with
      | none => rw [hs, hn] at h2; simp at h2
      | some n =>
        rw [hs, hn] at h2
        simp only [Bool.and_eq_true, beq_iff_eq, decide_eq_true_eq] at h2
        obtain ⟨⟨e1, e2⟩, e3⟩ := h2
        have es : soundB b0 b1 b2 b3 b4 d = s := by unfold soundB; rw [hs]; rfl
        rw [es]
        exact ⟨h1.trans hs, rfl, fun q => ⟨n, e2.1, e2.2, rfl, Ev.of (k := 10) (spec_l25Number.mono b0 b1 b2 b3 b4 d) e1, e3⟩⟩
  · have e1 : spec_IsSound.f b0 b1 b2 b3 b4 d = some false := by
      unfold spec_IsSound.f
      rw [l01In_eq, decide_eq_false h]
      cases b0 <;> cases b1 <;> cases b2 <;> cases b4 <;> simp
    have e2 : impl_IsSound.f b0 b1 b2 b3 b4 d = some false := by
      unfold impl_IsSound.f
      rw [within_eq, decide_eq_false h]
      rfl
    have es : soundB b0 b1 b2 b3 b4 d = false := by unfold soundB; rw [e2]; rfl
    rw [es]
    exact ⟨e1, e2, fun q => absurd q (by decide)⟩
theorem num_some (b0 b1 b2 b3 b4 : Bool) (d : Int) : ∃ n, impl_numberOf.f b0 b1 b2 b3 b4 d = some n := by
  cases b0 <;> cases b1 <;> cases b2 <;> cases b3 <;> cases b4 <;> exact ⟨_, rfl⟩
/-- The code of a controller and of inputs at hand. -/
theorem l25Code_ev (b0 b1 b2 b3 b4 : Bool) (d : Int) (h : List Int) (hl : h.length ≤ 1000000) : Ev (fun k => spec_l25Code.f k b0 b1 b2 b3 b4 d h) (if soundB b0 b1 b2 b3 b4 d = true ∧ handB h = true then 0 else 1) := by
  unfold spec_l25Code.f
  refine Ev_bindc (sound_tells b0 b1 b2 b3 b4 d).1 (Ev_ite (fun q => Ev.bind (rises_ev h hl) (Ev_ite (fun p => ?_) (fun p => ?_))) (fun q => ?_))
  · rw [if_pos ⟨q, p⟩]; exact Ev.now _
  · rw [if_neg (fun w => p w.2)]; exact Ev.now _
  · rw [if_neg (fun w => q w.1)]; exact Ev.now _

theorem nodup_le : ∀ (n : Nat) (l : List Int), l.Nodup → (∀ v ∈ l, 0 ≤ v ∧ v < n) → l.length ≤ n := by
  intro n
  induction n with
  | zero =>
    intro l _ h
    cases l with
    | nil => exact Nat.le_refl _
    | cons a t => have := h a (by simp); omega
  | succ n ih =>
    intro l hd h
    by_cases hm : (n : Int) ∈ l
    · have h1 := ih (l.erase (n : Int)) (hd.erase _) (fun v hv => by
        have h2 := (hd.mem_erase_iff).1 hv
        have h3 := h v h2.2
        have h4 := h2.1
        omega)
      have := List.length_erase_of_mem hm
      omega
    · exact Nat.le_succ_of_le (ih l hd (fun v hv => by
        have h3 := h v hv
        have : v ≠ n := fun e => hm (e ▸ hv)
        omega))
theorem next_le {n i : Int} (hn : 0 ≤ n ∧ n ≤ 159) (hi : 0 ≤ i ∧ i ≤ 9) : nextM n i ≤ 159 := by
  obtain ⟨ok, v, _, _, h3, h4, h5⟩ := step_tells hn hi
  rw [h3]
  cases ok with
  | true => exact (h4 rfl).2
  | false => rw [h5 rfl]; omega
theorem hand_mem {H : List Int} (h : HandOk H) : ∀ x ∈ H, 0 ≤ x ∧ x ≤ 9 := fun x hx => by
  obtain ⟨j, hj⟩ := List.mem_iff_getElem?.1 hx
  obtain ⟨hl, he⟩ := List.getElem?_eq_some_iff.1 hj
  have := (h (j : Int) (by omega) (by omega)).1
  rw [rd_here (by omega) (by omega)] at this
  simp only [Int.toNat_natCast] at this
  rw [he] at this
  exact this
theorem drop_here {H : List Int} {j : Int} (h0 : 0 ≤ j) (h1 : j < H.length) : H.drop j.toNat = rd H j :: H.drop (j + 1).toNat := by
  rw [List.drop_eq_getElem_cons (show j.toNat < H.length by omega), rd_here h0 h1, show (j + 1).toNat = j.toNat + 1 by omega]
def pushM (v : Int) (p : List Int) : List Int → List Int × List (List Int) → List Int × List (List Int)
  | [], s => s
  | h :: t, s => pushM v p t (if 0 ≤ nextM v h ∧ nextM v h ∉ s.1 then (s.1 ++ [nextM v h], s.2 ++ [p ++ [h]]) else s)
def goM (H : List Int) : Nat → Nat → List Int × List (List Int) → List Int × List (List Int)
  | 0, _, s => s
  | d + 1, i, s => if i < s.1.length then goM H d (i + 1) (pushM (s.1.getD i 0) (s.2.getD i []) H s) else s
def finalM (n : Int) (H : List Int) : List Int × List (List Int) := goM H 160 0 ([n], [[]])
/-- Inputs at hand that lead from one number to another. -/
inductive PathM (H : List Int) (n : Int) : List Int → Int → Prop
  | nil : PathM H n [] n
  | snoc {p : List Int} {v h : Int} : PathM H n p v → h ∈ H → 0 ≤ nextM v h → PathM H n (p ++ [h]) (nextM v h)
structure InvM (n : Int) (H : List Int) (s : List Int × List (List Int)) : Prop where
  len : s.2.length = s.1.length
  nd : s.1.Nodup
  rng : ∀ v ∈ s.1, 0 ≤ v ∧ v ≤ 159
  st : s.1[0]? = some n
  least : ∀ C : Int → Prop, C n → (∀ v h, C v → h ∈ H → 0 ≤ nextM v h → C (nextM v h)) → ∀ v ∈ s.1, C v
  path : ∀ m v p, s.1[m]? = some v → s.2[m]? = some p → PathM H n p v ∧ p.length ≤ m
theorem InvM.le {n : Int} {H : List Int} {s : List Int × List (List Int)} (h : InvM n H s) : s.1.length ≤ 160 := nodup_le 160 s.1 h.nd (fun v hv => by have := h.rng v hv; omega)
theorem at_mem {L : List Int} {m : Nat} {v : Int} (h : L[m]? = some v) : v ∈ L := List.mem_of_getElem? h
theorem at_lt {α : Type} {L : List α} {m : Nat} {v : α} (h : L[m]? = some v) : m < L.length := (List.getElem?_eq_some_iff.1 h).1
theorem at_app {α : Type} {L : List α} {m : Nat} {v : α} (h : L[m]? = some v) (a : List α) : (L ++ a)[m]? = some v := by rw [List.getElem?_append_left (at_lt h)]; exact h
theorem push_one {n : Int} {H : List Int} {s : List Int × List (List Int)} (hH : HandOk H) (hI : InvM n H s) {v h : Int} {p : List Int} {i : Nat} (hv : s.1[i]? = some v) (hp : s.2[i]? = some p) (hh : h ∈ H) (h0 : 0 ≤ nextM v h) (hn : nextM v h ∉ s.1) : InvM n H (s.1 ++ [nextM v h], s.2 ++ [p ++ [h]]) := by
  have hr := hI.rng v (at_mem hv)
  have hq := hI.path i v p hv hp
  have hi := at_lt hv
  refine ⟨by simp [hI.len], ?_, ?_, at_app hI.st _, ?_, ?_⟩
  · exact List.pairwise_append.2 ⟨hI.nd, List.pairwise_singleton _ _, fun a ha b hb => by
      rw [List.mem_singleton.1 hb]
      exact fun e => hn (e ▸ ha)⟩
  · intro x hx
    rcases List.mem_append.1 hx with hx | hx
    · exact hI.rng x hx
    · rw [List.mem_singleton.1 hx]
      exact ⟨h0, next_le hr (hand_mem hH h hh)⟩
  · intro C c0 c1 x hx
    rcases List.mem_append.1 hx with hx | hx
    · exact hI.least C c0 c1 x hx
    · rw [List.mem_singleton.1 hx]
      exact c1 v h (hI.least C c0 c1 v (at_mem hv)) hh h0
  · intro m x q hx hq'
    by_cases hm : m < s.1.length
    · have e1 : s.1[m]? = some x := by rw [← hx]; exact (List.getElem?_append_left hm).symm
      have e2 : s.2[m]? = some q := by rw [← hq']; exact (List.getElem?_append_left (by rw [hI.len]; exact hm)).symm
      exact hI.path m x q e1 e2
    · have hlt := at_lt hx
      simp only [List.length_append, List.length_singleton] at hlt
      obtain rfl : m = s.1.length := by omega
      have e1 : x = nextM v h := by
        rw [List.getElem?_append_right (Nat.le_refl _), Nat.sub_self] at hx
        exact (Option.some.inj hx).symm
      have e2 : q = p ++ [h] := by
        rw [List.getElem?_append_right (by rw [hI.len]; exact Nat.le_refl _), hI.len, Nat.sub_self] at hq'
        exact (Option.some.inj hq').symm
      rw [e1, e2]
      exact ⟨hq.1.snoc hh h0, by simp only [List.length_append, List.length_singleton]; omega⟩
theorem push_tells {n : Int} {H : List Int} (hH : HandOk H) {v : Int} {p : List Int} {i : Nat} : ∀ (t : List Int) (s : List Int × List (List Int)), (∀ h ∈ t, h ∈ H) → InvM n H s → s.1[i]? = some v → s.2[i]? = some p → InvM n H (pushM v p t s) ∧ (∃ a b, (pushM v p t s).1 = s.1 ++ a ∧ (pushM v p t s).2 = s.2 ++ b) ∧ ∀ h ∈ t, 0 ≤ nextM v h → nextM v h ∈ (pushM v p t s).1 := by
  intro t
  induction t with
  | nil => intro s _ hI _ _; exact ⟨hI, ⟨[], [], (List.append_nil _).symm, (List.append_nil _).symm⟩, fun h hh => absurd hh (by simp)⟩
  | cons h t ih =>
    intro s ht hI hv hp
    have hh := ht h (by simp)
    have ht' : ∀ x ∈ t, x ∈ H := fun x hx => ht x (List.mem_cons_of_mem _ hx)
    simp only [pushM]
    by_cases hc : 0 ≤ nextM v h ∧ nextM v h ∉ s.1
    · rw [if_pos hc]
      obtain ⟨h1, ⟨a, b, ha, hb⟩, h3⟩ := ih _ ht' (push_one hH hI hv hp hh hc.1 hc.2) (at_app hv _) (at_app hp _)
      refine ⟨h1, ⟨[nextM v h] ++ a, [p ++ [h]] ++ b, by rw [ha, List.append_assoc], by rw [hb, List.append_assoc]⟩, fun x hx hx0 => ?_⟩
      rcases List.mem_cons.1 hx with rfl | hx
      · rw [ha]; simp
      · exact h3 x hx hx0
    · rw [if_neg hc]
      obtain ⟨h1, ⟨a, b, ha, hb⟩, h3⟩ := ih _ ht' hI hv hp
      refine ⟨h1, ⟨a, b, ha, hb⟩, fun x hx hx0 => ?_⟩
      rcases List.mem_cons.1 hx with rfl | hx
      · rw [ha]
        by_cases hm : nextM v x ∈ s.1
        · exact List.mem_append_left _ hm
        · exact absurd ⟨hx0, hm⟩ hc
      · exact h3 x hx hx0
theorem inv_at {n : Int} {H : List Int} {s : List Int × List (List Int)} (hI : InvM n H s) {i : Nat} (h : i < s.1.length) : s.1[i]? = some (s.1.getD i 0) ∧ s.2[i]? = some (s.2.getD i []) := by
  rw [List.getD_eq_getElem?_getD, List.getD_eq_getElem?_getD, List.getElem?_eq_getElem h, List.getElem?_eq_getElem (show i < s.2.length by rw [hI.len]; exact h)]
  exact ⟨rfl, rfl⟩
theorem go_tells {n : Int} {H : List Int} (hH : HandOk H) : ∀ (d i : Nat) (s : List Int × List (List Int)), i + d = 160 → InvM n H s → (∀ m v, m < i → s.1[m]? = some v → ∀ h ∈ H, 0 ≤ nextM v h → nextM v h ∈ s.1) → InvM n H (goM H d i s) ∧ (∃ a b, (goM H d i s).1 = s.1 ++ a ∧ (goM H d i s).2 = s.2 ++ b) ∧ ∀ v ∈ (goM H d i s).1, ∀ h ∈ H, 0 ≤ nextM v h → nextM v h ∈ (goM H d i s).1 := by
  have hend : ∀ (i : Nat) (s : List Int × List (List Int)), s.1.length ≤ i → InvM n H s → (∀ m v, m < i → s.1[m]? = some v → ∀ h ∈ H, 0 ≤ nextM v h → nextM v h ∈ s.1) → InvM n H s ∧ (∃ a b, s.1 = s.1 ++ a ∧ s.2 = s.2 ++ b) ∧ ∀ v ∈ s.1, ∀ h ∈ H, 0 ≤ nextM v h → nextM v h ∈ s.1 := fun i s hi hI hc => ⟨hI, ⟨[], [], (List.append_nil _).symm, (List.append_nil _).symm⟩, fun v hv => by
    obtain ⟨m, hm⟩ := List.mem_iff_getElem?.1 hv
    exact hc m v (by have := at_lt hm; omega) hm⟩
  intro d
  induction d with
  | zero =>
    intro i s hi hI hc
    exact hend i s (by have := hI.le; omega) hI hc
  | succ d ih =>
    intro i s hi hI hc
    simp only [goM]
    by_cases hl : i < s.1.length
    · rw [if_pos hl]
      obtain ⟨hv, hp⟩ := inv_at hI hl
      obtain ⟨h1, ⟨a, b, ha, hb⟩, h3⟩ := push_tells hH H s (fun x hx => hx) hI hv hp
      obtain ⟨g1, ⟨a', b', ga, gb⟩, g3⟩ := ih (i + 1) _ (by omega) h1 (fun m v hm hv' h hh h0 => by
        by_cases hmi : m = i
        · rw [hmi, ha, at_app hv a] at hv'
          rw [← Option.some.inj hv'] at h0 ⊢
          exact h3 h hh h0
        · have hlt : m < s.1.length := by omega
          have : s.1[m]? = some v := by rw [← hv', ha]; exact (List.getElem?_append_left hlt).symm
          rw [ha]
          exact List.mem_append_left _ (hc m v (by omega) this h hh h0))
      exact ⟨g1, ⟨a ++ a', b ++ b', by rw [ga, ha, List.append_assoc], by rw [gb, hb, List.append_assoc]⟩, g3⟩
    · rw [if_neg hl]
      exact hend i s (by omega) hI hc
theorem start_inv {n : Int} (hn : 0 ≤ n ∧ n ≤ 159) (H : List Int) : InvM n H ([n], [[]]) := by
  refine ⟨rfl, List.pairwise_singleton _ _, fun v hv => by rw [List.mem_singleton.1 hv]; exact hn, rfl, fun C c0 _ v hv => by rw [List.mem_singleton.1 hv]; exact c0, fun m v p hv hp => ?_⟩
  have := at_lt hv
  simp only [List.length_singleton] at this
  obtain rfl : m = 0 := by omega
  obtain rfl := Option.some.inj hv
  obtain rfl := Option.some.inj hp
  exact ⟨PathM.nil, Nat.zero_le _⟩
theorem final_tells {n : Int} (hn : 0 ≤ n ∧ n ≤ 159) {H : List Int} (hH : HandOk H) : InvM n H (finalM n H) ∧ ∀ v ∈ (finalM n H).1, ∀ h ∈ H, 0 ≤ nextM v h → nextM v h ∈ (finalM n H).1 := by
  obtain ⟨h1, _, h3⟩ := go_tells hH 160 0 ([n], [[]]) rfl (start_inv hn H) (fun m v hm => absurd hm (by omega))
  exact ⟨h1, h3⟩

theorem copyList_eq {b : List Int} (h : b.length ≤ 1000000) : impl_copyList.f b = some b := by
  unfold impl_copyList.f
  simp only [Option.bind_some, List.length_nil, List.nil_append]
  rw [if_pos (by omega)]
structure RelM (W : List (List Int)) (S : List Bool) (s : List Int × List (List Int)) : Prop where
  wl : W.length = 160
  sl : S.length = 160
  seen : ∀ v : Int, 0 ≤ v → v ≤ 159 → (rdOf false S v = true ↔ v ∈ s.1)
  ways : ∀ (m : Nat) (v : Int) (p : List Int), s.1[m]? = some v → s.2[m]? = some p → W[v.toNat]? = some p
theorem seen_set {S : List Bool} {L : List Int} (hl : S.length = 160) {t : Int} (h0 : 0 ≤ t) (h1 : t ≤ 159) (h : ∀ v : Int, 0 ≤ v → v ≤ 159 → (rdOf false S v = true ↔ v ∈ L)) : ∀ v : Int, 0 ≤ v → v ≤ 159 → (rdOf false (S.set t.toNat true) v = true ↔ v ∈ L ++ [t]) := by
  intro v hv0 hv1
  rw [List.mem_append, List.mem_singleton, ← h v hv0 hv1]
  by_cases hv : v = t
  · rw [hv]
    simp [rdOf, List.getD_eq_getElem?_getD, List.getElem?_set_self (show t.toNat < S.length by omega)]
  · have : rdOf false (S.set t.toNat true) v = rdOf false S v := by
      simp only [rdOf, List.getD_eq_getElem?_getD]
      rw [List.getElem?_set_ne (by omega)]
    rw [this]
    simp [hv]
theorem rel_push {n : Int} {H : List Int} {W : List (List Int)} {S : List Bool} {s : List Int × List (List Int)} (hI : InvM n H s) (hR : RelM W S s) {t : Int} {q : List Int} (h0 : 0 ≤ t) (h1 : t ≤ 159) (hn : t ∉ s.1) : RelM (W.set t.toNat q) (S.set t.toNat true) (s.1 ++ [t], s.2 ++ [q]) := by
  refine ⟨by rw [List.length_set]; exact hR.wl, by rw [List.length_set]; exact hR.sl, seen_set hR.sl h0 h1 hR.seen, fun m v p hv hp => ?_⟩
  by_cases hm : m < s.1.length
  · have e1 : s.1[m]? = some v := by rw [← hv]; exact (List.getElem?_append_left hm).symm
    have e2 : s.2[m]? = some p := by rw [← hp]; exact (List.getElem?_append_left (by rw [hI.len]; exact hm)).symm
    have hr := hI.rng v (at_mem e1)
    have hne : v ≠ t := fun e => hn (e ▸ at_mem e1)
    rw [List.getElem?_set_ne (by omega)]
    exact hR.ways m v p e1 e2
  · have hlt := at_lt hv
    simp only [List.length_append, List.length_singleton] at hlt
    obtain rfl : m = s.1.length := by omega
    have e1 : v = t := by
      rw [List.getElem?_append_right (Nat.le_refl _), Nat.sub_self] at hv
      exact (Option.some.inj hv).symm
    have e2 : p = q := by
      rw [List.getElem?_append_right (by rw [hI.len]; exact Nat.le_refl _), hI.len, Nat.sub_self] at hp
      exact (Option.some.inj hp).symm
    rw [e1, e2, List.getElem?_set_self (by rw [hR.wl]; omega)]
theorem short_in {n : Int} {H : List Int} (hH : HandOk H) (hl : H.length ≤ 1000000) {v : Int} {p : List Int} {i : Nat} (hi : i < 160) (f : List Int × List (List Int)) : ∀ (d : Nat) (j : Int) (s : List Int × List (List Int)) (W : List (List Int)) (S : List Bool), 0 ≤ j → j + d = H.length → InvM n H s → s.1[i]? = some v → s.2[i]? = some p → RelM W S s →
    (∀ W' S', RelM W' S' (pushM v p (H.drop j.toNat) s) → ∃ Wf Sf, Ev (fun k => impl_shortest.l0 k H W' S' ((pushM v p (H.drop j.toNat) s).1.drop (i + 1))) (Wf, Sf) ∧ RelM Wf Sf f) →
    ∃ Wf Sf, Ev (fun k => impl_shortest.l1 k H W S (s.1.drop (i + 1)) v H (H.length : Int) j) (Wf, Sf) ∧ RelM Wf Sf f := by
  intro d
  induction d with
  | zero =>
    intro j s W S h0 h1 hI hv hp hR hr
    rw [List.drop_eq_nil_of_le (show H.length ≤ j.toNat by omega)] at hr
    obtain ⟨Wf, Sf, h2, h3⟩ := hr W S hR
    exact ⟨Wf, Sf, Ev_succ (by
      simp only [impl_shortest.l1]
      exact Ev_neg (by omega) h2), h3⟩
  | succ d ih =>
    intro j s W S h0 h1 hI hv hp hR hr
    have hjl : j < H.length := by omega
    have hle := hI.le
    have hvr := hI.rng v (at_mem hv)
    have hpl := (hI.path i v p hv hp).2
    have hil := at_lt hv
    have hmem : rd H j ∈ H := by rw [rd_here h0 hjl]; exact List.getElem_mem _
    obtain ⟨b, g, hb, hg, hc⟩ := impl_step hvr (hand_mem hH _ hmem)
    have hww : rd_L1 W v = p := by
      show W.getD v.toNat [] = p
      rw [List.getD_eq_getElem?_getD, hR.ways i v p hv hp]
      rfl
    have hwl := hR.wl
    have hsl := hR.sl
    rw [drop_here h0 hjl] at hr
    simp only [pushM] at hr
    by_cases hpush : 0 ≤ nextM v (rd H j) ∧ nextM v (rd H j) ∉ s.1
    · rw [if_pos hpush] at hr
      rcases hc with ⟨c1, c2, c3, c4⟩ | ⟨c1, c2⟩
      · obtain ⟨Wf, Sf, h2, h3⟩ := ih (j + 1) (s.1 ++ [nextM v (rd H j)], s.2 ++ [p ++ [rd H j]]) (W.set (nextM v (rd H j)).toNat (p ++ [rd H j])) (S.set (nextM v (rd H j)).toNat true) (by omega) (by omega) (push_one hH hI hv hp hmem hpush.1 hpush.2) (at_app hv _) (at_app hp _) (rel_push hI hR c3 c4 hpush.2) hr
        refine ⟨Wf, Sf, Ev_succ (by
          simp only [impl_shortest.l1]
          rw [w64 (x := j + 1) (by omega) (by omega), hww]
          refine Ev_pos (by omega) (Ev_pos h0 (Ev_pos (by omega) (Ev_bindc hb (Ev_bindc hg (Ev_bindc c2 (Ev_pos c1 (Ev_pos c3 (Ev_pos (by omega) (Ev_neg (fun q => hpush.2 ((hR.seen _ c3 c4).1 q)) (Ev_pos hvr.1 (Ev_pos (by omega) (Ev_bindc (copyList_eq (by omega)) (Ev_pos (by omega) (Ev_pos (by omega) (Ev_pos (by rw [List.length_drop]; omega) ?_)))))))))))))))
          simp only [List.drop_append_of_le_length (show i + 1 ≤ s.1.length by omega)] at h2
          exact h2), h3⟩
      · omega
    · rw [if_neg hpush] at hr
      obtain ⟨Wf, Sf, h2, h3⟩ := ih (j + 1) s W S (by omega) (by omega) hI hv hp hR hr
      refine ⟨Wf, Sf, Ev_succ (by
        simp only [impl_shortest.l1]
        rw [w64 (x := j + 1) (by omega) (by omega)]
        refine Ev_pos (by omega) (Ev_pos h0 (Ev_pos (by omega) (Ev_bindc hb (Ev_bindc hg ?_))))
        rcases hc with ⟨c1, c2, c3, c4⟩ | ⟨c1, c2⟩
        · refine Ev_bindc c2 (Ev_pos c1 (Ev_pos c3 (Ev_pos (by omega) (Ev_pos ((hR.seen _ c3 c4).2 ?_) h2))))
          by_cases hm : nextM v (rd H j) ∈ s.1
          · exact hm
          · exact absurd ⟨c3, hm⟩ hpush
        · obtain ⟨z, hz⟩ := num_some g.1 g.2.1 g.2.2.1 g.2.2.2.1 g.2.2.2.2.1 g.2.2.2.2.2.1
          exact Ev_bindc hz (Ev_neg c1 h2)), h3⟩
theorem short_out {n : Int} {H : List Int} (hH : HandOk H) (hl : H.length ≤ 1000000) : ∀ (d i : Nat) (s : List Int × List (List Int)) (W : List (List Int)) (S : List Bool), i + d = 160 → InvM n H s → RelM W S s → ∃ Wf Sf, Ev (fun k => impl_shortest.l0 k H W S (s.1.drop i)) (Wf, Sf) ∧ RelM Wf Sf (goM H d i s) := by
  have hend : ∀ (i : Nat) (s : List Int × List (List Int)) (W : List (List Int)) (S : List Bool), s.1.length ≤ i → RelM W S s → ∃ Wf Sf, Ev (fun k => impl_shortest.l0 k H W S (s.1.drop i)) (Wf, Sf) ∧ RelM Wf Sf s := fun i s W S hi hR => ⟨W, S, Ev_succ (by
    simp only [impl_shortest.l0]
    rw [List.drop_eq_nil_of_le hi]
    exact Ev_neg (by simp) (Ev.now _)), hR⟩
  intro d
  induction d with
  | zero =>
    intro i s W S hi hI hR
    exact hend i s W S (by have := hI.le; omega) hR
  | succ d ih =>
    intro i s W S hi hI hR
    simp only [goM]
    by_cases hlt : i < s.1.length
    · rw [if_pos hlt]
      obtain ⟨hv, hp⟩ := inv_at hI hlt
      have hle := hI.le
      obtain ⟨Wf, Sf, h2, h3⟩ := short_in hH hl (show i < 160 by omega) (goM H d (i + 1) (pushM (s.1.getD i 0) (s.2.getD i []) H s)) H.length 0 s W S (by omega) (by omega) hI hv hp hR (fun W' S' hR' => ih (i + 1) _ W' S' (by omega) (push_tells hH H s (fun x hx => hx) hI hv hp).1 hR')
      have e1 : (s.1.drop i).drop (1 : Int).toNat = s.1.drop (i + 1) := by rw [List.drop_drop]; rfl
      have e2 : rd (s.1.drop i) 0 = s.1.getD i 0 := by
        show (s.1.drop i).getD 0 0 = s.1.getD i 0
        rw [List.getD_eq_getElem?_getD, List.getD_eq_getElem?_getD, List.getElem?_drop]
        rfl
      have e3 : (s.1.drop i).length = s.1.length - i := List.length_drop
      exact ⟨Wf, Sf, Ev_succ (by
        simp only [impl_shortest.l0]
        rw [e1, e2, e3]
        exact Ev_pos (by omega) (Ev_pos (by omega) (Ev_pos (by omega) h2))), h3⟩
    · rw [if_neg hlt]
      exact hend i s W S (by omega) hR
theorem shortest_ev {b0 b1 b2 b3 b4 : Bool} {d : Int} {n : Int} (hnum : impl_numberOf.f b0 b1 b2 b3 b4 d = some n) (hn : 0 ≤ n ∧ n ≤ 159) {H : List Int} (hH : HandOk H) (hl : H.length ≤ 1000000) : ∃ W S, Ev (fun k => impl_shortest.f k b0 b1 b2 b3 b4 d H) (W, S) ∧ RelM W S (finalM n H) := by
  have hR : RelM (List.replicate 160 []) ((List.replicate 160 false).set n.toNat true) ([n], [[]]) := by
    refine ⟨by rw [List.length_replicate], by rw [List.length_set, List.length_replicate], ?_, fun m v p hv hp => ?_⟩
    · have := seen_set (S := List.replicate 160 false) (L := []) (by rw [List.length_replicate]) hn.1 hn.2 (fun v h0 h1 => by
        have : ∀ n : Nat, rdOf false (List.replicate n false) v = false := fun n => by
          simp only [rdOf, List.getD_eq_getElem?_getD, List.getElem?_replicate]
          split <;> rfl
        rw [this 160]
        simp)
      exact this
    · have := at_lt hv
      simp only [List.length_singleton] at this
      obtain rfl : m = 0 := by omega
      obtain rfl := Option.some.inj hv
      obtain rfl := Option.some.inj hp
      rw [List.getElem?_replicate, if_pos (by omega)]
  obtain ⟨W, S, h2, h3⟩ := short_out hH hl 160 0 ([n], [[]]) _ _ rfl (start_inv hn H) hR
  refine ⟨W, S, ?_, h3⟩
  unfold impl_shortest.f
  refine Ev_pos (by omega) (Ev_pos (by omega) (Ev_bindc rfl (Ev_bindc hnum (Ev_bindc rfl (Ev_pos (by simp) (Ev_pos hn.1 (Ev_pos ?_ h2)))))))
  rw [List.length_replicate]
  show n < 160
  omega

def numB (n : Int) : Bool := (impl_isNumber.f n).getD false
theorem num_all : ∀ n : Fin 160, spec_l25Is.f (n.val : Int) = impl_isNumber.f (n.val : Int) ∧ (impl_isNumber.f (n.val : Int)).isSome = true := by decide +kernel
theorem num_tells (n : Int) : spec_l25Is.f n = some (numB n) ∧ impl_isNumber.f n = some (numB n) ∧ (numB n = true → 0 ≤ n ∧ n ≤ 159) := by
  by_cases h : 0 ≤ n ∧ n ≤ 159
  · obtain ⟨h1, h2⟩ := num_all ⟨n.toNat, by omega⟩
    simp only at h1 h2
    rw [show ((n.toNat : Nat) : Int) = n by omega] at h1 h2
    obtain ⟨b, hb⟩ := Option.isSome_iff_exists.1 h2
    have e : numB n = b := by unfold numB; rw [hb]; rfl
    rw [e]
    exact ⟨h1.trans hb, hb, fun _ => h⟩
  · have hi : impl_isNumber.f n = some false := by
      unfold impl_isNumber.f
      rw [within_eq, decide_eq_false h]
      rfl
    have hs : spec_l25Is.f n = some false := by
      unfold spec_l25Is.f
      rw [l01In_eq, decide_eq_false h]
      rfl
    have e : numB n = false := by unfold numB; rw [hi]; rfl
    rw [e]
    exact ⟨hs, hi, fun q => absurd q (by decide)⟩

theorem l01Own_eq {b : List Int} (h : b.length ≤ 1000000) : spec_l01Own.f b = some b := by
  unfold spec_l01Own.f
  simp only [Option.bind_some, List.length_nil, List.nil_append]
  rw [if_pos (by omega)]
theorem nodup_at {L : List Int} (h : L.Nodup) {i j : Nat} {v : Int} (hi : L[i]? = some v) (hj : L[j]? = some v) : i = j := by
  obtain ⟨h1, e1⟩ := List.getElem?_eq_some_iff.1 hi
  obtain ⟨h2, e2⟩ := List.getElem?_eq_some_iff.1 hj
  rcases Nat.lt_trichotomy i j with hlt | heq | hgt
  · exact absurd (e1.trans e2.symm) (List.pairwise_iff_getElem.1 h i j h1 h2 hlt)
  · exact heq
  · exact absurd (e2.trans e1.symm) (List.pairwise_iff_getElem.1 h j i h2 h1 hgt)
/-- The answer at a number: the way to it, or none. -/
def GoodM (f : List Int × List (List Int)) (number : Int) (r : List Int × Int) : Prop := (∀ (m : Nat) (p : List Int), f.1[m]? = some number → f.2[m]? = some p → r = (p, 0)) ∧ (number ∉ f.1 → r = ([], 4))
theorem GoodM.unique {n : Int} {H : List Int} {f : List Int × List (List Int)} (hI : InvM n H f) {number : Int} {r q : List Int × Int} (hr : GoodM f number r) (hq : GoodM f number q) : r = q := by
  by_cases hm : number ∈ f.1
  · obtain ⟨m, h1⟩ := List.mem_iff_getElem?.1 hm
    obtain ⟨_, h2⟩ := inv_at hI (at_lt h1)
    rw [hr.1 m _ h1 h2, hq.1 m _ h1 h2]
  · rw [hr.2 hm, hq.2 hm]
theorem specS_in {n : Int} {H : List Int} (hH : HandOk H) (hl : H.length ≤ 1000000) (number : Int) {v : Int} {p : List Int} {i : Nat} (hi : i < 160) (r : List Int × Int) : ∀ (d : Nat) (j : Int) (s : List Int × List (List Int)), 0 ≤ j → j + d = H.length → InvM n H s → s.1[i]? = some v → s.2[i]? = some p →
    Ev (fun k => spec_ShortestInputs.l0 k H number (pushM v p (H.drop j.toNat) s).1 (pushM v p (H.drop j.toNat) s).2 ((i : Int) + 1)) r → Ev (fun k => spec_ShortestInputs.l1 k H number s.1 s.2 (i : Int) (H.map (nextM v)) j) r := by
  intro d
  induction d with
  | zero =>
    intro j s h0 h1 hI hv hp hr
    rw [List.drop_eq_nil_of_le (by omega)] at hr
    refine Ev_succ (by
      simp only [spec_ShortestInputs.l1, List.length_map]
      rw [w64 (x := (i : Int) + 1) (by omega) (by omega)]
      exact Ev_neg (by omega) hr)
  | succ d ih =>
    intro j s h0 h1 hI hv hp hr
    have hjl : j < H.length := by omega
    have hle := hI.le
    have hlen := hI.len
    have hpl := (hI.path i v p hv hp).2
    have hil := at_lt hv
    have em := rd_map (n := v) h0 hjl
    have hmem : rd H j ∈ H := by rw [rd_here h0 hjl]; exact List.getElem_mem _
    have hww : rd_L1 s.2 (i : Int) = p := by
      show s.2.getD (i : Int).toNat [] = p
      rw [Int.toNat_natCast, List.getD_eq_getElem?_getD, hp]
      rfl
    rw [drop_here h0 hjl] at hr
    simp only [pushM] at hr
    refine Ev_succ (by
      simp only [spec_ShortestInputs.l1, List.length_map]
      rw [em, w64 (x := j + 1) (by omega) (by omega), hww]
      refine Ev_pos (by omega) (Ev_pos h0 (Ev_ite (fun c => Ev.bind (l01Has_ev s.1 (by omega) _) (Ev_ite (fun hh => ?_) (fun hh => ?_))) (fun c => ?_)))
      · rw [if_neg (fun q => q.2 (by simpa using hh))] at hr
        exact ih (j + 1) s (by omega) (by omega) hI hv hp hr
      · have hc : 0 ≤ nextM v (rd H j) ∧ nextM v (rd H j) ∉ s.1 := ⟨c, by simpa using hh⟩
        rw [if_pos hc] at hr
        refine Ev_bindc rfl (Ev_pos (by simp only [List.length_singleton]; omega) (Ev_pos (by omega) (Ev_pos (by omega) (Ev_bindc (l01Own_eq (by omega)) (Ev_pos hjl (Ev_bindc rfl (Ev_pos (by simp only [List.length_singleton]; omega) (Ev_bindc rfl (Ev_pos (by simp only [List.length_singleton]; omega) ?_)))))))))
        exact ih (j + 1) (s.1 ++ [nextM v (rd H j)], s.2 ++ [p ++ [rd H j]]) (by omega) (by omega) (push_one hH hI hv hp hmem hc.1 hc.2) (at_app hv _) (at_app hp _) hr
      · rw [if_neg (fun q => c q.1)] at hr
        exact ih (j + 1) s (by omega) (by omega) hI hv hp hr)
theorem specS_out {n : Int} {H : List Int} (hH : HandOk H) (hl : H.length ≤ 1000000) (number : Int) : ∀ (d i : Nat) (s : List Int × List (List Int)), i + d = 160 → InvM n H s → (∀ m v, m < i → s.1[m]? = some v → ∀ h ∈ H, 0 ≤ nextM v h → nextM v h ∈ s.1) → (∀ m, m < i → s.1[m]? ≠ some number) → ∃ r, Ev (fun k => spec_ShortestInputs.l0 k H number s.1 s.2 (i : Int)) r ∧ GoodM (goM H d i s) number r := by
  have hend : ∀ (i : Nat) (s : List Int × List (List Int)), s.1.length ≤ i → (∀ m, m < i → s.1[m]? ≠ some number) → ∃ r, Ev (fun k => spec_ShortestInputs.l0 k H number s.1 s.2 (i : Int)) r ∧ GoodM s number r := fun i s hi hno => ⟨([], 4), Ev_succ (by
      simp only [spec_ShortestInputs.l0]
      exact Ev_neg (by omega) (Ev.now _)), fun m p hm _ => absurd hm (hno m (by have := at_lt hm; omega)), fun _ => rfl⟩
  intro d
  induction d with
  | zero =>
    intro i s hi hI _ hno
    exact hend i s (by have := hI.le; omega) hno
  | succ d ih =>
    intro i s hi hI hc hno
    have hall := go_tells hH (d + 1) i s hi hI hc
    simp only [goM] at hall ⊢
    by_cases hlt : i < s.1.length
    · rw [if_pos hlt] at hall ⊢
      obtain ⟨hv, hp⟩ := inv_at hI hlt
      have hle := hI.le
      have hlen := hI.len
      have hrng := hI.rng _ (at_mem hv)
      by_cases he : s.1.getD i 0 = number
      · obtain ⟨g1, ⟨a, b, ga, gb⟩, _⟩ := hall
        rw [he] at hv
        refine ⟨(s.2.getD i [], 0), Ev_succ (by
          simp only [spec_ShortestInputs.l0]
          refine Ev_pos (by omega) (Ev_pos (by omega) (Ev_pos ?_ (Ev_pos (by omega) (Ev_some ?_))))
          · exact he
          · show (s.2.getD (i : Int).toNat [], (0 : Int)) = _
            rw [Int.toNat_natCast]), fun m q hm hq => ?_, fun hno' => absurd (by rw [ga]; exact List.mem_append_left _ (at_mem hv)) hno'⟩
        have hmi : m = i := nodup_at g1.nd hm (by rw [ga]; exact at_app hv a)
        rw [hmi, gb, at_app hp b] at hq
        rw [Option.some.inj hq]
      · obtain ⟨h1, ⟨a, b, ha, hb⟩, h3⟩ := push_tells hH H s (fun x hx => hx) hI hv hp
        obtain ⟨r, hr, hg⟩ := ih (i + 1) _ (by omega) h1 (fun m v hm hv' h hh h0 => by
          by_cases hmi : m = i
          · rw [hmi, ha, at_app hv a] at hv'
            rw [← Option.some.inj hv'] at h0 ⊢
            exact h3 h hh h0
          · have : s.1[m]? = some v := by rw [← hv', ha]; exact (List.getElem?_append_left (by omega)).symm
            rw [ha]
            exact List.mem_append_left _ (hc m v (by omega) this h hh h0)) (fun m hm => by
          by_cases hmi : m = i
          · rw [hmi, ha, at_app hv a]
            exact fun q => he (Option.some.inj q)
          · rw [ha, List.getElem?_append_left (by omega)]
            exact hno m (by omega))
        refine ⟨r, Ev_succ (by
          simp only [spec_ShortestInputs.l0]
          rw [show rd s.1 (i : Int) = s.1.getD i 0 from rfl]
          refine Ev_pos (by omega) (Ev_pos (by omega) (Ev_neg he (Ev.bind (next_list hrng hH hl) ?_)))
          exact specS_in hH hl number (by omega) r H.length 0 s (by omega) (by omega) hI hv hp hr), hg⟩
    · rw [if_neg hlt] at hall ⊢
      exact hend i s (by omega) hno

/-- A number that is asked for, and the way to it. -/
theorem implS_ev {b0 b1 b2 b3 b4 : Bool} {d : Int} {n : Int} (hnum : impl_numberOf.f b0 b1 b2 b3 b4 d = some n) (hn : 0 ≤ n ∧ n ≤ 159) {H : List Int} (hH : HandOk H) (hl : H.length ≤ 1000000) {number : Int} (hb : numB number = true) : ∃ r, Ev (fun k => impl_ShortestInputs.j0 k H number false b0 b1 b2 b3 b4 d) r ∧ GoodM (finalM n H) number r := by
  obtain ⟨W, S, h1, h2⟩ := shortest_ev hnum hn hH hl
  obtain ⟨_, t2, t3⟩ := num_tells number
  have hr := t3 hb
  have hwl := h2.wl
  have hsl := h2.sl
  have hseen := h2.seen number hr.1 hr.2
  have hinv := (final_tells hn hH).1
  by_cases hm : number ∈ (finalM n H).1
  · obtain ⟨m, hm1⟩ := List.mem_iff_getElem?.1 hm
    obtain ⟨_, hm2⟩ := inv_at hinv (at_lt hm1)
    have hw := h2.ways m number _ hm1 hm2
    have hww : rd_L1 W number = (finalM n H).2.getD m [] := by
      show W.getD number.toNat [] = _
      rw [List.getD_eq_getElem?_getD, hw]
      rfl
    refine ⟨((finalM n H).2.getD m [], 0), Ev_succ (by
      simp only [impl_ShortestInputs.j0, Bool.false_eq_true, if_false]
      refine Ev_bindc t2 (Ev_pos hb (Ev.bind h1 (Ev_pos hr.1 (Ev_pos (by simp only; omega) (Ev_pos (hseen.2 hm) (Ev_pos (by simp only; omega) (Ev_some ?_)))))))
      rw [hww]), fun m' q hm' hq => ?_, fun q => absurd hm q⟩
    obtain rfl := nodup_at hinv.nd hm1 hm'
    rw [hm2] at hq
    rw [Option.some.inj hq]
  · exact ⟨([], 4), Ev_succ (by
      simp only [impl_ShortestInputs.j0, Bool.false_eq_true, if_false]
      exact Ev_bindc t2 (Ev_pos hb (Ev.bind h1 (Ev_pos hr.1 (Ev_pos (by simp only; omega) (Ev_neg (fun q => hm (hseen.1 q)) (Ev.now _))))))), fun m q hm' _ => absurd (at_mem hm') hm, fun _ => rfl⟩
theorem good_len {n : Int} {H : List Int} {f : List Int × List (List Int)} (hI : InvM n H f) {number : Int} {r : List Int × Int} (hr : GoodM f number r) : r.1.length ≤ 160 := by
  by_cases hm : number ∈ f.1
  · obtain ⟨m, h1⟩ := List.mem_iff_getElem?.1 hm
    obtain ⟨_, h2⟩ := inv_at hI (at_lt h1)
    rw [hr.1 m _ h1 h2]
    have h3 := (hI.path m _ _ h1 h2).2
    have h4 := hI.le
    have h5 := at_lt h1
    exact Nat.le_trans h3 (by omega)
  · rw [hr.2 hm]; simp
theorem shorts_tell (b0 b1 b2 b3 b4 : Bool) (d : Int) (H : List Int) (number : Int) (hl : H.length ≤ 1000000) : ∃ r1 r2, Ev (fun k => spec_ShortestInputs.f k b0 b1 b2 b3 b4 d H number) (r1, r2) ∧ Ev (fun k => impl_ShortestInputs.f k b0 b1 b2 b3 b4 d H number) (r1, r2) ∧ r1.length ≤ 160 ∧ (if soundB b0 b1 b2 b3 b4 d = true ∧ handB H = true then (if numB number = true then ∀ n, impl_numberOf.f b0 b1 b2 b3 b4 d = some n → GoodM (finalM n H) number (r1, r2) else r2 = 2) else r2 = 1) := by
  have hc := l25Code_ev b0 b1 b2 b3 b4 d H hl
  obtain ⟨t1, t2, t3⟩ := sound_tells b0 b1 b2 b3 b4 d
  obtain ⟨u1, u2, u3⟩ := num_tells number
  have hi := isHand_ev H hl
  unfold spec_ShortestInputs.f impl_ShortestInputs.f
  by_cases hs : soundB b0 b1 b2 b3 b4 d = true
  · obtain ⟨n, n0, n1, hnum, hspec, _⟩ := t3 hs
    by_cases hh : HandOk H
    · have hhb := handB_iff.2 hh
      rw [if_pos ⟨hs, hhb⟩] at hc
      simp only [if_pos (show soundB b0 b1 b2 b3 b4 d = true ∧ handB H = true from ⟨hs, hhb⟩)]
      by_cases hb : numB number = true
      · simp only [if_pos hb]
        have hinv := (final_tells ⟨n0, n1⟩ hh).1
        obtain ⟨r, hr, hg⟩ := specS_out hh hl number 160 0 ([n], [[]]) rfl (start_inv ⟨n0, n1⟩ H) (fun m v hm => absurd hm (by omega)) (fun m hm => absurd hm (by omega))
        obtain ⟨q, hq, hgq⟩ := implS_ev hnum ⟨n0, n1⟩ hh hl hb
        obtain rfl := GoodM.unique hinv hgq hg
        obtain ⟨q1, q2⟩ := q
        refine ⟨q1, q2, Ev.bind hc (Ev_pos rfl (Ev_bindc u1 (Ev_succ ?_))), Ev_bindc t2 (Ev_pos hs (Ev.bind hi ?_)), good_len hinv hg, fun n' hn' => ?_⟩
        · rw [hb]
          simp only [spec_ShortestInputs.j0, Bool.not_true, Bool.false_eq_true, if_false]
          refine Ev_succ (by
            simp only [spec_ShortestInputs.j1]
            exact Ev_pos (by simp) (Ev.bind hspec hr))
        · rw [hhb]
          exact hq
        · rw [hnum] at hn'
          obtain rfl := Option.some.inj hn'
          exact hg
      · simp only [if_neg hb]
        have hb' := Bool.eq_false_iff.2 hb
        refine ⟨[], 2, Ev.bind hc (Ev_pos rfl (Ev_bindc u1 (Ev_succ ?_))), Ev_bindc t2 (Ev_pos hs (Ev.bind hi (Ev_succ ?_))), by simp, rfl⟩
        · rw [hb']
          simp only [spec_ShortestInputs.j0, Bool.not_false, if_true]
          refine Ev_succ (by
            simp only [spec_ShortestInputs.j1]
            exact Ev_neg (by decide) (Ev.now _))
        · rw [hhb]
          simp only [impl_ShortestInputs.j0, Bool.not_true, Bool.false_eq_true, if_false]
          exact Ev_bindc u2 (Ev_neg hb (Ev.now _))
    · rw [if_neg (fun q => hh (handB_iff.1 q.2))] at hc
      simp only [if_neg (show ¬ (soundB b0 b1 b2 b3 b4 d = true ∧ handB H = true) from fun q => hh (handB_iff.1 q.2))]
      refine ⟨[], 1, Ev.bind hc (Ev_neg (by decide) (Ev_succ ?_)), Ev_bindc t2 (Ev_pos hs (Ev.bind hi (Ev_succ ?_))), by simp, rfl⟩
      · simp only [spec_ShortestInputs.j0, Bool.false_eq_true, if_false]
        refine Ev_succ (by
          simp only [spec_ShortestInputs.j1]
          exact Ev_neg (by decide) (Ev.now _))
      · rw [handB_no hh]
        simp only [impl_ShortestInputs.j0, Bool.not_false, if_true]
        exact Ev.now _
  · rw [if_neg (fun q => hs q.1)] at hc
    simp only [if_neg (show ¬ (soundB b0 b1 b2 b3 b4 d = true ∧ handB H = true) from fun q => hs q.1)]
    refine ⟨[], 1, Ev.bind hc (Ev_neg (by decide) (Ev_succ ?_)), Ev_bindc t2 (Ev_neg hs (Ev_succ ?_)), by simp, rfl⟩
    · simp only [spec_ShortestInputs.j0, Bool.false_eq_true, if_false]
      refine Ev_succ (by
        simp only [spec_ShortestInputs.j1]
        exact Ev_neg (by decide) (Ev.now _))
    · simp only [impl_ShortestInputs.j0, if_true]
      exact Ev.now _
theorem core_FnExactShortestInputs (b0 b1 b2 b3 b4 : Bool) (d : Int) (H : List Int) (number : Int) (hl : H.length ≤ 1000000) (_w : (Lit.int .i64 d).wf = true) (_w2 : (Lit.int .i64 number).wf = true) : ∃ r1 r2, Ev (fun k => spec_ShortestInputs.f k b0 b1 b2 b3 b4 d H number) (r1, r2) ∧ Ev (fun k => impl_ShortestInputs.f k b0 b1 b2 b3 b4 d H number) (r1, r2) ∧ r1.length ≤ 160 := by
  obtain ⟨r1, r2, h1, h2, h3, _⟩ := shorts_tell b0 b1 b2 b3 b4 d H number hl
  exact ⟨r1, r2, h1, h2, h3⟩

/-- How much room to..S leaves behind a row of n elements. -/
def room (n : Nat) : Nat := if n % 6 = 5 then 0 else if n % 3 = 0 then 1 else n
theorem room_le (n : Nat) : room n ≤ n + 1 := by unfold room; split <;> (try split) <;> omega
theorem room_eq (n : Nat) (h : n ≤ 9223372036854775807) : laws_roomBehind.f (n : Int) = some (room n : Int) := by
  unfold laws_roomBehind.f room
  rw [Int.tmod_eq_emod_of_nonneg (by omega), Int.tmod_eq_emod_of_nonneg (by omega)]
  by_cases h1 : n % 6 = 5
  · rw [if_pos (by omega), if_pos h1]; rfl
  · rw [if_neg (by omega), if_neg h1]
    by_cases h2 : n % 3 = 0
    · rw [if_pos (by omega), if_pos h2]; rfl
    · rw [if_neg (by omega), if_neg h2]
theorem take_set_far {α : Type} (xs : List α) (y : α) {n m : Nat} (h : n ≤ m) : (xs.set m y).take n = xs.take n := by
  apply List.ext_getElem?
  intro i
  by_cases hi : i < n
  · rw [List.getElem?_take_of_lt hi, List.getElem?_take_of_lt hi, List.getElem?_set_ne (by omega)]
  · rw [List.getElem?_eq_none (by simp; omega), List.getElem?_eq_none (by simp; omega)]
theorem take_set_at {α : Type} (xs : List α) (y : α) {n : Nat} (h : n < xs.length) : (xs.set n y).take (n + 1) = xs.take n ++ [y] := by
  rw [List.take_succ_eq_append_getElem (by rw [List.length_set]; exact h), take_set_far xs y (Nat.le_refl n)]
  simp
theorem rooms {n : Nat} (h : n ≤ 1000000) : wrap64 ((n : Int) + (room n : Int)) = ((n + room n : Nat) : Int) := by
  have := room_le n
  rw [w64 (by omega) (by omega)]; omega

theorem eqInt64S_loop (xs : List Int) (hn : xs.length ≤ 9000000000000000000) (d : Nat) : ∀ (k : Nat) (i : Int), 0 ≤ i → i ≤ xs.length → ((xs.length : Int) - i).toNat ≤ d → d < k → laws_eqInt64S.l0 k xs xs i = some true := by
  induction d with
  | zero =>
    intro k i h0 h1 hd hk
    obtain ⟨k, rfl⟩ : ∃ m, k = m + 1 := ⟨k - 1, by omega⟩
    simp only [laws_eqInt64S.l0]
    rw [if_neg (by omega)]
  | succ d ih =>
    intro k i h0 h1 hd hk
    obtain ⟨k, rfl⟩ : ∃ m, k = m + 1 := ⟨k - 1, by omega⟩
    simp only [laws_eqInt64S.l0]
    by_cases hlt : i < (xs.length : Int)
    · rw [if_pos hlt, if_pos h0, if_pos hlt]
      simp only [if_true]
      rw [w64 (by omega) (by omega)]
      exact ih k (i + 1) (by omega) (by omega) (by omega) (by omega)
    · rw [if_neg hlt]
theorem eqInt64S_refl (xs : List Int) (hn : xs.length ≤ 9000000000000000000) : Ev (fun k => laws_eqInt64S.f k xs xs) true :=
  ⟨xs.length + 1, fun k hk => by
    simp only [laws_eqInt64S.f, if_true]
    exact eqInt64S_loop xs hn xs.length k 0 (by omega) (by omega) (by omega) (by omega)⟩

theorem rdSetInt64S (xs : List Int) {i : Int} (h0 : 0 ≤ i) (h1 : i < xs.length) (v : Int) : rd (xs.set i.toNat v) i = v := by
  simp [rd, List.getD_eq_getElem?_getD, List.getElem?_set_self (show i.toNat < xs.length by omega)]
theorem markInt64S_loop (d : Nat) : ∀ (x0 : List Int) (m i : Int), 0 ≤ i → i ≤ x0.length → ((x0.length : Int) - i).toNat ≤ d → 0 ≤ m → m + 1 * d ≤ 4000000000000000000 → x0.length ≤ 4000000000000000000 →
    ∃ (m' : Int) (x' : List Int), x'.length = x0.length ∧ (∀ j : Nat, j < i.toNat → x'[j]? = x0[j]?) ∧ m ≤ m' ∧ m' ≤ m + 1 * d ∧ ∀ k, d < k → laws_markInt64S.l0 k x0 m i = some (m', x') ∧ laws_heldInt64S.l0 k x' m i = some m' := by
  induction d with
  | zero =>
    intro x0 m i h0 h1 hd hm hm2 hn
    refine ⟨m, x0, rfl, fun _ _ => rfl, by omega, by omega, fun k hk => ?_⟩
    obtain ⟨k, rfl⟩ : ∃ m, k = m + 1 := ⟨k - 1, by omega⟩
    simp only [laws_markInt64S.l0, laws_heldInt64S.l0]
    rw [if_neg (by omega), if_neg (by omega)]
    exact ⟨rfl, rfl⟩
  | succ d ih =>
    intro x0 m i h0 h1 hd hm hm2 hn
    by_cases hlt : i < (x0.length : Int)
    · obtain ⟨m', x', hl, hx, hm1, hm3, hk⟩ := ih (x0.set i.toNat m) (m + 1) (i + 1) (by omega) (by rw [List.length_set]; omega) (by rw [List.length_set]; omega) (by omega) (by omega) (by rw [List.length_set]; omega)
      rw [List.length_set] at hl
      refine ⟨m', x', hl, fun j hj => ?_, by omega, by omega, fun k hkd => ?_⟩
      · rw [hx j (by omega), List.getElem?_set_ne (by omega)]
      obtain ⟨k, rfl⟩ : ∃ m, k = m + 1 := ⟨k - 1, by omega⟩
      obtain ⟨h2, h3⟩ := hk k (by omega)
      have hr : rd x' i = m := by
        have := hx i.toNat (by omega)
        rw [List.getElem?_set_self (show i.toNat < x0.length by omega)] at this
        simp [rd, List.getD_eq_getElem?_getD, this]
      have w1 : wrap64 (m + 1) = m + 1 := by rw [w64 (by omega) (by omega)] <;> omega
      have wi : wrap64 (i + 1) = i + 1 := w64 (by omega) (by omega)
      refine ⟨?_, ?_⟩
      · simp only [laws_markInt64S.l0]
        rw [if_pos hlt, if_pos h0]
        simp only [Option.bind_some, rdSetInt64S x0 h0 hlt, List.set_set, w1, wi]
        exact h2
      · simp only [laws_heldInt64S.l0]
        rw [if_pos (by omega), if_pos h0, hr]
        simp only [w1, wi, if_true]
        exact h3
    · refine ⟨m, x0, rfl, fun _ _ => rfl, by omega, by omega, fun k hk => ?_⟩
      obtain ⟨k, rfl⟩ : ∃ m, k = m + 1 := ⟨k - 1, by omega⟩
      simp only [laws_markInt64S.l0, laws_heldInt64S.l0]
      rw [if_neg hlt, if_neg hlt]
      exact ⟨rfl, rfl⟩
theorem markInt64S_tells (xs : List Int) (hn : xs.length ≤ 2000000) (m : Int) (h0 : 0 ≤ m) (h1 : m ≤ 1000000000000) :
    ∃ (m' : Int) (l' : List Int), Ev (fun k => laws_markInt64S.f k xs m) (m', l') ∧ m ≤ m' ∧ m' ≤ m + 1 * xs.length ∧ l'.length = xs.length ∧ Ev (fun k => laws_heldInt64S.f k l' m) m' := by
  obtain ⟨m', x', hl, _, h2, h3, hk⟩ := markInt64S_loop xs.length xs m 0 (by omega) (by omega) (by omega) h0 (by omega) (by omega)
  exact ⟨m', x', ⟨xs.length + 1, fun k h => (hk k (by omega)).1⟩, h2, h3, hl, ⟨xs.length + 1, fun k h => (hk k (by omega)).2⟩⟩

def convInt64S (x : Int) : Int := x
theorem toInt64S_l1 (l0 : List Int) (N : Nat) (hN : N ≤ 4000000) (hn : l0.length ≤ N) (d : Nat) : ∀ (k : Nat) (x5 : List Int) (i : Int), x5.length = N → (l0.length : Int) ≤ i → i ≤ N → ((N : Int) - i).toNat ≤ d → d < k →
    ∃ ext, laws_toInt64SX.l1 k l0 x5 i = some ext ∧ ext.length = N ∧ ext.take l0.length = x5.take l0.length := by
  induction d with
  | zero =>
    intro k x5 i h1 h2 h3 hd hk
    obtain ⟨k, rfl⟩ : ∃ m, k = m + 1 := ⟨k - 1, by omega⟩
    refine ⟨x5, ?_, h1, rfl⟩
    simp only [laws_toInt64SX.l1]
    rw [if_neg (by omega), if_pos (by omega), if_pos (by omega)]
  | succ d ih =>
    intro k x5 i h1 h2 h3 hd hk
    obtain ⟨k, rfl⟩ : ∃ m, k = m + 1 := ⟨k - 1, by omega⟩
    simp only [laws_toInt64SX.l1]
    by_cases hlt : i < (x5.length : Int)
    · rw [if_pos hlt]
      skip
      rw [if_pos (show 0 ≤ i by omega), w64 (by omega) (by omega)]
      refine (ih k _ (i + 1) (by rw [List.length_set]; exact h1) (by omega) (by omega) (by omega) (by omega)).imp fun ext h => ⟨h.1, h.2.1, h.2.2.trans ?_⟩
      exact take_set_far _ _ (by omega)
    · rw [if_neg hlt, if_pos (by omega), if_pos (by omega)]
      exact ⟨x5, rfl, h1, rfl⟩
theorem toInt64S_l0 (l0 : List Int) (N : Nat) (hN : N ≤ 4000000) (hn : l0.length ≤ N) (d : Nat) : ∀ (k : Nat) (x5 : List Int) (i : Int), x5.length = N → 0 ≤ i → i ≤ l0.length → ((l0.length : Int) - i).toNat ≤ d → d + N + 1 < k → x5.take i.toNat = (l0.take i.toNat).map convInt64S →
    ∃ ext, laws_toInt64SX.l0 k l0 x5 i = some ext ∧ ext.length = N ∧ ext.take l0.length = l0.map convInt64S := by
  induction d with
  | zero =>
    intro k x5 i h1 h2 h3 hd hk hx
    obtain ⟨k, rfl⟩ : ∃ m, k = m + 1 := ⟨k - 1, by omega⟩
    simp only [laws_toInt64SX.l0]
    rw [if_neg (by omega)]
    obtain ⟨ext, h4, h5, h6⟩ := toInt64S_l1 l0 N hN hn N k x5 (l0.length : Int) h1 (by omega) (by omega) (by omega) (by omega)
    refine ⟨ext, h4, h5, h6.trans ?_⟩
    have : i.toNat = l0.length := by omega
    rw [this, List.take_length] at hx
    exact hx
  | succ d ih =>
    intro k x5 i h1 h2 h3 hd hk hx
    obtain ⟨k, rfl⟩ : ∃ m, k = m + 1 := ⟨k - 1, by omega⟩
    simp only [laws_toInt64SX.l0]
    by_cases hlt : i < (l0.length : Int)
    · rw [if_pos hlt, if_pos h2]
      skip
      rw [if_pos (show i < (x5.length : Int) by omega), w64 (by omega) (by omega)]
      refine ih k _ (i + 1) (by rw [List.length_set]; exact h1) (by omega) (by omega) (by omega) (by omega) ?_
      have e : (i + 1).toNat = i.toNat + 1 := by omega
      rw [e, take_set_at _ _ (show i.toNat < x5.length by omega), hx, List.take_succ_eq_append_getElem (show i.toNat < l0.length by omega), List.map_append]
      have hr : rd l0 i = l0[i.toNat]'(by omega) := by
        simp [rd, List.getD_eq_getElem?_getD, List.getElem?_eq_getElem (show i.toNat < l0.length by omega)]
      simp [hr, convInt64S]
    · rw [if_neg hlt]
      obtain ⟨ext, h4, h5, h6⟩ := toInt64S_l1 l0 N hN hn N k x5 (l0.length : Int) h1 (by omega) (by omega) (by omega) (by omega)
      refine ⟨ext, h4, h5, h6.trans ?_⟩
      have : i.toNat = l0.length := by omega
      rw [this, List.take_length] at hx
      exact hx
theorem toInt64S_false (l0 : List Int) (h : l0.length ≤ 1000000) : ∃ ext, Ev (fun k => laws_toInt64SX.f k l0 false) ext ∧ ext.length = l0.length + room l0.length ∧ ext.take l0.length = l0.map convInt64S := by
  have hr := room_le l0.length
  obtain ⟨k0, hk0⟩ : ∃ k0 : Nat, l0.length + (l0.length + room l0.length) + 1 < k0 := ⟨_, Nat.lt_succ_self _⟩
  obtain ⟨ext, h1, h2, h3⟩ := toInt64S_l0 l0 (l0.length + room l0.length) (by omega) (by omega) l0.length k0 (List.replicate (l0.length + room l0.length) 0) 0 (by simp) (by omega) (by omega) (by omega) hk0 (by simp)
  have hm := laws_toInt64SX.mono l0 false
  refine ⟨ext, Ev.of (k := k0 + 1) hm ?_, h2, h3⟩
  have e : wrap64 ((l0.length : Int) + (room l0.length : Int)) = ((l0.length + room l0.length : Nat) : Int) := by
    rw [w64 (by omega) (by omega)]; omega
  simp only [laws_toInt64SX.f, laws_toInt64SX.j0, Bool.false_eq_true, if_false]
  rw [room_eq l0.length (by omega), Option.bind_some, e, if_pos (by omega), Int.toNat_natCast, if_pos (by omega)]
  exact h1
theorem toInt64S_true (l0 : List Int) (h : l0.length ≤ 1000000) : ∃ extb, Ev (fun k => laws_toInt64SX.f k l0 true) extb ∧ l0.length ≤ extb.length ∧ extb.take l0.length = l0.map convInt64S ∧ (extb = [] → l0.length = 0) := by
  by_cases hz : l0.length = 0
  · have : l0 = [] := List.eq_nil_of_length_eq_zero hz
    subst this
    refine ⟨[], ⟨1, fun k hk => ?_⟩, by simp, by simp, fun _ => rfl⟩
    obtain ⟨k, rfl⟩ : ∃ m, k = m + 1 := ⟨k - 1, by omega⟩
    simp [laws_toInt64SX.f, laws_toInt64SX.j0]
  · obtain ⟨ext, h1, h2, h3⟩ := toInt64S_false l0 h
    refine ⟨ext, Ev.congr (fun k => ?_) h1, by omega, h3, fun e => by rw [e] at h2; simp at h2; omega⟩
    have e : ((l0.length : Int) == 0) = false := by simpa using hz
    simp only [laws_toInt64SX.f, e, Bool.false_eq_true, if_false, if_true]

theorem FnExactShortestInputs : laws_FnExactShortestInputs.Pure := by
  intro a0_0 a0_1 a0_2 a0_3 a0_4 a0_5 l1 a2 hnl1 wa0_5 wa2
  by_cases hg_l1 : l1.length ≤ 1000000
  case neg =>
    exact .inl (by omega)
  refine .inr (?_)
  have hb1 : l1.length ≤ 1000000 := by omega
  have hm1 := room_le l1.length
  obtain ⟨ext1, e1, el1, et1⟩ := toInt64S_false l1 hb1
  obtain ⟨extb1, b1, bl1, bt1, bn1⟩ := toInt64S_true l1 hb1
  have q1 := eqInt64S_refl ext1 (by omega)
  obtain ⟨z_r1, z_r2, s1, s2, hl_z_r1⟩ := core_FnExactShortestInputs a0_0 a0_1 a0_2 a0_3 a0_4 a0_5 (l1.map convInt64S) a2 (by rw [List.length_map]; exact hb1) wa0_5 wa2
  have qq_he_gs_r1_ws_r1 := eqInt64S_refl z_r1 (by omega)
  obtain ⟨mk_0, ml_0, mm0, mp0, mu0, ml0, mh0⟩ := markInt64S_tells (l1.map convInt64S) (by (try rw [List.length_map]); omega) 101 (by omega) (by omega)
  have mv0 := mu0
  (try rw [List.length_map] at mv0)
  obtain ⟨mk_1, ml_1, mm1, mp1, mu1, ml1, mh1⟩ := markInt64S_tells z_r1 (by (try rw [List.length_map]); omega) 101 (by omega) (by omega)
  have mv1 := mu1
  (try rw [List.length_map] at mv1)
  obtain ⟨K0_, v_e1⟩ := e1
  obtain ⟨K1_, v_b1⟩ := b1
  obtain ⟨K2_, v_q1⟩ := q1
  obtain ⟨K3_, v_s1⟩ := s1
  obtain ⟨K4_, v_s2⟩ := s2
  obtain ⟨K5_, v_qq_he_gs_r1_ws_r1⟩ := qq_he_gs_r1_ws_r1
  obtain ⟨K6_, v_mm0⟩ := mm0
  obtain ⟨K7_, v_mh0⟩ := mh0
  obtain ⟨K8_, v_mm1⟩ := mm1
  obtain ⟨K9_, v_mh1⟩ := mh1
  refine ⟨K0_ + K1_ + K2_ + K3_ + K4_ + K5_ + K6_ + K7_ + K8_ + K9_, (l1.map convInt64S), ext1, extb1, (room l1.length : Int), z_r1, z_r2, z_r1, mk_0, ml_0, mk_1, ml_1, ?_⟩
  exact { hto1 := v_e1 (K0_ + K1_ + K2_ + K3_ + K4_ + K5_ + K6_ + K7_ + K8_ + K9_) (by omega), htob1 := v_b1 (K0_ + K1_ + K2_ + K3_ + K4_ + K5_ + K6_ + K7_ + K8_ + K9_) (by omega), hxl1 := List.length_map .., hnb1 := bn1, hne1 := fun h => by rw [h] at el1; simp at el1; unfold room at el1; split at el1 <;> (try split at el1) <;> omega, hxe1 := by rw [List.length_map]; exact et1.symm, hxb1 := by rw [List.length_map]; exact bt1.symm, hle1 := by rw [List.length_map]; omega, hlb1 := by rw [List.length_map]; exact bl1, hrm1 := by rw [List.length_map]; exact room_eq _ (by omega), hj1 := by rw [List.length_map, el1]; exact rooms hb1, heqx1 := v_q1 (K0_ + K1_ + K2_ + K3_ + K4_ + K5_ + K6_ + K7_ + K8_ + K9_) (by omega), hg_l1 := by omega, hfspec := v_s1 (K0_ + K1_ + K2_ + K3_ + K4_ + K5_ + K6_ + K7_ + K8_ + K9_) (by omega), hvac := rfl, hfimpl := v_s2 (K0_ + K1_ + K2_ + K3_ + K4_ + K5_ + K6_ + K7_ + K8_ + K9_) (by omega), he_gs_r1_ws_r1 := v_qq_he_gs_r1_ws_r1 (K0_ + K1_ + K2_ + K3_ + K4_ + K5_ + K6_ + K7_ + K8_ + K9_) (by omega), hm0 := v_mm0 (K0_ + K1_ + K2_ + K3_ + K4_ + K5_ + K6_ + K7_ + K8_ + K9_) (by omega), hmn0 := decide_eq_false (by omega), hm1 := v_mm1 (K0_ + K1_ + K2_ + K3_ + K4_ + K5_ + K6_ + K7_ + K8_ + K9_) (by omega), hmn1 := decide_eq_false (by omega), hml1 := ml1.symm, hh_ml_1 := v_mh1 (K0_ + K1_ + K2_ + K3_ + K4_ + K5_ + K6_ + K7_ + K8_ + K9_) (by omega) }

end Go.Proofs.Ythieppjmjgijfaa.Pure
