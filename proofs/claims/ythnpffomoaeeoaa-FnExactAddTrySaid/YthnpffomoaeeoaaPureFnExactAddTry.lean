/- The statement over numbers and lists for FnExactAddTry: the reference and the program answer alike for all arguments. -/
import Derived.Test.YthnpffomoaeeoaaXFnExactAddTry
set_option linter.unusedVariables false
set_option linter.unusedSimpArgs false
namespace Go.Proofs.Ythnpffomoaeeoaa.Pure
open Go.RowKit Go.Proofs.Ythnpffomoaeeoaa.PFnExactAddTry Go.Proofs.YthnpffomoaeeoaaW.PrintWords Go.Proofs.YthnpffomoaeeoaaW.PrintLast Go.Proofs.YthnpffomoaeeoaaW.PrintMore
open Go.Proofs.YthnpffomoaeeoaaX

theorem w64 {x : Int} (h0 : -9223372036854775808 ≤ x) (h1 : x ≤ 9223372036854775807) : wrap64 x = x := by unfold wrap64; omega
theorem Ev_ite {α : Type} {c : Prop} [Decidable c] {g h : Nat → Option α} {r : α} (h1 : c → Ev g r) (h2 : ¬ c → Ev h r) : Ev (fun k => if c then g k else h k) r := by
  by_cases hc : c
  · obtain ⟨K, hK⟩ := h1 hc
    exact ⟨K, fun k hk => (if_pos hc).trans (hK k hk)⟩
  · obtain ⟨K, hK⟩ := h2 hc
    exact ⟨K, fun k hk => (if_neg hc).trans (hK k hk)⟩
theorem Ev_pos {α : Type} {c : Prop} [Decidable c] {g h : Nat → Option α} {r : α} (hc : c) (h1 : Ev g r) : Ev (fun k => if c then g k else h k) r := Ev_ite (fun _ => h1) (fun n => absurd hc n)
theorem Ev_neg {α : Type} {c : Prop} [Decidable c] {g h : Nat → Option α} {r : α} (hc : ¬ c) (h1 : Ev h r) : Ev (fun k => if c then g k else h k) r := Ev_ite (fun n => absurd n hc) (fun _ => h1)
theorem Ev_some {α : Type} {r q : α} (h : r = q) : Ev (fun _ => some r) q := h ▸ Ev.now r
theorem Ev_eq {α : Type} {g : Nat → Option α} {r q : α} (h : r = q) (k : Ev g r) : Ev g q := h ▸ k
theorem Ev_const {α : Type} {o : Option α} {r : α} (h : o = some r) : Ev (fun _ => o) r := by subst h; exact Ev.now r
theorem Ev_bindc {α β : Type} {o : Option α} {f : Nat → α → Option β} {a : α} {r : β} (h : o = some a) (k : Ev (fun n => f n a) r) : Ev (fun n => o.bind (f n)) r := by subst h; exact k
theorem Ev_unique {α : Type} {g : Nat → Option α} {r q : α} (h : Ev g r) (k : Ev g q) : r = q := by
  obtain ⟨K, h⟩ := h
  obtain ⟨L, k⟩ := k
  have h1 := h (max K L) (by omega)
  have h2 := k (max K L) (by omega)
  rw [h1] at h2
  exact Option.some.inj h2
theorem lit64 {x : Int} (h : (Lit.int .i64 x).wf = true) : -9223372036854775808 ≤ x ∧ x ≤ 9223372036854775807 := by
  have h := h
  simp [Lit.wf, IntKind.min, IntKind.max, IntKind.bits, IntKind.signed] at h
  omega
theorem mn_eq (a b : Int) : mn a b = min a b := by unfold mn; omega
theorem mx_eq (a b : Int) : mx a b = max a b := by unfold mx; omega

theorem within_eq (a lo hi : Int) : impl_within.f a lo hi = some (decide (lo ≤ a ∧ a ≤ hi)) := by
  unfold impl_within.f
  by_cases h : lo ≤ a <;> simp [h]

theorem isCue_eq (a : Int) : impl_isCue.f a = some (decide (0 ≤ a ∧ a ≤ 19)) := by unfold impl_isCue.f; rw [within_eq]; rfl
theorem isTick_eq (a : Int) : impl_isTick.f a = some (decide (0 ≤ a ∧ a ≤ 100000)) := by unfold impl_isTick.f; rw [within_eq]; rfl

theorem l01In_eq (a lo hi : Int) : spec_l01In.f a lo hi = some (decide (lo ≤ a ∧ a ≤ hi)) := by
  unfold spec_l01In.f
  by_cases h : a ≥ lo
  · have : lo ≤ a := h
    simp [this]
  · have : ¬ lo ≤ a := h
    simp [this]

/-- A loop over the numbers 0 to n - 1: d rounds from i on. -/
def forM {S ρ : Type} (step : S → Int → ρ ⊕ S) (out : S → ρ) : Nat → S → Int → ρ
  | 0, s, _ => out s
  | d + 1, s, i => match step s i with
    | .inl r => r
    | .inr s' => forM step out d s' (i + 1)
theorem Ev_for {S ρ : Type} {F : Nat → S → Int → Option ρ} {step : S → Int → ρ ⊕ S} {out : S → ρ} {n : Nat} (Inv : S → Int → Prop)
    (hend : ∀ s, Inv s n → ∃ K, ∀ k, K ≤ k → F k s n = some (out s))
    (hstep : ∀ (s : S) (i : Int), 0 ≤ i → i < n → Inv s i → (∃ r, step s i = .inl r ∧ ∃ K, ∀ k, K ≤ k → F k s i = some r) ∨ (∃ s', step s i = .inr s' ∧ Inv s' (i + 1) ∧ ∃ K, ∀ k, K ≤ k → F (k + 1) s i = F k s' (i + 1))) :
    ∀ (d : Nat) (s : S) (i : Int), 0 ≤ i → i + d = n → Inv s i → Ev (fun k => F k s i) (forM step out d s i) := by
  intro d
  induction d with
  | zero =>
    intro s i h0 h1 hI
    obtain rfl : i = n := by omega
    exact hend s hI
  | succ d ih =>
    intro s i h0 h1 hI
    rcases hstep s i h0 (by omega) hI with ⟨r, hr, hK⟩ | ⟨s', hs, hI', K, hK⟩
    · simp only [forM, hr]
      exact hK
    · simp only [forM, hs]
      obtain ⟨K', h⟩ := ih s' (i + 1) (by omega) (by omega) hI'
      refine ⟨K + K' + 1, fun k hk => ?_⟩
      obtain ⟨k, rfl⟩ : ∃ m, k = m + 1 := ⟨k - 1, by omega⟩
      exact (hK k (by omega)).trans (h k (by omega))
/-- What holds at the end of a loop. -/
theorem forM_ind {S ρ : Type} {step : S → Int → ρ ⊕ S} {out : S → ρ} {n : Nat} (Inv : S → Int → Prop) (Post : ρ → Prop) (hend : ∀ s, Inv s n → Post (out s))
    (hstep : ∀ (s : S) (i : Int), 0 ≤ i → i < n → Inv s i → (∀ r, step s i = .inl r → Post r) ∧ ∀ s', step s i = .inr s' → Inv s' (i + 1)) : ∀ (d : Nat) (s : S) (i : Int), 0 ≤ i → i + d = n → Inv s i → Post (forM step out d s i) := by
  intro d
  induction d with
  | zero =>
    intro s i h0 h1 hI
    obtain rfl : i = n := by omega
    exact hend s hI
  | succ d ih =>
    intro s i h0 h1 hI
    obtain ⟨h2, h3⟩ := hstep s i h0 (by omega) hI
    simp only [forM]
    cases hs : step s i with
    | inl r => exact h2 r hs
    | inr s' => exact ih s' (i + 1) (by omega) (by omega) (h3 s' hs)

theorem Ev_succ {α : Type} {g : Nat → Option α} {r : α} (h : Ev (fun k => g (k + 1)) r) : Ev g r := Ev.step (fun _ => rfl) h
theorem Ev_for2 {S ρ : Type} {F : Nat → S → Int → Option ρ} {step : S → Int → ρ ⊕ S} {out : S → ρ} {n : Nat} (Inv : S → Int → Prop)
    (hend : ∀ s, Inv s n → Ev (fun k => F k s n) (out s))
    (hstep : ∀ (s : S) (i : Int), 0 ≤ i → i < n → Inv s i → (∃ r, step s i = .inl r ∧ Ev (fun k => F k s i) r) ∨ (∃ s', step s i = .inr s' ∧ Inv s' (i + 1) ∧ ∀ r, Ev (fun k => F k s' (i + 1)) r → Ev (fun k => F k s i) r)) :
    ∀ (d : Nat) (s : S) (i : Int), 0 ≤ i → i + d = n → Inv s i → Ev (fun k => F k s i) (forM step out d s i) := by
  intro d
  induction d with
  | zero =>
    intro s i h0 h1 hI
    obtain rfl : i = n := by omega
    exact hend s hI
  | succ d ih =>
    intro s i h0 h1 hI
    rcases hstep s i h0 (by omega) hI with ⟨r, hr, hK⟩ | ⟨s', hs, hI', hK⟩
    · simp only [forM, hr]
      exact hK
    · simp only [forM, hs]
      exact hK _ (ih s' (i + 1) (by omega) (by omega) hI')
/-- A loop over a list that only gathers: a fold. -/
theorem forM_fold {S ρ α : Type} (xs : List α) (rdx : Int → α) (hrd : ∀ (j : Nat) (h : j < xs.length), rdx j = xs[j]) (upd : S → α → S) (out : S → ρ) (d : Nat) : ∀ (s : S) (i : Nat), i + d = xs.length →
    forM (ρ := ρ) (fun s i => .inr (upd s (rdx i))) out d s i = out ((xs.drop i).foldl upd s) := by
  induction d with
  | zero =>
    intro s i hi
    rw [List.drop_eq_nil_of_le (by omega)]
    rfl
  | succ d ih =>
    intro s i hi
    rw [List.drop_eq_getElem_cons (show i < xs.length by omega)]
    simp only [forM, List.foldl_cons]
    have := ih (upd s (rdx i)) (i + 1) (by omega)
    rw [← hrd i (by omega)]
    exact this
theorem forM_fold0 {S ρ α : Type} (xs : List α) (rdx : Int → α) (hrd : ∀ (j : Nat) (h : j < xs.length), rdx j = xs[j]) (upd : S → α → S) (out : S → ρ) (s : S) :
    forM (ρ := ρ) (fun s i => .inr (upd s (rdx i))) out xs.length s 0 = out (xs.foldl upd s) := by
  have := forM_fold xs rdx hrd upd out xs.length s 0 (by omega)
  rw [List.drop_zero] at this
  exact this
/-- A loop that looks at each place, and stops at the first that fails. -/
theorem forM_all {p : Int → Bool} {b : Bool} {n : Nat} (d : Nat) : ∀ i : Int, 0 ≤ i → i + d = n → (forM (S := Unit) (ρ := Bool) (fun _ i => if p i = true then .inr () else .inl false) (fun _ => b) d () i = true ↔ b = true ∧ ∀ j : Int, i ≤ j → j < n → p j = true) := by
  induction d with
  | zero =>
    intro i h0 hi
    simp only [forM]
    exact ⟨fun h => ⟨h, fun j h1 h2 => by omega⟩, fun h => h.1⟩
  | succ d ih =>
    intro i h0 hi
    simp only [forM]
    by_cases hp : p i = true
    · rw [if_pos hp]
      refine (ih (i + 1) (by omega) (by omega)).trans ⟨fun h => ⟨h.1, fun j h1 h2 => ?_⟩, fun h => ⟨h.1, fun j h1 h2 => h.2 j (by omega) h2⟩⟩
      by_cases hj : j = i
      · rw [hj]; exact hp
      · exact h.2 j (by omega) h2
    · rw [if_neg hp]
      exact ⟨(fun h => by cases h), fun h => absurd (h.2 i (Int.le_refl _) (by omega)) hp⟩

theorem rdTry {xs : List S36} {i : Int} (h0 : 0 ≤ i) (h1 : i < xs.length) : rd_T36 xs i = xs[i.toNat]'(by omega) := by
  simp [rd_T36, List.getD_eq_getElem?_getD, List.getElem?_eq_getElem (show i.toNat < xs.length by omega)]
theorem rdTry_nat {xs : List S36} (j : Nat) (h : j < xs.length) : rd_T36 xs (j : Int) = xs[j] := by
  rw [rdTry (by omega) (by omega)]; rfl
theorem rd_nat {xs : List Int} (j : Nat) (h : j < xs.length) : rd xs (j : Int) = xs[j] := by
  simp [rd, List.getD_eq_getElem?_getD, List.getElem?_eq_getElem h]
/-- The tries of a cue. -/
def ownT (xs : List S36) (c : Int) : List S36 := xs.filter fun x => x.f0 == c
/-- Has the last try been fired? -/
def lastF (xs : List S36) : Bool := match xs.getLast? with
  | some x => x.f2
  | none => false
/-- The tick of the last try. -/
def lastT (xs : List S36) : Int := match xs.getLast? with
  | some x => x.f1
  | none => 0
theorem ownT_length (xs : List S36) (c : Int) : (ownT xs c).length ≤ xs.length := List.length_filter_le _ _
theorem lastT_rd {xs : List S36} (h : 0 < xs.length) : (rd_T36 xs ((xs.length : Int) - 1)).f1 = lastT xs := by
  rw [rdTry (by omega) (by omega)]
  unfold lastT
  rw [List.getLast?_eq_getElem?, List.getElem?_eq_getElem (show xs.length - 1 < xs.length by omega)]
  congr 2
  omega
theorem lastF_rd {xs : List S36} (h : 0 < xs.length) : (rd_T36 xs ((xs.length : Int) - 1)).f2 = lastF xs := by
  rw [rdTry (by omega) (by omega)]
  unfold lastF
  rw [List.getLast?_eq_getElem?, List.getElem?_eq_getElem (show xs.length - 1 < xs.length by omega)]
  congr 2
  omega
theorem lastT_map {xs : List S36} (h : 0 < xs.length) : rd (xs.map (·.f1)) ((xs.length : Int) - 1) = lastT xs := by
  have e : (xs.length : Int) - 1 = ((xs.length - 1 : Nat) : Int) := by omega
  rw [e, rd_nat _ (by rw [List.length_map]; omega)]
  unfold lastT
  rw [List.getLast?_eq_getElem?, List.getElem?_eq_getElem (show xs.length - 1 < xs.length by omega)]
  simp
theorem fold_own (c : Int) (xs : List S36) : ∀ acc : List S36, xs.foldl (fun acc x => if x.f0 = c then acc ++ [x] else acc) acc = acc ++ ownT xs c := by
  induction xs with
  | nil => intro acc; simp [ownT]
  | cons x xs ih =>
    intro acc
    simp only [List.foldl_cons]
    rw [ih]
    unfold ownT
    by_cases hx : x.f0 = c
    · simp [List.filter_cons, hx]
    · have : (x.f0 == c) = false := by simpa using hx
      simp [List.filter_cons, hx]
theorem triesOf_ev (xs : List S36) (hn : xs.length ≤ 1000000) (c : Int) : Ev (fun k => impl_triesOf.f k xs c) (ownT xs c) := by
  have h := Ev_for2 (F := fun k s i => impl_triesOf.l0 k c s xs (xs.length : Int) i) (step := fun s i => .inr ((fun acc x => if x.f0 = c then acc ++ [x] else acc) s (rd_T36 xs i))) (out := fun s => s) (n := xs.length) (fun s i => (s.length : Int) ≤ i)
    (fun s hI => Ev_succ (by
      simp only [impl_triesOf.l0]
      exact Ev_neg (by omega) (Ev.now _)))
    (fun s i h0 h1 hI => .inr ⟨_, rfl, by
      by_cases hc : (rd_T36 xs i).f0 = c
      · simp only [hc, if_true]; rw [List.length_append]; simp; omega
      · simp only [hc, if_false]; omega, fun r hr => Ev_succ (by
      simp only [impl_triesOf.l0]
      refine Ev_pos h1 (Ev_pos h0 (Ev_pos h1 ?_))
      rw [w64 (by omega) (by omega)]
      refine Ev_ite (fun hc => ?_) (fun hc => ?_)
      · simp only [hc, if_true] at hr ⊢
        exact Ev_pos (by omega) (by rw [← hc] at hr ⊢; exact hr)
      · simp only [hc, if_false] at hr ⊢
        exact hr)⟩) xs.length [] 0 (by omega) (by omega) (by simp)
  rw [forM_fold0 xs (rd_T36 xs) (fun j hj => rdTry_nat j hj) (fun acc x => if x.f0 = c then acc ++ [x] else acc) (fun s => s) [], fold_own] at h
  exact h
theorem fold_l24 (c : Int) (xs : List S36) : ∀ (acc : List Int) (b : Bool), xs.foldl (fun (s : List Int × Bool) x => if x.f0 = c then (s.1 ++ [x.f1], x.f2) else s) (acc, b) = (acc ++ (ownT xs c).map (·.f1), if ownT xs c = [] then b else lastF (ownT xs c)) := by
  induction xs with
  | nil => intro acc b; simp [ownT]
  | cons x xs ih =>
    intro acc b
    simp only [List.foldl_cons]
    by_cases hx : x.f0 = c
    · rw [if_pos hx, ih]
      have e : ownT (x :: xs) c = x :: ownT xs c := by unfold ownT; simp [List.filter_cons, hx]
      rw [e]
      simp only [List.map_cons, List.append_assoc, List.singleton_append, reduceCtorEq, if_false, Prod.mk.injEq, true_and]
      unfold lastF
      cases ho : ownT xs c with
      | nil => simp
      | cons y ys => simp [List.getLast?_cons_cons]
    · rw [if_neg hx, ih]
      have e : ownT (x :: xs) c = ownT xs c := by
        have : (x.f0 == c) = false := by simpa using hx
        unfold ownT; simp [List.filter_cons, hx]
      rw [e]
theorem lastF_nil_or (xs : List S36) : (if xs = [] then false else lastF xs) = lastF xs := by
  by_cases h : xs = []
  · rw [if_pos h, h]; rfl
  · rw [if_neg h]
theorem l24Of_ev (xs : List S36) (hn : xs.length ≤ 1000000) (c : Int) : Ev (fun k => spec_l24Of.f k xs c) ((ownT xs c).map (·.f1), lastF (ownT xs c)) := by
  have h := Ev_for2 (F := fun k (s : List Int × Bool) i => spec_l24Of.l0 k xs c s.1 s.2 i) (step := fun s i => .inr ((fun (s : List Int × Bool) (x : S36) => if x.f0 = c then (s.1 ++ [x.f1], x.f2) else s) s (rd_T36 xs i))) (out := fun s => s) (n := xs.length) (fun s i => (s.1.length : Int) ≤ i)
    (fun s hI => Ev_succ (by
      simp only [spec_l24Of.l0]
      exact Ev_neg (by omega) (Ev.now _)))
    (fun s i h0 h1 hI => .inr ⟨_, rfl, by
      by_cases hc : (rd_T36 xs i).f0 = c
      · simp only [hc, if_true]; rw [List.length_append]; simp; omega
      · simp only [hc, if_false]; omega, fun r hr => Ev_succ (by
      simp only [spec_l24Of.l0]
      refine Ev_pos h1 (Ev_pos h0 ?_)
      rw [w64 (by omega) (by omega)]
      refine Ev_ite (fun hc => ?_) (fun hc => ?_)
      · simp only [hc, if_true] at hr ⊢
        exact Ev_pos (by omega) hr
      · simp only [hc, if_false] at hr ⊢
        exact hr)⟩) xs.length ([], false) 0 (by omega) (by omega) (by simp)
  rw [forM_fold0 xs (rd_T36 xs) (fun j hj => rdTry_nat j hj) (fun (s : List Int × Bool) (x : S36) => if x.f0 = c then (s.1 ++ [x.f1], x.f2) else s) (fun s => s) ([], false), fold_l24, lastF_nil_or] at h
  exact h

/-- The state of a cue. -/
def stateT (xs : List S36) (c : Int) : Int := if lastF (ownT xs c) = true then 2 else if (ownT xs c).length = 0 then 0 else if (ownT xs c).length = 3 then 3 else 1
theorem lastF_pos {xs : List S36} (h : lastF xs = true) : 0 < xs.length := by
  cases xs with
  | nil => cases h
  | cons x xs => simp
theorem cueState_ev (xs : List S36) (hn : xs.length ≤ 1000000) (c : Int) : Ev (fun k => impl_cueState.f k xs c) (stateT xs c) := by
  unfold impl_cueState.f
  have hl := ownT_length xs c
  refine Ev.bind (triesOf_ev xs hn c) ?_
  unfold stateT
  by_cases h0 : (ownT xs c).length = 0
  · have hf : ¬ lastF (ownT xs c) = true := fun h => by have := lastF_pos h; omega
    rw [if_neg hf, if_pos h0]
    exact Ev_pos (by omega) (Ev.now _)
  · rw [w64 (by omega) (by omega)]
    refine Ev_neg (by omega) (Ev_pos (by omega) (Ev_pos (by omega) ?_))
    rw [lastF_rd (by omega)]
    refine Ev_ite (fun h => by rw [if_pos h]; exact Ev.now _) (fun h => ?_)
    rw [if_neg h, if_neg h0]
    refine Ev_ite (fun h => by rw [if_pos (by omega)]; exact Ev.now _) (fun h => by rw [if_neg (by omega)]; exact Ev.now _)

/-- The first tick of a further try. -/
def nextT (xs : List S36) (c : Int) : Int := if (ownT xs c).length = 0 then lastT xs else max (lastT xs) (lastT (ownT xs c) + 50)
theorem lastT_mem {xs : List S36} (h : 0 < xs.length) : ∃ x ∈ xs, lastT xs = x.f1 := by
  refine ⟨xs[xs.length - 1]'(by omega), List.getElem_mem _, ?_⟩
  unfold lastT
  rw [List.getLast?_eq_getElem?, List.getElem?_eq_getElem (show xs.length - 1 < xs.length by omega)]
theorem lastT_range {xs : List S36} (hr : ∀ x ∈ xs, 0 ≤ x.f1 ∧ x.f1 ≤ 100000) : 0 ≤ lastT xs ∧ lastT xs ≤ 100000 := by
  by_cases h : 0 < xs.length
  · obtain ⟨x, hx, e⟩ := lastT_mem h
    rw [e]; exact hr x hx
  · have : xs = [] := List.eq_nil_of_length_eq_zero (by omega)
    subst this
    simp [lastT]
theorem own_range {xs : List S36} {c : Int} (hr : ∀ x ∈ xs, 0 ≤ x.f1 ∧ x.f1 ≤ 100000) : ∀ x ∈ ownT xs c, 0 ≤ x.f1 ∧ x.f1 ≤ 100000 := fun x hx => hr x ((List.mem_filter.1 hx).1)
theorem nextTick_ev (xs : List S36) (hn : xs.length ≤ 1000000) (hr : ∀ x ∈ xs, 0 ≤ x.f1 ∧ x.f1 ≤ 100000) (c : Int) : Ev (fun k => impl_nextTick.f k xs c) (nextT xs c) := by
  have hl := ownT_length xs c
  have ho := lastT_range (own_range (c := c) hr)
  have hx := lastT_range hr
  unfold impl_nextTick.f nextT
  refine Ev_ite (fun h => ?_) (fun h => ?_)
  · rw [w64 (x := (xs.length : Int) - 1) (by omega) (by omega)]
    refine Ev_pos (by omega) (Ev_pos (by omega) (Ev.bind (triesOf_ev xs hn c) ?_))
    rw [lastT_rd (xs := xs) (by omega)]
    by_cases h0 : (ownT xs c).length = 0
    · rw [if_pos h0]
      exact Ev_neg (by omega) (Ev.now _)
    · rw [if_neg h0, w64 (x := ((ownT xs c).length : Int) - 1) (by omega) (by omega), lastT_rd (xs := ownT xs c) (by omega), w64 (by omega) (by omega), mx_eq]
      exact Ev_pos (by omega) (Ev_pos (by omega) (Ev_pos (by omega) (Ev.now _)))
  · have hz : xs = [] := List.eq_nil_of_length_eq_zero (by omega)
    subst hz
    refine Ev.bind (triesOf_ev [] hn c) ?_
    simp only [ownT, List.filter_nil, List.length_nil]
    exact Ev_neg (by omega) (Ev.now _)

/-- The try at a place fits to those before it. -/
def okTry (xs : List S36) (i : Int) : Bool :=
  decide ((0 ≤ (rd_T36 xs i).f0 ∧ (rd_T36 xs i).f0 ≤ 19) ∧ (0 ≤ (rd_T36 xs i).f1 ∧ (rd_T36 xs i).f1 ≤ 100000) ∧ lastF (ownT (xs.take i.toNat) (rd_T36 xs i).f0) = false ∧ ¬ (ownT (xs.take i.toNat) (rd_T36 xs i).f0).length = 3 ∧ nextT (xs.take i.toNat) (rd_T36 xs i).f0 ≤ (rd_T36 xs i).f1)
def areTriesM (xs : List S36) : Bool := forM (S := Unit) (fun _ i => if okTry xs i = true then .inr () else .inl false) (fun _ => decide (xs.length ≤ 40)) xs.length () 0
theorem areTriesM_iff (xs : List S36) : areTriesM xs = true ↔ xs.length ≤ 40 ∧ ∀ i : Int, 0 ≤ i → i < xs.length → okTry xs i = true := by
  unfold areTriesM
  refine (forM_all (p := okTry xs) (n := xs.length) xs.length 0 (by omega) (by omega)).trans ?_
  rw [decide_eq_true_eq]
theorem state23 {xs : List S36} {c : Int} : (stateT xs c = 2 ↔ lastF (ownT xs c) = true) ∧ (stateT xs c = 3 ↔ lastF (ownT xs c) = false ∧ (ownT xs c).length = 3) := by
  unfold stateT
  by_cases h : lastF (ownT xs c) = true
  · rw [if_pos h]; simp [h]
  · rw [if_neg h]
    have hf : lastF (ownT xs c) = false := by simpa using h
    by_cases h0 : (ownT xs c).length = 0
    · rw [if_pos h0]; simp [hf]; omega
    · rw [if_neg h0]
      by_cases h3 : (ownT xs c).length = 3
      · rw [if_pos h3]; simp [hf, h3]
      · rw [if_neg h3]; simp [hf, h3]
theorem take_range {xs : List S36} {i : Int} (h0 : 0 ≤ i) (hi : i ≤ xs.length) (h : ∀ j : Int, 0 ≤ j → j < i → okTry xs j = true) : ∀ x ∈ xs.take i.toNat, 0 ≤ x.f1 ∧ x.f1 ≤ 100000 := fun x hx => by
  obtain ⟨j, hj⟩ := List.mem_iff_getElem?.1 hx
  rw [List.getElem?_take] at hj
  split at hj
  · rename_i hlt
    have hjl := (List.getElem?_eq_some_iff.1 hj).1
    have he := (List.getElem?_eq_some_iff.1 hj).2
    have := of_decide_eq_true (h j (by omega) (by omega))
    rw [rdTry_nat j hjl, he] at this
    exact this.2.1
  · cases hj
theorem impl_areTries_loop (xs : List S36) (hn : xs.length ≤ 40) : Ev (fun k => impl_AreTries.l0 k xs xs (xs.length : Int) 0) (areTriesM xs) := by
  refine Ev_for2 (F := fun k (_ : Unit) i => impl_AreTries.l0 k xs xs (xs.length : Int) i) (n := xs.length) (fun _ i => ∀ j : Int, 0 ≤ j → j < i → okTry xs j = true)
    (fun s hI => Ev_succ (by
      simp only [impl_AreTries.l0]
      rw [decide_eq_true hn]
      exact Ev_neg (by omega) (Ev.now _)))
    (fun s i h0 h1 hI => ?_) xs.length () 0 (by omega) (by omega) (fun j _ _ => by omega)
  have hr := take_range h0 (by omega) hI
  have ht : (xs.take i.toNat).length ≤ 1000000 := by rw [List.length_take]; omega
  have hF : ∀ b r, Ev (fun k => impl_AreTries.j1 k xs i xs (xs.length : Int) i b (rd_T36 xs i).f0 (rd_T36 xs i).f1 (rd_T36 xs i).f2) r → ((0 ≤ (rd_T36 xs i).f0 ∧ (rd_T36 xs i).f0 ≤ 19) ∧ b = !(decide (0 ≤ (rd_T36 xs i).f1 ∧ (rd_T36 xs i).f1 ≤ 100000)) ∨ ¬ (0 ≤ (rd_T36 xs i).f0 ∧ (rd_T36 xs i).f0 ≤ 19) ∧ b = true) → Ev (fun k => impl_AreTries.l0 k xs xs (xs.length : Int) i) r := fun b r h hb => Ev_succ (by
    simp only [impl_AreTries.l0, isCue_eq, isTick_eq, Option.bind_some, decide_eq_true_eq]
    refine Ev_pos h1 (Ev_pos h0 (Ev_pos h1 ?_))
    rcases hb with ⟨hc, rfl⟩ | ⟨hc, rfl⟩
    · exact Ev_pos hc h
    · exact Ev_neg hc h)
  have hno : Ev (fun k => impl_AreTries.j1 k xs i xs (xs.length : Int) i true (rd_T36 xs i).f0 (rd_T36 xs i).f1 (rd_T36 xs i).f2) false := Ev_succ (by
    simp only [impl_AreTries.j1, if_true]; exact Ev.now _)
  have hj : ∀ r, (stateT (xs.take i.toNat) (rd_T36 xs i).f0 = 2 ∨ stateT (xs.take i.toNat) (rd_T36 xs i).f0 = 3 ∨ (rd_T36 xs i).f1 < nextT (xs.take i.toNat) (rd_T36 xs i).f0 → r = false) → (¬ stateT (xs.take i.toNat) (rd_T36 xs i).f0 = 2 ∧ ¬ stateT (xs.take i.toNat) (rd_T36 xs i).f0 = 3 ∧ ¬ (rd_T36 xs i).f1 < nextT (xs.take i.toNat) (rd_T36 xs i).f0 → Ev (fun k => impl_AreTries.l0 k xs xs (xs.length : Int) (i + 1)) r) → Ev (fun k => impl_AreTries.j1 k xs i xs (xs.length : Int) i false (rd_T36 xs i).f0 (rd_T36 xs i).f1 (rd_T36 xs i).f2) r := fun r hf ht' => Ev_succ (by
    simp only [impl_AreTries.j1, Bool.false_eq_true, if_false]
    refine Ev_pos h0 (Ev_pos (by omega) (Ev.bind (cueState_ev _ ht _) ?_))
    refine Ev_ite (fun h2 => Ev_some (hf (.inl h2)).symm) (fun h2 => Ev_ite (fun h3 => Ev_some (hf (.inr (.inl h3))).symm) (fun h3 => Ev.bind (nextTick_ev _ ht hr _) ?_))
    refine Ev_ite (fun h4 => Ev_some (hf (.inr (.inr h4))).symm) (fun h4 => ?_)
    rw [w64 (by omega) (by omega)]
    exact ht' ⟨h2, h3, h4⟩)
  by_cases hc : 0 ≤ (rd_T36 xs i).f0 ∧ (rd_T36 xs i).f0 ≤ 19
  · by_cases ht2 : 0 ≤ (rd_T36 xs i).f1 ∧ (rd_T36 xs i).f1 ≤ 100000
    · have s23 := state23 (xs := xs.take i.toNat) (c := (rd_T36 xs i).f0)
      by_cases hok : okTry xs i = true
      · have hok' := of_decide_eq_true hok
        refine .inr ⟨(), if_pos hok, fun j h2 h3 => ?_, fun r hr' => hF false r (hj r (fun h => ?_) (fun _ => hr')) (.inl ⟨hc, by simp [ht2]⟩)⟩
        · by_cases hji : j = i
          · rw [hji]; exact hok
          · exact hI j h2 (by omega)
        · exfalso
          rcases h with h | h | h
          · rw [s23.1] at h; rw [hok'.2.2.1] at h; cases h
          · rw [s23.2] at h; exact hok'.2.2.2.1 h.2
          · have := hok'.2.2.2.2; omega
      · refine .inl ⟨false, if_neg hok, hF false false (hj false (fun _ => rfl) (fun h => ?_)) (.inl ⟨hc, by simp [ht2]⟩)⟩
        exfalso
        refine hok (decide_eq_true ⟨hc, ht2, ?_, ?_, by omega⟩)
        · rw [s23.1] at h; simpa using h.1
        · intro h3
          rw [s23.1, s23.2] at h
          have : lastF (ownT (xs.take i.toNat) (rd_T36 xs i).f0) = false := by simpa using h.1
          exact h.2.1 ⟨this, h3⟩
    · exact .inl ⟨false, if_neg (fun hok => ht2 (of_decide_eq_true hok).2.1), hF true false hno (.inl ⟨hc, by simp [ht2]⟩)⟩
  · exact .inl ⟨false, if_neg (fun hok => hc (of_decide_eq_true hok).1), hF true false hno (.inr ⟨hc, rfl⟩)⟩
theorem impl_AreTries_ev (xs : List S36) : Ev (fun k => impl_AreTries.f k xs) (areTriesM xs) := by
  unfold impl_AreTries.f
  by_cases h : xs.length ≤ 40
  · exact Ev_neg (by omega) (impl_areTries_loop xs h)
  · have e : areTriesM xs = false := by
      cases hb : areTriesM xs with
      | false => rfl
      | true => exact absurd ((areTriesM_iff xs).1 hb).1 h
    rw [e]
    exact Ev_pos (by omega) (Ev.now _)
theorem nextT_le {xs : List S36} {c t : Int} (ht : 0 ≤ t) : nextT xs c ≤ t ↔ (0 < xs.length → lastT xs ≤ t) ∧ (¬ (ownT xs c).length = 0 → lastT (ownT xs c) + 50 ≤ t) := by
  unfold nextT
  have hz : xs.length = 0 → lastT xs = 0 := fun h => by
    have : xs = [] := List.eq_nil_of_length_eq_zero h
    subst this; rfl
  by_cases h0 : (ownT xs c).length = 0
  · rw [if_pos h0]
    refine ⟨fun h => ⟨fun _ => h, fun hn => absurd h0 hn⟩, fun h => ?_⟩
    by_cases hp : 0 < xs.length
    · exact h.1 hp
    · have := hz (by omega); omega
  · rw [if_neg h0]
    refine ⟨fun h => ⟨fun _ => by omega, fun _ => by omega⟩, fun h => ?_⟩
    have := h.2 h0
    by_cases hp : 0 < xs.length
    · have := h.1 hp; omega
    · have := hz (by omega); omega
theorem lastT_take {xs : List S36} {i : Int} (h0 : 0 < i) (hi : i ≤ xs.length) : lastT (xs.take i.toNat) = (rd_T36 xs (i - 1)).f1 := by
  unfold lastT
  rw [rdTry (by omega) (by omega), List.getLast?_eq_getElem?, List.length_take, List.getElem?_take]
  rw [if_pos (by omega), List.getElem?_eq_getElem (by omega)]
  simp only
  congr 2
  omega
theorem spec_AreTries_ev (xs : List S36) (hn : xs.length ≤ 1000000) : Ev (fun k => spec_AreTries.f k xs) (areTriesM xs) := by
  unfold spec_AreTries.f
  refine Ev_for2 (F := fun k (_ : Unit) i => spec_AreTries.l0 k xs i) (n := xs.length) (fun _ i => ∀ j : Int, 0 ≤ j → j < i → okTry xs j = true)
    (fun s hI => Ev_succ (by
      simp only [spec_AreTries.l0]
      refine Ev_neg (by omega) (Ev_some ?_)
      rw [decide_eq_decide]
      omega))
    (fun s i h0 h1 hI => ?_) xs.length () 0 (by omega) (by omega) (fun j _ _ => by omega)
  have hr := take_range h0 (by omega) hI
  have ht : (xs.take i.toNat).length ≤ 1000000 := by rw [List.length_take]; omega
  have hol := ownT_length (xs.take i.toNat) (rd_T36 xs i).f0
  have hor := lastT_range (own_range (c := (rd_T36 xs i).f0) hr)
  have hF : ∀ b r, Ev (fun k => spec_AreTries.j1 k xs i b (rd_T36 xs i).f0 (rd_T36 xs i).f1 (rd_T36 xs i).f2) r → (b = true ↔ ¬ ((0 ≤ (rd_T36 xs i).f0 ∧ (rd_T36 xs i).f0 ≤ 19) ∧ (0 ≤ (rd_T36 xs i).f1 ∧ (rd_T36 xs i).f1 ≤ 100000) ∧ (0 < i → lastT (xs.take i.toNat) ≤ (rd_T36 xs i).f1))) → Ev (fun k => spec_AreTries.l0 k xs i) r := fun b r h hb => Ev_succ (by
    simp only [spec_AreTries.l0, l01In_eq, Option.bind_some, decide_eq_true_eq]
    refine Ev_pos h1 (Ev_pos h0 ?_)
    by_cases hc : 0 ≤ (rd_T36 xs i).f0 ∧ (rd_T36 xs i).f0 ≤ 19
    · refine Ev_pos hc ?_
      by_cases ht2 : 0 ≤ (rd_T36 xs i).f1 ∧ (rd_T36 xs i).f1 ≤ 100000
      · refine Ev_pos ht2 (Ev_ite (fun hi => ?_) (fun hi => ?_))
        · rw [w64 (by omega) (by omega)]
          refine Ev_pos (by omega) (Ev_pos (by omega) ?_)
          have e : decide ((rd_T36 xs (i - 1)).f1 > (rd_T36 xs i).f1) = b := by
            rw [Bool.eq_iff_iff, hb, decide_eq_true_eq, lastT_take hi (by omega)]
            exact ⟨fun h q => by have := q.2.2 hi; omega, fun h => by
              by_cases hgt : (rd_T36 xs (i - 1)).f1 > (rd_T36 xs i).f1
              · exact hgt
              · exact absurd ⟨hc, ht2, fun _ => by omega⟩ h⟩
          rw [e]
          exact h
        · have e : false = b := by
            rw [Bool.eq_iff_iff, hb]
            exact ⟨(fun h => by cases h), fun h => absurd ⟨hc, ht2, fun hi' => absurd hi' hi⟩ h⟩
          rw [e]
          exact h
      · have e : true = b := (hb.2 (fun q => ht2 q.2.1)).symm
        rw [e]
        exact Ev_neg ht2 h
    · have e : true = b := (hb.2 (fun q => hc q.1)).symm
      rw [e]
      exact Ev_neg hc h)
  by_cases hpre : (0 ≤ (rd_T36 xs i).f0 ∧ (rd_T36 xs i).f0 ≤ 19) ∧ (0 ≤ (rd_T36 xs i).f1 ∧ (rd_T36 xs i).f1 ≤ 100000) ∧ (0 < i → lastT (xs.take i.toNat) ≤ (rd_T36 xs i).f1)
  · have hj : ∀ r, (lastF (ownT (xs.take i.toNat) (rd_T36 xs i).f0) = true ∨ (ownT (xs.take i.toNat) (rd_T36 xs i).f0).length = 3 ∨ (¬ (ownT (xs.take i.toNat) (rd_T36 xs i).f0).length = 0 ∧ (rd_T36 xs i).f1 < lastT (ownT (xs.take i.toNat) (rd_T36 xs i).f0) + 50) → r = false) → (¬ (lastF (ownT (xs.take i.toNat) (rd_T36 xs i).f0) = true ∨ (ownT (xs.take i.toNat) (rd_T36 xs i).f0).length = 3 ∨ (¬ (ownT (xs.take i.toNat) (rd_T36 xs i).f0).length = 0 ∧ (rd_T36 xs i).f1 < lastT (ownT (xs.take i.toNat) (rd_T36 xs i).f0) + 50)) → Ev (fun k => spec_AreTries.l0 k xs (i + 1)) r) → Ev (fun k => spec_AreTries.j1 k xs i false (rd_T36 xs i).f0 (rd_T36 xs i).f1 (rd_T36 xs i).f2) r := fun r hf hg => Ev_succ (by
      simp only [spec_AreTries.j1, Bool.false_eq_true, if_false]
      refine Ev_pos h0 (Ev_pos (by omega) (Ev.bind (l24Of_ev _ ht _) ?_))
      simp only [List.length_map]
      refine Ev_ite (fun h2 => Ev_some (hf (.inl h2)).symm) (fun h2 => Ev_ite (fun h3 => Ev_some (hf (.inr (.inl (by omega)))).symm) (fun h3 => ?_))
      rw [w64 (x := i + 1) (by omega) (by omega)]
      refine Ev_ite (fun hp => ?_) (fun hp => hg (fun q => by rcases q with q | q | q ; exact h2 q; omega; omega))
      rw [w64 (x := ((ownT (xs.take i.toNat) (rd_T36 xs i).f0).length : Int) - 1) (by omega) (by omega), lastT_map (by omega), w64 (by omega) (by omega)]
      refine Ev_pos (by omega) (Ev_pos (by omega) (Ev_ite (fun h4 => Ev_some (hf (.inr (.inr ⟨by omega, h4⟩))).symm) (fun h4 => hg (fun q => by rcases q with q | q | q ; exact h2 q; omega; exact h4 q.2))))
      )
    have hb : (false = true ↔ ¬ ((0 ≤ (rd_T36 xs i).f0 ∧ (rd_T36 xs i).f0 ≤ 19) ∧ (0 ≤ (rd_T36 xs i).f1 ∧ (rd_T36 xs i).f1 ≤ 100000) ∧ (0 < i → lastT (xs.take i.toNat) ≤ (rd_T36 xs i).f1))) := ⟨fun h => (by cases h), fun h => absurd hpre h⟩
    have hlen : 0 < (xs.take i.toNat).length ↔ 0 < i := by rw [List.length_take]; omega
    have hnx := nextT_le (xs := xs.take i.toNat) (c := (rd_T36 xs i).f0) hpre.2.1.1
    by_cases hok : okTry xs i = true
    · have hok' := of_decide_eq_true hok
      refine .inr ⟨(), if_pos hok, fun j h2 h3 => ?_, fun r hr' => hF false r (hj r (fun h => ?_) (fun _ => hr')) hb⟩
      · by_cases hji : j = i
        · rw [hji]; exact hok
        · exact hI j h2 (by omega)
      · exfalso
        rcases h with h | h | h
        · rw [hok'.2.2.1] at h; cases h
        · exact hok'.2.2.2.1 h
        · have := (hnx.1 hok'.2.2.2.2).2 h.1; omega
    · refine .inl ⟨false, if_neg hok, hF false false (hj false (fun _ => rfl) (fun h => ?_)) hb⟩
      exfalso
      refine hok (decide_eq_true ⟨hpre.1, hpre.2.1, ?_, fun h3 => h (.inr (.inl h3)), hnx.2 ⟨fun hp => hpre.2.2 (hlen.1 hp), fun hp => ?_⟩⟩)
      · cases hl : lastF (ownT (xs.take i.toNat) (rd_T36 xs i).f0) with
        | false => rfl
        | true => exact absurd (.inl hl) h
      · by_cases hlt : (rd_T36 xs i).f1 < lastT (ownT (xs.take i.toNat) (rd_T36 xs i).f0) + 50
        · exact absurd (.inr (.inr ⟨hp, hlt⟩)) h
        · omega
  · refine .inl ⟨false, if_neg (fun hok => hpre ?_), hF true false (Ev_succ (by simp only [spec_AreTries.j1, if_true]; exact Ev.now _)) ⟨fun _ => hpre, fun _ => rfl⟩⟩
    have hok' := of_decide_eq_true hok
    have hlen : 0 < (xs.take i.toNat).length ↔ 0 < i := by rw [List.length_take]; omega
    exact ⟨hok'.1, hok'.2.1, fun hi => ((nextT_le hok'.2.1.1).1 hok'.2.2.2.2).1 (hlen.2 hi)⟩

def addTryM (xs : List S36) (x : S36) : List S36 × Int := if areTriesM xs = true then (if (xs.length : Int) = 40 then ([], 3) else if areTriesM (xs ++ [x]) = true then (xs ++ [x], 0) else ([], 5)) else ([], 1)
theorem impl_AddTry_ev (xs : List S36) (hn : xs.length ≤ 1000000) (a b : Int) (c : Bool) : Ev (fun k => impl_AddTry.f k xs a b c) (addTryM xs ⟨a, b, c⟩) := by
  unfold impl_AddTry.f addTryM
  refine Ev.bind (impl_AreTries_ev xs) (Ev_ite (fun h => ?_) (fun h => by rw [if_neg h]; exact Ev.now _))
  rw [if_pos h]
  refine Ev_ite (fun h => by rw [if_pos h]; exact Ev.now _) (fun h => ?_)
  rw [if_neg h]
  simp only [Option.bind_some, List.nil_append, List.length_nil, List.length_singleton]
  refine Ev_pos (by omega) (Ev_pos (by omega) (Ev.bind (impl_AreTries_ev _) ?_))
  exact Ev_ite (fun h => by rw [if_pos h]; exact Ev.now _) (fun h => by rw [if_neg h]; exact Ev.now _)
theorem spec_AddTry_ev (xs : List S36) (hn : xs.length ≤ 999999) (a b : Int) (c : Bool) : Ev (fun k => spec_AddTry.f k xs a b c) (addTryM xs ⟨a, b, c⟩) := by
  unfold spec_AddTry.f addTryM
  refine Ev.bind (spec_AreTries_ev xs (by omega)) (Ev_ite (fun h => ?_) (fun h => by rw [if_neg h]; exact Ev.now _))
  rw [if_pos h]
  refine Ev_ite (fun h => by rw [if_pos h]; exact Ev.now _) (fun h => ?_)
  rw [if_neg h]
  simp only [Option.bind_some, List.nil_append, List.length_nil, List.length_singleton]
  refine Ev_pos (by omega) (Ev_pos (by omega) (Ev.bind (spec_AreTries_ev _ (by rw [List.length_append]; simp; omega)) ?_))
  exact Ev_ite (fun h => by rw [if_pos h]; exact Ev.now _) (fun h => by rw [if_neg h]; exact Ev.now _)
theorem spec_AddTry_ev1 (xs : List S36) (hn : xs.length ≤ 1000000) (a b : Int) (c : Bool) : Ev (fun k => spec_AddTry.f k xs a b c) (addTryM xs ⟨a, b, c⟩) := by
  by_cases h : xs.length ≤ 999999
  · exact spec_AddTry_ev xs h a b c
  · have hno : ¬ areTriesM xs = true := fun q => by have := ((areTriesM_iff xs).1 q).1; omega
    unfold spec_AddTry.f addTryM
    refine Ev.bind (spec_AreTries_ev xs hn) (Ev_neg hno ?_)
    rw [if_neg hno]
    exact Ev.now _
theorem addTryM_length (xs : List S36) (x : S36) : (addTryM xs x).1.length ≤ 41 := by
  unfold addTryM
  repeat' split
  all_goals (first | (simp; done) | (rename_i h _ _; have := ((areTriesM_iff xs).1 h).1; rw [List.length_append]; simp; omega))
theorem core_FnExactAddTry (xs : List S36) (a b : Int) (c : Bool) (hx : xs.length ≤ 1000000) (_w1 : (Lit.int .i64 a).wf = true) (_w2 : (Lit.int .i64 b).wf = true) : ∃ r1 r2, Ev (fun k => spec_AddTry.f k xs a b c) (r1, r2) ∧ Ev (fun k => impl_AddTry.f k xs a b c) (r1, r2) ∧ r1.length ≤ 41 :=
  ⟨_, _, spec_AddTry_ev1 xs hx a b c, impl_AddTry_ev xs hx a b c, addTryM_length xs _⟩

/-- How much room to..S leaves behind a row of n elements. -/
def room (n : Nat) : Nat := if n % 6 = 5 then 0 else if n % 3 = 0 then 1 else n
theorem room_le (n : Nat) : room n ≤ n + 1 := by unfold room; split <;> (try split) <;> omega
theorem room_eq (n : Nat) (h : n ≤ 9223372036854775807) : laws_roomBehind.f (n : Int) = some (room n : Int) := by
  unfold laws_roomBehind.f room
  rw [Int.tmod_eq_emod_of_nonneg (by omega), Int.tmod_eq_emod_of_nonneg (by omega)]
  by_cases h1 : n % 6 = 5
  · rw [if_pos (by omega), if_pos h1]; rfl
  · rw [if_neg (by omega), if_neg h1]
    by_cases h2 : n % 3 = 0
    · rw [if_pos (by omega), if_pos h2]; rfl
    · rw [if_neg (by omega), if_neg h2]
theorem take_set_far {α : Type} (xs : List α) (y : α) {n m : Nat} (h : n ≤ m) : (xs.set m y).take n = xs.take n := by
  apply List.ext_getElem?
  intro i
  by_cases hi : i < n
  · rw [List.getElem?_take_of_lt hi, List.getElem?_take_of_lt hi, List.getElem?_set_ne (by omega)]
  · rw [List.getElem?_eq_none (by simp; omega), List.getElem?_eq_none (by simp; omega)]
theorem take_set_at {α : Type} (xs : List α) (y : α) {n : Nat} (h : n < xs.length) : (xs.set n y).take (n + 1) = xs.take n ++ [y] := by
  rw [List.take_succ_eq_append_getElem (by rw [List.length_set]; exact h), take_set_far xs y (Nat.le_refl n)]
  simp
theorem rooms {n : Nat} (h : n ≤ 1000000) : wrap64 ((n : Int) + (room n : Int)) = ((n + room n : Nat) : Int) := by
  have := room_le n
  rw [w64 (by omega) (by omega)]; omega

theorem eqTryS_loop (xs : List S36) (hn : xs.length ≤ 9000000000000000000) (d : Nat) : ∀ (k : Nat) (i : Int), 0 ≤ i → i ≤ xs.length → ((xs.length : Int) - i).toNat ≤ d → d < k → laws_eqTryS.l0 k xs xs i = some true := by
  induction d with
  | zero =>
    intro k i h0 h1 hd hk
    obtain ⟨k, rfl⟩ : ∃ m, k = m + 1 := ⟨k - 1, by omega⟩
    simp only [laws_eqTryS.l0]
    rw [if_neg (by omega)]
  | succ d ih =>
    intro k i h0 h1 hd hk
    obtain ⟨k, rfl⟩ : ∃ m, k = m + 1 := ⟨k - 1, by omega⟩
    simp only [laws_eqTryS.l0]
    by_cases hlt : i < (xs.length : Int)
    · rw [if_pos hlt, if_pos h0, if_pos hlt]
      simp only [laws_eqTry.f, if_true, Option.bind_some, bne_self_eq_false, Bool.false_eq_true, if_false]
      rw [w64 (by omega) (by omega)]
      exact ih k (i + 1) (by omega) (by omega) (by omega) (by omega)
    · rw [if_neg hlt]
theorem eqTryS_refl (xs : List S36) (hn : xs.length ≤ 9000000000000000000) : Ev (fun k => laws_eqTryS.f k xs xs) true :=
  ⟨xs.length + 1, fun k hk => by
    simp only [laws_eqTryS.f, if_true]
    exact eqTryS_loop xs hn xs.length k 0 (by omega) (by omega) (by omega) (by omega)⟩

theorem rdSetTryS (xs : List S36) {i : Int} (h0 : 0 ≤ i) (h1 : i < xs.length) (v : S36) : rd_T36 (xs.set i.toNat v) i = v := by
  simp [rd_T36, List.getD_eq_getElem?_getD, List.getElem?_set_self (show i.toNat < xs.length by omega)]
theorem markTryS_loop (d : Nat) : ∀ (x0 : List S36) (m i : Int), 0 ≤ i → i ≤ x0.length → ((x0.length : Int) - i).toNat ≤ d → 0 ≤ m → m + 3 * d ≤ 4000000000000000000 → x0.length ≤ 4000000000000000000 →
    ∃ (m' : Int) (x' : List S36), x'.length = x0.length ∧ (∀ j : Nat, j < i.toNat → x'[j]? = x0[j]?) ∧ m ≤ m' ∧ m' ≤ m + 3 * d ∧ ∀ k, d < k → laws_markTryS.l0 k x0 m i = some (m', x') ∧ laws_heldTryS.l0 k x' m i = some m' := by
  induction d with
  | zero =>
    intro x0 m i h0 h1 hd hm hm2 hn
    refine ⟨m, x0, rfl, fun _ _ => rfl, by omega, by omega, fun k hk => ?_⟩
    obtain ⟨k, rfl⟩ : ∃ m, k = m + 1 := ⟨k - 1, by omega⟩
    simp only [laws_markTryS.l0, laws_heldTryS.l0]
    rw [if_neg (by omega), if_neg (by omega)]
    exact ⟨rfl, rfl⟩
  | succ d ih =>
    intro x0 m i h0 h1 hd hm hm2 hn
    by_cases hlt : i < (x0.length : Int)
    · obtain ⟨m', x', hl, hx, hm1, hm3, hk⟩ := ih (x0.set i.toNat (⟨m, m + 1, (Int.tmod (m + 2) 3 == 0)⟩ : S36)) (m + 3) (i + 1) (by omega) (by rw [List.length_set]; omega) (by rw [List.length_set]; omega) (by omega) (by omega) (by rw [List.length_set]; omega)
      rw [List.length_set] at hl
      refine ⟨m', x', hl, fun j hj => ?_, by omega, by omega, fun k hkd => ?_⟩
      · rw [hx j (by omega), List.getElem?_set_ne (by omega)]
      obtain ⟨k, rfl⟩ : ∃ m, k = m + 1 := ⟨k - 1, by omega⟩
      obtain ⟨h2, h3⟩ := hk k (by omega)
      have hr : rd_T36 x' i = (⟨m, m + 1, (Int.tmod (m + 2) 3 == 0)⟩ : S36) := by
        have := hx i.toNat (by omega)
        rw [List.getElem?_set_self (show i.toNat < x0.length by omega)] at this
        simp [rd_T36, List.getD_eq_getElem?_getD, this]
      have w1 : wrap64 (m + 1) = m + 1 := by rw [w64 (by omega) (by omega)] <;> omega
      have w2 : wrap64 ((m + 1) + 1) = m + 2 := by rw [w64 (by omega) (by omega)] <;> omega
      have w3 : wrap64 ((m + 2) + 1) = m + 3 := by rw [w64 (by omega) (by omega)] <;> omega
      have wi : wrap64 (i + 1) = i + 1 := w64 (by omega) (by omega)
      refine ⟨?_, ?_⟩
      · simp only [laws_markTryS.l0]
        rw [if_pos hlt, if_pos h0]
        simp only [Option.bind_some, rdSetTryS x0 h0 hlt, List.set_set, w1, w2, w3, wi]
        exact h2
      · simp only [laws_heldTryS.l0]
        rw [if_pos (by omega), if_pos h0, hr]
        simp only [w1, w2, w3, wi, if_true, bne_self_eq_false, Bool.false_eq_true, if_false]
        exact h3
    · refine ⟨m, x0, rfl, fun _ _ => rfl, by omega, by omega, fun k hk => ?_⟩
      obtain ⟨k, rfl⟩ : ∃ m, k = m + 1 := ⟨k - 1, by omega⟩
      simp only [laws_markTryS.l0, laws_heldTryS.l0]
      rw [if_neg hlt, if_neg hlt]
      exact ⟨rfl, rfl⟩
theorem markTryS_tells (xs : List S36) (hn : xs.length ≤ 2000000) (m : Int) (h0 : 0 ≤ m) (h1 : m ≤ 1000000000000) :
    ∃ (m' : Int) (l' : List S36), Ev (fun k => laws_markTryS.f k xs m) (m', l') ∧ m ≤ m' ∧ m' ≤ m + 3 * xs.length ∧ l'.length = xs.length ∧ Ev (fun k => laws_heldTryS.f k l' m) m' := by
  obtain ⟨m', x', hl, _, h2, h3, hk⟩ := markTryS_loop xs.length xs m 0 (by omega) (by omega) (by omega) h0 (by omega) (by omega)
  exact ⟨m', x', ⟨xs.length + 1, fun k h => (hk k (by omega)).1⟩, h2, h3, hl, ⟨xs.length + 1, fun k h => (hk k (by omega)).2⟩⟩

theorem szTryS_eq (l0 : List S33) (b : Int) (h : -9223372036854775808 ≤ b - (l0.length : Int)) (hb : b ≤ 1000000) : laws_szTryS.f l0 b = some (if (l0.length : Int) ≤ b then b - (l0.length : Int) else -1) := by
  unfold laws_szTryS.f
  rw [w64 (by omega) (by omega)]
  by_cases hl : (l0.length : Int) ≤ b
  · rw [if_neg (by omega), if_pos hl]
  · rw [if_pos (by omega), if_neg hl]

def convTryS (x : S33) : S36 := ⟨x.f0, x.f1, x.f2⟩
theorem toTryS_l1 (l0 : List S33) (N : Nat) (hN : N ≤ 4000000) (hn : l0.length ≤ N) (d : Nat) : ∀ (k : Nat) (x5 : List S36) (i : Int), x5.length = N → (l0.length : Int) ≤ i → i ≤ N → ((N : Int) - i).toNat ≤ d → d < k →
    ∃ ext, laws_toTrySX.l1 k l0 x5 i = some ext ∧ ext.length = N ∧ ext.take l0.length = x5.take l0.length := by
  induction d with
  | zero =>
    intro k x5 i h1 h2 h3 hd hk
    obtain ⟨k, rfl⟩ : ∃ m, k = m + 1 := ⟨k - 1, by omega⟩
    refine ⟨x5, ?_, h1, rfl⟩
    simp only [laws_toTrySX.l1]
    rw [if_neg (by omega), if_pos (by omega), if_pos (by omega)]
  | succ d ih =>
    intro k x5 i h1 h2 h3 hd hk
    obtain ⟨k, rfl⟩ : ∃ m, k = m + 1 := ⟨k - 1, by omega⟩
    simp only [laws_toTrySX.l1]
    by_cases hlt : i < (x5.length : Int)
    · rw [if_pos hlt]
      simp only [laws_fillerTry.f, Option.bind_some]
      rw [if_pos (show 0 ≤ i by omega), w64 (by omega) (by omega)]
      refine (ih k _ (i + 1) (by rw [List.length_set]; exact h1) (by omega) (by omega) (by omega) (by omega)).imp fun ext h => ⟨h.1, h.2.1, h.2.2.trans ?_⟩
      exact take_set_far _ _ (by omega)
    · rw [if_neg hlt, if_pos (by omega), if_pos (by omega)]
      exact ⟨x5, rfl, h1, rfl⟩
theorem toTryS_l0 (l0 : List S33) (N : Nat) (hN : N ≤ 4000000) (hn : l0.length ≤ N) (d : Nat) : ∀ (k : Nat) (x5 : List S36) (i : Int), x5.length = N → 0 ≤ i → i ≤ l0.length → ((l0.length : Int) - i).toNat ≤ d → d + N + 1 < k → x5.take i.toNat = (l0.take i.toNat).map convTryS →
    ∃ ext, laws_toTrySX.l0 k l0 x5 i = some ext ∧ ext.length = N ∧ ext.take l0.length = l0.map convTryS := by
  induction d with
  | zero =>
    intro k x5 i h1 h2 h3 hd hk hx
    obtain ⟨k, rfl⟩ : ∃ m, k = m + 1 := ⟨k - 1, by omega⟩
    simp only [laws_toTrySX.l0]
    rw [if_neg (by omega)]
    obtain ⟨ext, h4, h5, h6⟩ := toTryS_l1 l0 N hN hn N k x5 (l0.length : Int) h1 (by omega) (by omega) (by omega) (by omega)
    refine ⟨ext, h4, h5, h6.trans ?_⟩
    have : i.toNat = l0.length := by omega
    rw [this, List.take_length] at hx
    exact hx
  | succ d ih =>
    intro k x5 i h1 h2 h3 hd hk hx
    obtain ⟨k, rfl⟩ : ∃ m, k = m + 1 := ⟨k - 1, by omega⟩
    simp only [laws_toTrySX.l0]
    by_cases hlt : i < (l0.length : Int)
    · rw [if_pos hlt, if_pos h2]
      simp only [laws_toTry.f, Option.bind_some]
      rw [if_pos (show i < (x5.length : Int) by omega), w64 (by omega) (by omega)]
      refine ih k _ (i + 1) (by rw [List.length_set]; exact h1) (by omega) (by omega) (by omega) (by omega) ?_
      have e : (i + 1).toNat = i.toNat + 1 := by omega
      rw [e, take_set_at _ _ (show i.toNat < x5.length by omega), hx, List.take_succ_eq_append_getElem (show i.toNat < l0.length by omega), List.map_append]
      have hr : rd_T33 l0 i = l0[i.toNat]'(by omega) := by
        simp [rd_T33, List.getD_eq_getElem?_getD, List.getElem?_eq_getElem (show i.toNat < l0.length by omega)]
      simp [hr, convTryS]
    · rw [if_neg hlt]
      obtain ⟨ext, h4, h5, h6⟩ := toTryS_l1 l0 N hN hn N k x5 (l0.length : Int) h1 (by omega) (by omega) (by omega) (by omega)
      refine ⟨ext, h4, h5, h6.trans ?_⟩
      have : i.toNat = l0.length := by omega
      rw [this, List.take_length] at hx
      exact hx
theorem toTryS_false (l0 : List S33) (h : l0.length ≤ 1000000) : ∃ ext, Ev (fun k => laws_toTrySX.f k l0 false) ext ∧ ext.length = l0.length + room l0.length ∧ ext.take l0.length = l0.map convTryS := by
  have hr := room_le l0.length
  obtain ⟨k0, hk0⟩ : ∃ k0 : Nat, l0.length + (l0.length + room l0.length) + 1 < k0 := ⟨_, Nat.lt_succ_self _⟩
  obtain ⟨ext, h1, h2, h3⟩ := toTryS_l0 l0 (l0.length + room l0.length) (by omega) (by omega) l0.length k0 (List.replicate (l0.length + room l0.length) z36) 0 (by simp) (by omega) (by omega) (by omega) hk0 (by simp)
  have hm := laws_toTrySX.mono l0 false
  refine ⟨ext, Ev.of (k := k0 + 1) hm ?_, h2, h3⟩
  have e : wrap64 ((l0.length : Int) + (room l0.length : Int)) = ((l0.length + room l0.length : Nat) : Int) := by
    rw [w64 (by omega) (by omega)]; omega
  simp only [laws_toTrySX.f, laws_toTrySX.j0, Bool.false_eq_true, if_false]
  rw [room_eq l0.length (by omega), Option.bind_some, e, if_pos (by omega), Int.toNat_natCast, if_pos (by omega)]
  exact h1
theorem toTryS_true (l0 : List S33) (h : l0.length ≤ 1000000) : ∃ extb, Ev (fun k => laws_toTrySX.f k l0 true) extb ∧ l0.length ≤ extb.length ∧ extb.take l0.length = l0.map convTryS ∧ (extb = [] → l0.length = 0) := by
  by_cases hz : l0.length = 0
  · have : l0 = [] := List.eq_nil_of_length_eq_zero hz
    subst this
    refine ⟨[], ⟨1, fun k hk => ?_⟩, by simp, by simp, fun _ => rfl⟩
    obtain ⟨k, rfl⟩ : ∃ m, k = m + 1 := ⟨k - 1, by omega⟩
    simp [laws_toTrySX.f, laws_toTrySX.j0]
  · obtain ⟨ext, h1, h2, h3⟩ := toTryS_false l0 h
    refine ⟨ext, Ev.congr (fun k => ?_) h1, by omega, h3, fun e => by rw [e] at h2; simp at h2; omega⟩
    have e : ((l0.length : Int) == 0) = false := by simpa using hz
    simp only [laws_toTrySX.f, e, Bool.false_eq_true, if_false, if_true]

theorem FnExactAddTry : laws_FnExactAddTry.Pure := by
  intro l0 a1_0 a1_1 a1_2 hnl0 wa1_0 wa1_1
  by_cases hs1 : (l0.length : Int) ≤ 1000000
  case neg =>
    exact .inl ⟨-1, by rw [szTryS_eq _ _ (by omega) (by omega), if_neg hs1], by decide⟩
  refine .inr (?_)
  have hb0 : l0.length ≤ 1000000 := by omega
  have hm0 := room_le l0.length
  obtain ⟨ext0, e0, el0, et0⟩ := toTryS_false l0 hb0
  obtain ⟨extb0, b0, bl0, bt0, bn0⟩ := toTryS_true l0 hb0
  have q0 := eqTryS_refl ext0 (by omega)
  obtain ⟨z_r1, z_r2, s1, s2, hl_z_r1⟩ := core_FnExactAddTry (l0.map convTryS) a1_0 a1_1 a1_2 (by rw [List.length_map]; exact hb0) wa1_0 wa1_1
  have qq_he_gs_r1_ws_r1 := eqTryS_refl z_r1 (by omega)
  obtain ⟨mk_0, ml_0, mm0, mp0, mu0, ml0, mh0⟩ := markTryS_tells (l0.map convTryS) (by (try rw [List.length_map]); omega) 101 (by omega) (by omega)
  obtain ⟨mk_1, ml_1, mm1, mp1, mu1, ml1, mh1⟩ := markTryS_tells z_r1 (by (try rw [List.length_map]); omega) 101 (by omega) (by omega)
  obtain ⟨K0_, v_e0⟩ := e0
  obtain ⟨K1_, v_b0⟩ := b0
  obtain ⟨K2_, v_q0⟩ := q0
  obtain ⟨K3_, v_s1⟩ := s1
  obtain ⟨K4_, v_s2⟩ := s2
  obtain ⟨K5_, v_qq_he_gs_r1_ws_r1⟩ := qq_he_gs_r1_ws_r1
  obtain ⟨K6_, v_mm0⟩ := mm0
  obtain ⟨K7_, v_mh0⟩ := mh0
  obtain ⟨K8_, v_mm1⟩ := mm1
  obtain ⟨K9_, v_mh1⟩ := mh1
  refine ⟨K0_ + K1_ + K2_ + K3_ + K4_ + K5_ + K6_ + K7_ + K8_ + K9_, (l0.map convTryS), ext0, extb0, (room l0.length : Int), (1000000 - (l0.length : Int)), z_r1, z_r2, z_r1, mk_0, ml_0, mk_1, ml_1, ?_⟩
  exact { hto0 := v_e0 _ (by omega), htob0 := v_b0 _ (by omega), hxl0 := List.length_map .., hnb0 := bn0, hne0 := fun h => by rw [h] at el0; simp at el0; unfold room at el0; split at el0 <;> (try split at el0) <;> omega, hxe0 := by rw [List.length_map]; exact et0.symm, hxb0 := by rw [List.length_map]; exact bt0.symm, hle0 := by rw [List.length_map]; omega, hlb0 := by rw [List.length_map]; exact bl0, hrm0 := by rw [List.length_map]; exact room_eq _ (by omega), hj0 := by rw [List.length_map, el0]; exact rooms hb0, heqx0 := v_q0 _ (by omega), hz1 := by rw [szTryS_eq _ _ (by omega) (by omega), if_pos hs1], hn1 := decide_eq_false (by omega), hfspec := v_s1 _ (by omega), hvax := rfl, hfimpl := v_s2 _ (by omega), he_gs_r1_ws_r1 := v_qq_he_gs_r1_ws_r1 _ (by omega), hm0 := v_mm0 _ (by omega), hmn0 := decide_eq_false (by omega), hm1 := v_mm1 _ (by omega), hmn1 := decide_eq_false (by omega), hml1 := ml1.symm, hh_ml_1 := v_mh1 _ (by omega) }

end Go.Proofs.Ythnpffomoaeeoaa.Pure
