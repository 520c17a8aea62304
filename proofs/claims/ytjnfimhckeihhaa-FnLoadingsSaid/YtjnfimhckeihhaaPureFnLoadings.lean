/- The statement over numbers and lists for FnLoadings: the reference and the program answer alike for all arguments. -/
import Derived.Test.YtjnfimhckeihhaaQFnLoadingsx7
set_option linter.unusedVariables false
set_option linter.unusedSimpArgs false
namespace Go.Proofs.Ytjnfimhckeihhaa.Pure
open Go.RowKit Go.Proofs.Ytjnfimhckeihhaa.PFnLoadings Go.Proofs.YtjnfimhckeihhaaW.PrintWords Go.Proofs.YtjnfimhckeihhaaW.PrintLast Go.Proofs.YtjnfimhckeihhaaW.PrintMore


theorem w64 {x : Int} (h0 : -9223372036854775808 ≤ x) (h1 : x ≤ 9223372036854775807) : wrap64 x = x := by unfold wrap64; omega
theorem Ev_ite {α : Type} {c : Prop} [Decidable c] {g h : Nat → Option α} {r : α} (h1 : c → Ev g r) (h2 : ¬ c → Ev h r) : Ev (fun k => if c then g k else h k) r := by
  by_cases hc : c
  · obtain ⟨K, hK⟩ := h1 hc
    exact ⟨K, fun k hk => (if_pos hc).trans (hK k hk)⟩
  · obtain ⟨K, hK⟩ := h2 hc
    exact ⟨K, fun k hk => (if_neg hc).trans (hK k hk)⟩
theorem Ev_pos {α : Type} {c : Prop} [Decidable c] {g h : Nat → Option α} {r : α} (hc : c) (h1 : Ev g r) : Ev (fun k => if c then g k else h k) r := Ev_ite (fun _ => h1) (fun n => absurd hc n)
theorem Ev_neg {α : Type} {c : Prop} [Decidable c] {g h : Nat → Option α} {r : α} (hc : ¬ c) (h1 : Ev h r) : Ev (fun k => if c then g k else h k) r := Ev_ite (fun n => absurd n hc) (fun _ => h1)
theorem Ev_some {α : Type} {r q : α} (h : r = q) : Ev (fun _ => some r) q := h ▸ Ev.now r
theorem Ev_eq {α : Type} {g : Nat → Option α} {r q : α} (h : r = q) (k : Ev g r) : Ev g q := h ▸ k
theorem Ev_const {α : Type} {o : Option α} {r : α} (h : o = some r) : Ev (fun _ => o) r := by subst h; exact Ev.now r
theorem Ev_bindc {α β : Type} {o : Option α} {f : Nat → α → Option β} {a : α} {r : β} (h : o = some a) (k : Ev (fun n => f n a) r) : Ev (fun n => o.bind (f n)) r := by subst h; exact k
theorem Ev_unique {α : Type} {g : Nat → Option α} {r q : α} (h : Ev g r) (k : Ev g q) : r = q := by
  obtain ⟨K, h⟩ := h
  obtain ⟨L, k⟩ := k
  have h1 := h (max K L) (by omega)
  have h2 := k (max K L) (by omega)
  rw [h1] at h2
  exact Option.some.inj h2
theorem lit64 {x : Int} (h : (Lit.int .i64 x).wf = true) : -9223372036854775808 ≤ x ∧ x ≤ 9223372036854775807 := by
  have h := h
  simp [Lit.wf, IntKind.min, IntKind.max, IntKind.bits, IntKind.signed] at h
  omega
theorem mn_eq (a b : Int) : mn a b = min a b := by unfold mn; omega
theorem mx_eq (a b : Int) : mx a b = max a b := by unfold mx; omega

/-- A loop over the numbers 0 to n - 1: d rounds from i on. -/
def forM {S ρ : Type} (step : S → Int → ρ ⊕ S) (out : S → ρ) : Nat → S → Int → ρ
  | 0, s, _ => out s
  | d + 1, s, i => match step s i with
    | .inl r => r
    | .inr s' => forM step out d s' (i + 1)
theorem Ev_for {S ρ : Type} {F : Nat → S → Int → Option ρ} {step : S → Int → ρ ⊕ S} {out : S → ρ} {n : Nat} (Inv : S → Int → Prop)
    (hend : ∀ s, Inv s n → ∃ K, ∀ k, K ≤ k → F k s n = some (out s))
    (hstep : ∀ (s : S) (i : Int), 0 ≤ i → i < n → Inv s i → (∃ r, step s i = .inl r ∧ ∃ K, ∀ k, K ≤ k → F k s i = some r) ∨ (∃ s', step s i = .inr s' ∧ Inv s' (i + 1) ∧ ∃ K, ∀ k, K ≤ k → F (k + 1) s i = F k s' (i + 1))) :
    ∀ (d : Nat) (s : S) (i : Int), 0 ≤ i → i + d = n → Inv s i → Ev (fun k => F k s i) (forM step out d s i) := by
  intro d
  induction d with
  | zero =>
    intro s i h0 h1 hI
    obtain rfl : i = n := by omega
    exact hend s hI
  | succ d ih =>
    intro s i h0 h1 hI
    rcases hstep s i h0 (by omega) hI with ⟨r, hr, hK⟩ | ⟨s', hs, hI', K, hK⟩
    · simp only [forM, hr]
      exact hK
    · simp only [forM, hs]
      obtain ⟨K', h⟩ := ih s' (i + 1) (by omega) (by omega) hI'
      refine ⟨K + K' + 1, fun k hk => ?_⟩
      obtain ⟨k, rfl⟩ : ∃ m, k = m + 1 := ⟨k - 1, by omega⟩
      exact (hK k (by omega)).trans (h k (by omega))
/-- What holds at the end of a loop. -/
theorem forM_ind {S ρ : Type} {step : S → Int → ρ ⊕ S} {out : S → ρ} {n : Nat} (Inv : S → Int → Prop) (Post : ρ → Prop) (hend : ∀ s, Inv s n → Post (out s))
    (hstep : ∀ (s : S) (i : Int), 0 ≤ i → i < n → Inv s i → (∀ r, step s i = .inl r → Post r) ∧ ∀ s', step s i = .inr s' → Inv s' (i + 1)) : ∀ (d : Nat) (s : S) (i : Int), 0 ≤ i → i + d = n → Inv s i → Post (forM step out d s i) := by
  intro d
  induction d with
  | zero =>
    intro s i h0 h1 hI
    obtain rfl : i = n := by omega
    exact hend s hI
  | succ d ih =>
    intro s i h0 h1 hI
    obtain ⟨h2, h3⟩ := hstep s i h0 (by omega) hI
    simp only [forM]
    cases hs : step s i with
    | inl r => exact h2 r hs
    | inr s' => exact ih s' (i + 1) (by omega) (by omega) (h3 s' hs)

theorem Ev_succ {α : Type} {g : Nat → Option α} {r : α} (h : Ev (fun k => g (k + 1)) r) : Ev g r := Ev.step (fun _ => rfl) h
theorem Ev_for2 {S ρ : Type} {F : Nat → S → Int → Option ρ} {step : S → Int → ρ ⊕ S} {out : S → ρ} {n : Nat} (Inv : S → Int → Prop)
    (hend : ∀ s, Inv s n → Ev (fun k => F k s n) (out s))
    (hstep : ∀ (s : S) (i : Int), 0 ≤ i → i < n → Inv s i → (∃ r, step s i = .inl r ∧ Ev (fun k => F k s i) r) ∨ (∃ s', step s i = .inr s' ∧ Inv s' (i + 1) ∧ ∀ r, Ev (fun k => F k s' (i + 1)) r → Ev (fun k => F k s i) r)) :
    ∀ (d : Nat) (s : S) (i : Int), 0 ≤ i → i + d = n → Inv s i → Ev (fun k => F k s i) (forM step out d s i) := by
  intro d
  induction d with
  | zero =>
    intro s i h0 h1 hI
    obtain rfl : i = n := by omega
    exact hend s hI
  | succ d ih =>
    intro s i h0 h1 hI
    rcases hstep s i h0 (by omega) hI with ⟨r, hr, hK⟩ | ⟨s', hs, hI', hK⟩
    · simp only [forM, hr]
      exact hK
    · simp only [forM, hs]
      exact hK _ (ih s' (i + 1) (by omega) (by omega) hI')
/-- A loop over a list that only gathers: a fold. -/
theorem forM_fold {S ρ α : Type} (xs : List α) (rdx : Int → α) (hrd : ∀ (j : Nat) (h : j < xs.length), rdx j = xs[j]) (upd : S → α → S) (out : S → ρ) (d : Nat) : ∀ (s : S) (i : Nat), i + d = xs.length →
    forM (ρ := ρ) (fun s i => .inr (upd s (rdx i))) out d s i = out ((xs.drop i).foldl upd s) := by
  induction d with
  | zero =>
    intro s i hi
    rw [List.drop_eq_nil_of_le (by omega)]
    rfl
  | succ d ih =>
    intro s i hi
    rw [List.drop_eq_getElem_cons (show i < xs.length by omega)]
    simp only [forM, List.foldl_cons]
    have := ih (upd s (rdx i)) (i + 1) (by omega)
    rw [← hrd i (by omega)]
    exact this
theorem forM_fold0 {S ρ α : Type} (xs : List α) (rdx : Int → α) (hrd : ∀ (j : Nat) (h : j < xs.length), rdx j = xs[j]) (upd : S → α → S) (out : S → ρ) (s : S) :
    forM (ρ := ρ) (fun s i => .inr (upd s (rdx i))) out xs.length s 0 = out (xs.foldl upd s) := by
  have := forM_fold xs rdx hrd upd out xs.length s 0 (by omega)
  rw [List.drop_zero] at this
  exact this
/-- A loop that looks at each place, and stops at the first that fails. -/
theorem forM_all {p : Int → Bool} {b : Bool} {n : Nat} (d : Nat) : ∀ i : Int, 0 ≤ i → i + d = n → (forM (S := Unit) (ρ := Bool) (fun _ i => if p i = true then .inr () else .inl false) (fun _ => b) d () i = true ↔ b = true ∧ ∀ j : Int, i ≤ j → j < n → p j = true) := by
  induction d with
  | zero =>
    intro i h0 hi
    simp only [forM]
    exact ⟨fun h => ⟨h, fun j h1 h2 => by omega⟩, fun h => h.1⟩
  | succ d ih =>
    intro i h0 hi
    simp only [forM]
    by_cases hp : p i = true
    · rw [if_pos hp]
      refine (ih (i + 1) (by omega) (by omega)).trans ⟨fun h => ⟨h.1, fun j h1 h2 => ?_⟩, fun h => ⟨h.1, fun j h1 h2 => h.2 j (by omega) h2⟩⟩
      by_cases hj : j = i
      · rw [hj]; exact hp
      · exact h.2 j (by omega) h2
    · rw [if_neg hp]
      exact ⟨(fun h => by cases h), fun h => absurd (h.2 i (Int.le_refl _) (by omega)) hp⟩

theorem within_eq (a lo hi : Int) : impl_within.f a lo hi = some (decide (lo ≤ a ∧ a ≤ hi)) := by
  unfold impl_within.f
  by_cases h : lo ≤ a <;> simp [h]

theorem l01In_eq (a lo hi : Int) : spec_l01In.f a lo hi = some (decide (lo ≤ a ∧ a ≤ hi)) := by
  unfold spec_l01In.f
  by_cases h : a ≥ lo
  · have : lo ≤ a := h
    simp [this]
  · have : ¬ lo ≤ a := h
    simp [this]

theorem rdBox {xs : List S55} {i : Int} (h0 : 0 ≤ i) (h1 : i < xs.length) : rd_T55 xs i = xs[i.toNat]'(by omega) := by
  simp [rd_T55, List.getD_eq_getElem?_getD, List.getElem?_eq_getElem (show i.toNat < xs.length by omega)]
def okBox (xs : List S55) (i : Int) : Bool := decide ((1 ≤ (rd_T55 xs i).f0 ∧ (rd_T55 xs i).f0 ≤ 1000000) ∧ 0 ≤ (rd_T55 xs i).f1 ∧ (rd_T55 xs i).f1 ≤ 3)
def areBoxes (xs : List S55) : Bool := forM (S := Unit) (fun _ i => if okBox xs i = true then .inr () else .inl false) (fun _ => decide (xs.length ≤ 7)) xs.length () 0
theorem areBoxes_iff (xs : List S55) : areBoxes xs = true ↔ xs.length ≤ 7 ∧ ∀ i : Int, 0 ≤ i → i < xs.length → okBox xs i = true := by
  unfold areBoxes
  refine (forM_all (p := okBox xs) (n := xs.length) xs.length 0 (by omega) (by omega)).trans ?_
  rw [decide_eq_true_eq]
theorem spec_AreBoxes_ev (xs : List S55) (hn : xs.length ≤ 1000000) : Ev (fun k => spec_AreBoxes.f k xs) (areBoxes xs) := by
  unfold spec_AreBoxes.f
  refine Ev_for2 (F := fun k (_ : Unit) i => spec_AreBoxes.l0 k xs i) (n := xs.length) (fun _ _ => True)
    (fun s hI => Ev_succ (by
      simp only [spec_AreBoxes.l0]
      refine Ev_neg (by omega) (Ev_some ?_)
      rw [decide_eq_decide]
      omega))
    (fun s i h0 h1 hI => ?_) xs.length () 0 (by omega) (by omega) trivial
  by_cases hok : okBox xs i = true
  · have hk := of_decide_eq_true hok
    refine .inr ⟨(), if_pos hok, trivial, fun r hr => Ev_succ (by
      simp only [spec_AreBoxes.l0, l01In_eq, Option.bind_some, decide_eq_true_eq]
      refine Ev_pos h1 (Ev_pos h0 (Ev_pos hk.1 (Ev_pos hk.2 ?_)))
      rw [w64 (by omega) (by omega)]
      exact hr)⟩
  · refine .inl ⟨false, if_neg hok, Ev_succ (by
      simp only [spec_AreBoxes.l0, l01In_eq, Option.bind_some, decide_eq_true_eq]
      refine Ev_pos h1 (Ev_pos h0 (Ev_ite (fun ha => ?_) (fun ha => Ev.now _)))
      exact Ev_neg (fun hb => hok (decide_eq_true ⟨ha, hb⟩)) (Ev.now _))⟩
theorem impl_AreBoxes_ev (xs : List S55) : Ev (fun k => impl_AreBoxes.f k xs) (areBoxes xs) := by
  unfold impl_AreBoxes.f
  refine Ev_ite (fun h => Ev_some ?_) (fun h => ?_)
  · symm
    rw [Bool.eq_false_iff]
    exact fun h2 => by have := ((areBoxes_iff xs).1 h2).1; omega
  · unfold areBoxes
    rw [decide_eq_true (show xs.length ≤ 7 by omega)]
    refine Ev_for2 (F := fun k (_ : Unit) i => impl_AreBoxes.l0 k xs (xs.length : Int) i) (n := xs.length) (fun _ _ => True)
      (fun s hI => Ev_succ (by
        simp only [impl_AreBoxes.l0]
        exact Ev_neg (by omega) (Ev.now _)))
      (fun s i h0 h1 hI => ?_) xs.length () 0 (by omega) (by omega) trivial
    by_cases hok : okBox xs i = true
    · have hk := of_decide_eq_true hok
      refine .inr ⟨(), if_pos hok, trivial, fun r hr => Ev_succ (by
        simp only [impl_AreBoxes.l0, within_eq, Option.bind_some, decide_eq_true_eq]
        refine Ev_pos h1 (Ev_pos h0 (Ev_pos h1 (Ev_pos hk.1 (Ev_pos hk.2 ?_))))
        rw [w64 (by omega) (by omega)]
        exact hr)⟩
    · refine .inl ⟨false, if_neg hok, Ev_succ (by
        simp only [impl_AreBoxes.l0, within_eq, Option.bind_some, decide_eq_true_eq]
        refine Ev_pos h1 (Ev_pos h0 (Ev_pos h1 (Ev_ite (fun ha => ?_) (fun ha => Ev.now _))))
        exact Ev_neg (fun hb => hok (decide_eq_true ⟨ha, hb⟩)) (Ev.now _))⟩

/-- A loop that never stops before its end. -/
def foldU {S : Type} (upd : S → Int → S) : Nat → S → Int → S
  | 0, s, _ => s
  | d + 1, s, i => foldU upd d (upd s i) (i + 1)
theorem foldU_ind {S : Type} {upd : S → Int → S} {n : Int} (Inv : S → Int → Prop) (hstep : ∀ (s : S) (i : Int), 0 ≤ i → i < n → Inv s i → Inv (upd s i) (i + 1)) : ∀ (d : Nat) (s : S) (i : Int), 0 ≤ i → i + d = n → Inv s i → Inv (foldU upd d s i) n := by
  intro d
  induction d with
  | zero => intro s i h0 h1 hI; obtain rfl : i = n := by omega
            exact hI
  | succ d ih => intro s i h0 h1 hI; exact ih _ _ (by omega) (by omega) (hstep s i h0 (by omega) hI)
theorem Ev_forK {S τ : Type} {F : Nat → S → Int → Option τ} {upd : S → Int → S} {n : Int} {r : τ} (Inv : S → Int → Prop)
    (hstep : ∀ (s : S) (i : Int), 0 ≤ i → i < n → Inv s i → Inv (upd s i) (i + 1) ∧ (Ev (fun k => F k (upd s i) (i + 1)) r → Ev (fun k => F k s i) r)) :
    ∀ (d : Nat) (s : S) (i : Int), 0 ≤ i → i + d = n → Inv s i → (Inv (foldU upd d s i) n → Ev (fun k => F k (foldU upd d s i) n) r) → Ev (fun k => F k s i) r := by
  intro d
  induction d with
  | zero => intro s i h0 h1 hI h; obtain rfl : i = n := by omega
            exact h hI
  | succ d ih =>
    intro s i h0 h1 hI h
    obtain ⟨h2, h3⟩ := hstep s i h0 (by omega) hI
    exact h3 (ih _ _ (by omega) (by omega) h2 h)

theorem Ev_allK {τ : Type} {F : Nat → Int → Option τ} {p : Int → Prop} {n : Int} {r bad : τ}
    (hstep : ∀ i : Int, 0 ≤ i → i < n → (p i → Ev (fun k => F k (i + 1)) r → Ev (fun k => F k i) r) ∧ (¬ p i → r = bad → Ev (fun k => F k i) r)) :
    ∀ (d : Nat) (i : Int), 0 ≤ i → i + d = n → (¬ (∀ j : Int, i ≤ j → j < n → p j) → r = bad) → ((∀ j : Int, i ≤ j → j < n → p j) → Ev (fun k => F k n) r) → Ev (fun k => F k i) r := by
  intro d
  induction d with
  | zero => intro i h0 h1 _ h; obtain rfl : i = n := by omega
            exact h (fun j h2 h3 => by omega)
  | succ d ih =>
    intro i h0 h1 hb hg
    obtain ⟨h2, h3⟩ := hstep i h0 (by omega)
    by_cases hp : p i
    · refine h2 hp (ih (i + 1) (by omega) (by omega) (fun h => hb (fun q => h (fun j h4 h5 => q j (by omega) h5))) (fun h => hg (fun j h4 h5 => ?_)))
      by_cases hj : j = i
      · rw [hj]; exact hp
      · exact h j (by omega) h5
    · exact h3 hp (hb (fun q => hp (q i (Int.le_refl _) (by omega))))

def lone (xs : List S55) (i : Int) : Bool := ((rd_T55 xs i).f1 == 3)
/-- The grams in a vehicle, of the first boxes. -/
def sumTo (xs : List S55) (b : List Int) (u : Int) : Nat → Int
  | 0 => 0
  | i + 1 => sumTo xs b u i + if rd b (i : Int) = u then (rd_T55 xs (i : Int)).f0 else 0
/-- Numbers of vehicles. -/
def Veh (b : List Int) : Prop := ∀ v ∈ b, 0 ≤ v ∧ v ≤ 6
theorem rd_getElem {b : List Int} {i : Int} (h0 : 0 ≤ i) (h1 : i < b.length) : rd b i = b[i.toNat]'(by omega) := by
  simp [rd, List.getD_eq_getElem?_getD, List.getElem?_eq_getElem (show i.toNat < b.length by omega)]
theorem Veh.at {b : List Int} (h : Veh b) {i : Int} (h0 : 0 ≤ i) (h1 : i < b.length) : 0 ≤ rd b i ∧ rd b i ≤ 6 := by
  rw [rd_getElem h0 h1]
  exact h _ (List.getElem_mem _)
theorem box_grams {xs : List S55} (hx : areBoxes xs = true) {i : Int} (h0 : 0 ≤ i) (h1 : i < xs.length) : 1 ≤ (rd_T55 xs i).f0 ∧ (rd_T55 xs i).f0 ≤ 1000000 := (of_decide_eq_true (((areBoxes_iff xs).1 hx).2 i h0 h1)).1
theorem sumTo_bound {xs : List S55} (hx : areBoxes xs = true) (b : List Int) (u : Int) : ∀ i : Nat, i ≤ xs.length → 0 ≤ sumTo xs b u i ∧ sumTo xs b u i ≤ 1000000 * (i : Int) := by
  intro i
  induction i with
  | zero => intro _; simp [sumTo]
  | succ i ih =>
    intro h
    have h2 := ih (by omega)
    have h3 := box_grams hx (i := (i : Int)) (by omega) (by omega)
    simp only [sumTo]
    split <;> omega
/-- The last of some boxes may ride with those before it. -/
def RideP (xs : List S55) (lim : Int) (b : List Int) (l : Int) : Prop := (∀ i : Int, 0 ≤ i → i < l → rd b i = rd b l → lone xs i = lone xs l) ∧ sumTo xs b (rd b l) (l.toNat + 1) ≤ lim
/-- All ride lawfully. -/
def OkAll (xs : List S55) (lim : Int) (b : List Int) : Prop := ∀ i : Int, 0 ≤ i → i < b.length → sumTo xs b (rd b i) b.length ≤ lim ∧ ∀ j : Int, 0 ≤ j → j < i → rd b i = rd b j → lone xs i = lone xs j
noncomputable def rideB (xs : List S55) (lim : Int) (b : List Int) : Bool := open Classical in decide (RideP xs lim b ((b.length : Int) - 1))
noncomputable def okB (xs : List S55) (lim : Int) (b : List Int) : Bool := open Classical in decide (OkAll xs lim b)
theorem rideB_iff {xs : List S55} {lim : Int} {b : List Int} : rideB xs lim b = true ↔ RideP xs lim b ((b.length : Int) - 1) := by unfold rideB; exact @decide_eq_true_iff _ (Classical.propDecidable _)
theorem okB_iff {xs : List S55} {lim : Int} {b : List Int} : okB xs lim b = true ↔ OkAll xs lim b := by unfold okB; exact @decide_eq_true_iff _ (Classical.propDecidable _)
theorem toNat_succ {i : Int} (h : 0 ≤ i) : (i + 1).toNat = i.toNat + 1 := by omega

theorem rd_append {b : List Int} {v i : Int} (h0 : 0 ≤ i) (h1 : i < b.length) : rd (b ++ [v]) i = rd b i := by
  simp only [rd, List.getD_eq_getElem?_getD]
  rw [List.getElem?_append_left (by omega)]
theorem rd_last (b : List Int) (v : Int) : rd (b ++ [v]) (b.length : Int) = v := by
  simp [rd]
theorem sumTo_append (xs : List S55) (b : List Int) (v u : Int) : ∀ i : Nat, i ≤ b.length → sumTo xs (b ++ [v]) u i = sumTo xs b u i := by
  intro i
  induction i with
  | zero => intro _; rfl
  | succ i ih =>
    intro h
    simp only [sumTo]
    rw [ih (by omega), rd_append (by omega) (by omega)]
theorem sumTo_full {xs : List S55} {b : List Int} {v u : Int} : sumTo xs (b ++ [v]) u (b ++ [v]).length = sumTo xs b u b.length + if v = u then (rd_T55 xs (b.length : Int)).f0 else 0 := by
  rw [List.length_append]
  simp only [List.length_singleton, sumTo]
  rw [sumTo_append xs b v u _ (Nat.le_refl _), rd_last]
theorem last_of {b : List Int} {v : Int} : (((b ++ [v]).length : Nat) : Int) - 1 = (b.length : Int) := by
  rw [List.length_append]; simp
theorem ok_append {xs : List S55} {lim : Int} {b : List Int} {v : Int} (h : OkAll xs lim b) : OkAll xs lim (b ++ [v]) ↔ RideP xs lim (b ++ [v]) (b.length : Int) := by
  have hlen : (((b ++ [v]).length : Nat) : Int) = (b.length : Int) + 1 := by rw [List.length_append]; simp
  have hnat : (b ++ [v]).length = (b.length : Int).toNat + 1 := by rw [List.length_append]; simp
  constructor
  · intro h2
    obtain ⟨h3, h4⟩ := h2 (b.length : Int) (by omega) (by omega)
    exact ⟨fun i h5 h6 h7 => (h4 i h5 h6 h7.symm).symm, by rw [← hnat]; exact h3⟩
  · intro h2 i h5 h6
    by_cases hi : i = (b.length : Int)
    · subst hi
      exact ⟨by rw [hnat]; exact h2.2, fun j h7 h8 h9 => (h2.1 j h7 h8 h9.symm).symm⟩
    · have hib : i < b.length := by omega
      have h3 := h i h5 hib
      rw [rd_append h5 hib]
      refine ⟨?_, fun j h7 h8 h9 => ?_⟩
      · rw [sumTo_full]
        by_cases hv : v = rd b i
        · have := h2.2
          rw [← hnat, rd_last, sumTo_full, if_pos rfl] at this
          rw [if_pos hv, ← hv]
          exact this
        · rw [if_neg hv, Int.add_zero]
          exact h3.1
      · rw [rd_append h7 (by omega)] at h9
        exact h3.2 j h7 h8 h9
theorem ok_nil (xs : List S55) (lim : Int) : OkAll xs lim [] := fun i h0 h1 => by simp at h1; omega
theorem okB_append {xs : List S55} {lim : Int} {b : List Int} {v : Int} (h : OkAll xs lim b) : okB xs lim (b ++ [v]) = rideB xs lim (b ++ [v]) := by
  rw [Bool.eq_iff_iff, okB_iff, rideB_iff, last_of]
  exact ok_append h
theorem Veh.append {b : List Int} (h : Veh b) {v : Int} (hv : 0 ≤ v ∧ v ≤ 6) : Veh (b ++ [v]) := fun x hx => by
  rcases List.mem_append.1 hx with hx | hx
  · exact h x hx
  · rw [List.mem_singleton.1 hx]; exact hv
theorem Veh.nil : Veh [] := fun x hx => by cases hx

/-- How many vehicles are used. -/
def usedM (b : List Int) : Int := b.foldl (fun m v => max m (v + 1)) 0
theorem usedM_append (b : List Int) (v : Int) : usedM (b ++ [v]) = max (usedM b) (v + 1) := by simp [usedM]
theorem usedM_bound {b : List Int} (hb : Veh b) : 0 ≤ usedM b ∧ usedM b ≤ 7 := by
  unfold usedM
  have : ∀ (b : List Int) (m : Int), Veh b → 0 ≤ m → m ≤ 7 → 0 ≤ b.foldl (fun m v => max m (v + 1)) m ∧ b.foldl (fun m v => max m (v + 1)) m ≤ 7 := by
    intro b
    induction b with
    | nil => intro m _ h1 h2; exact ⟨h1, h2⟩
    | cons v b ih =>
      intro m hb h1 h2
      have := hb v (List.mem_cons_self ..)
      exact ih (max m (v + 1)) (fun x hx => hb x (List.mem_cons_of_mem _ hx)) (by omega) (by omega)
  exact this b 0 hb (by omega) (by omega)
theorem rdNat {b : List Int} (j : Nat) (h : j < b.length) : rd b (j : Int) = b[j] := by
  rw [rd_getElem (by omega) (by omega)]; rfl
theorem impl_used_ev {b : List Int} (hb : Veh b) (hl : b.length ≤ 1000000) : Ev (fun k => impl_used.f k b) (usedM b) := by
  have h := Ev_for2 (F := fun k s i => impl_used.l0 k s b (b.length : Int) i) (step := fun s i => .inr ((fun (m v : Int) => max m (v + 1)) s (rd b i))) (out := fun s => s) (n := b.length) (fun _ _ => True)
    (fun s hI => Ev_succ (by simp only [impl_used.l0]; exact Ev_neg (by omega) (Ev.now _)))
    (fun s i h0 h1 hI => .inr ⟨_, rfl, trivial, fun r hr => Ev_succ (by
      simp only [impl_used.l0]
      have := hb.at h0 h1
      refine Ev_pos h1 (Ev_pos h0 (Ev_pos h1 ?_))
      rw [w64 (x := rd b i + 1) (by omega) (by omega), w64 (by omega) (by omega), mx_eq]
      exact hr)⟩) b.length 0 0 (by omega) (by omega) trivial
  rw [forM_fold0 b (rd b) (fun j hj => rdNat j hj) (fun (m v : Int) => max m (v + 1)) (fun s => s) 0] at h
  exact h

/-- All loadings that begin with some numbers, in order. -/
noncomputable def loadsM (xs : List S55) (lim most : Int) : Nat → List Int → List (List Int)
  | 0, b => [b]
  | d + 1, b => foldU (fun s v => if rideB xs lim (b ++ [v]) = true then s ++ loadsM xs lim most d (b ++ [v]) else s) (min (usedM b + 1) most).toNat [] 0
theorem loadsM_length (xs : List S55) (lim : Int) {most : Int} (hm : 0 ≤ most ∧ most ≤ 7) : ∀ (d : Nat) (b : List Int), Veh b → (loadsM xs lim most d b).length ≤ 7 ^ d := by
  intro d
  induction d with
  | zero => intro b _; simp [loadsM]
  | succ d ih =>
    intro b hb
    have hu := usedM_bound hb
    obtain ⟨P, hP⟩ : ∃ P : Nat, P = 7 ^ d := ⟨_, rfl⟩
    have := foldU_ind (upd := fun s v => if rideB xs lim (b ++ [v]) = true then s ++ loadsM xs lim most d (b ++ [v]) else s) (n := min (usedM b + 1) most) (fun s v => (s.length : Int) ≤ (P : Int) * v) (fun s v h0 h1 hI => by
      have e : (P : Int) * (v + 1) = (P : Int) * v + P := by rw [Int.mul_add, Int.mul_one]
      rw [e]
      split
      · have := ih (b ++ [v]) (hb.append (by omega))
        rw [List.length_append]
        omega
      · omega) (min (usedM b + 1) most).toNat [] 0 (by omega) (by omega) (by simp)
    have h7 : (P : Int) * min (usedM b + 1) most ≤ (P : Int) * 7 := Int.mul_le_mul_of_nonneg_left (by omega) (by omega)
    unfold loadsM
    rw [Nat.pow_succ, ← hP]
    omega
theorem pow7 {d : Nat} (h : d ≤ 7) : 7 ^ d ≤ 823543 := by
  have : 7 ^ d ≤ 7 ^ 7 := Nat.pow_le_pow_right (by omega) h
  exact this

theorem rd_set {s : List Int} {j v u : Int} (h0 : 0 ≤ j) (h1 : j < s.length) (h2 : 0 ≤ u) : rd (s.set j.toNat v) u = if u = j then v else rd s u := by
  by_cases h : u = j
  · rw [if_pos h, h]
    simp [rd, List.getD_eq_getElem?_getD, List.getElem?_set_self (show j.toNat < s.length by omega)]
  · rw [if_neg h]
    simp only [rd, List.getD_eq_getElem?_getD]
    rw [List.getElem?_set_ne (by omega)]
theorem l28Sums_ev {xs : List S55} (hx : areBoxes xs = true) {b : List Int} (hb : Veh b) (h1 : b.length ≤ xs.length) : ∃ s, Ev (fun k => spec_l28Sums.f k xs b) s ∧ s.length = 7 ∧ ∀ u : Int, 0 ≤ u → u ≤ 6 → rd s u = sumTo xs b u b.length := by
  have hn := ((areBoxes_iff xs).1 hx).1
  have hstep : ∀ (s : List Int) (i : Int), 0 ≤ i → i < b.length → (s.length = 7 ∧ ∀ u : Int, 0 ≤ u → u ≤ 6 → rd s u = sumTo xs b u i.toNat) → ((s.set (rd b i).toNat (wrap64 (rd s (rd b i) + (rd_T55 xs i).f0))).length = 7 ∧ ∀ u : Int, 0 ≤ u → u ≤ 6 → rd (s.set (rd b i).toNat (wrap64 (rd s (rd b i) + (rd_T55 xs i).f0))) u = sumTo xs b u (i + 1).toNat) := fun s i h2 h3 hI => by
    have hv := hb.at h2 h3
    refine ⟨by rw [List.length_set]; exact hI.1, fun u h4 h5 => ?_⟩
    have hs := sumTo_bound hx b (rd b i) i.toNat (by omega)
    have hg := box_grams hx (i := i) h2 (by omega)
    rw [rd_set hv.1 (by omega) h4, toNat_succ h2]
    simp only [sumTo]
    rw [show ((i.toNat : Nat) : Int) = i by omega]
    by_cases hu : u = rd b i
    · rw [if_pos hu, if_pos hu.symm, hI.2 _ hv.1 hv.2, w64 (by omega) (by omega), hu]
    · rw [if_neg hu, if_neg (fun h => hu h.symm), Int.add_zero]
      exact hI.2 u h4 h5
  have h00 : (List.replicate 7 (0 : Int)).length = 7 ∧ ∀ u : Int, 0 ≤ u → u ≤ 6 → rd (List.replicate 7 (0 : Int)) u = sumTo xs b u (0 : Int).toNat := by
    refine ⟨rfl, fun u h4 h5 => ?_⟩
    have : u = 0 ∨ u = 1 ∨ u = 2 ∨ u = 3 ∨ u = 4 ∨ u = 5 ∨ u = 6 := by omega
    rcases this with rfl | rfl | rfl | rfl | rfl | rfl | rfl <;> rfl
  have hfin := foldU_ind (upd := fun s i => s.set (rd b i).toNat (wrap64 (rd s (rd b i) + (rd_T55 xs i).f0))) (n := b.length) (fun s i => s.length = 7 ∧ ∀ u : Int, 0 ≤ u → u ≤ 6 → rd s u = sumTo xs b u i.toNat) hstep b.length (List.replicate 7 0) 0 (by omega) (by omega) h00
  refine ⟨foldU (fun s i => s.set (rd b i).toNat (wrap64 (rd s (rd b i) + (rd_T55 xs i).f0))) b.length (List.replicate 7 0) 0, ?_, hfin.1, hfin.2⟩
  unfold spec_l28Sums.f
  refine Ev_pos (by omega) ?_
  exact Ev_forK (F := fun k s i => spec_l28Sums.l0 k xs b s i) (n := b.length) (fun s i => s.length = 7 ∧ ∀ u : Int, 0 ≤ u → u ≤ 6 → rd s u = sumTo xs b u i.toNat) (fun s i h2 h3 hI => ⟨hstep s i h2 h3 hI, fun hr => Ev_succ (by
    have hv := hb.at h2 h3
    have hl := hI.1
    simp only [spec_l28Sums.l0]
    rw [w64 (x := i + 1) (by omega) (by omega)]
    exact Ev_pos h3 (Ev_pos h2 (Ev_pos hv.1 (Ev_pos (by omega) (Ev_pos (by omega) hr)))))⟩) b.length (List.replicate 7 0) 0 (by omega) (by omega) h00 (fun _ => Ev_succ (by
    simp only [spec_l28Sums.l0]
    exact Ev_neg (by omega) (Ev.now _)))
theorem l28Is_ev {xs : List S55} (hx : areBoxes xs = true) {lim : Int} {b : List Int} (hb : Veh b) (h1 : b.length ≤ xs.length) : Ev (fun k => spec_l28Is.f k xs lim b) (okB xs lim b) := by
  have hn := ((areBoxes_iff xs).1 hx).1
  obtain ⟨s, hs, hs7, hsu⟩ := l28Sums_ev hx hb h1
  unfold spec_l28Is.f
  refine Ev.bind hs ?_
  refine Ev_allK (F := fun k i => spec_l28Is.l0 k xs lim b s i) (p := fun i => sumTo xs b (rd b i) b.length ≤ lim ∧ ∀ j : Int, 0 ≤ j → j < i → rd b i = rd b j → lone xs i = lone xs j) (n := b.length) (bad := false) (fun i h2 h3 => ?_) b.length 0 (by omega) (by omega) (fun h => by
    rw [Bool.eq_false_iff]
    exact fun h2 => h (fun j h3 h4 => okB_iff.1 h2 j h3 h4)) (fun h => Ev_succ (by
    simp only [spec_l28Is.l0]
    refine Ev_neg (by omega) (Ev_some ?_)
    symm
    exact okB_iff.2 (fun i h2 h3 => h i h2 h3)))
  have hv := hb.at h2 h3
  have hin : ∀ r, (¬ (∀ j : Int, 0 ≤ j → j < i → rd b i = rd b j → lone xs i = lone xs j) → r = false) → ((∀ j : Int, 0 ≤ j → j < i → rd b i = rd b j → lone xs i = lone xs j) → Ev (fun k => spec_l28Is.l0 k xs lim b s (i + 1)) r) → Ev (fun k => spec_l28Is.l1 k xs lim b s i 0) r := fun r hbad hgood =>
    Ev_allK (F := fun k j => spec_l28Is.l1 k xs lim b s i j) (p := fun j => rd b i = rd b j → lone xs i = lone xs j) (n := i) (bad := false) (fun j h4 h5 => ⟨fun hp hr => Ev_succ (by
      simp only [spec_l28Is.l1]
      refine Ev_pos h5 (Ev_pos h2 (Ev_pos h3 (Ev_pos h4 (Ev_pos (by omega) ?_))))
      rw [w64 (x := j + 1) (by omega) (by omega)]
      refine Ev_ite (fun hc => ?_) (fun hc => hr)
      have hq := hp hc
      unfold lone at hq
      exact Ev_pos (by omega) (Ev_pos (by omega) (Ev_neg (by rw [hq]; simp) hr))), fun hp hr => Ev_succ (by
      simp only [spec_l28Is.l1]
      have hc : rd b i = rd b j := by
        by_cases hc : rd b i = rd b j
        · exact hc
        · exact absurd (fun h => absurd h hc) hp
      have hq : ¬ lone xs i = lone xs j := fun h => hp (fun _ => h)
      unfold lone at hq
      refine Ev_pos h5 (Ev_pos h2 (Ev_pos h3 (Ev_pos h4 (Ev_pos (by omega) (Ev_pos hc (Ev_pos (by omega) (Ev_pos (by omega) ?_)))))))
      exact Ev_pos (by simpa using hq) (Ev_some hr.symm))⟩) i.toNat 0 (by omega) (by omega) hbad (fun h => Ev_succ (by
      simp only [spec_l28Is.l1]
      rw [w64 (x := i + 1) (by omega) (by omega)]
      exact Ev_neg (by omega) (hgood h)))
  refine ⟨fun hp hr => Ev_succ (by
    simp only [spec_l28Is.l0]
    refine Ev_pos h3 (Ev_pos h2 (Ev_pos hv.1 (Ev_pos (by omega) ?_)))
    rw [hsu _ hv.1 hv.2]
    exact Ev_neg (by have := hp.1; omega) (hin _ (fun h => absurd hp.2 h) (fun _ => hr))), fun hp hr => Ev_succ (by
    simp only [spec_l28Is.l0]
    refine Ev_pos h3 (Ev_pos h2 (Ev_pos hv.1 (Ev_pos (by omega) ?_)))
    rw [hsu _ hv.1 hv.2]
    refine Ev_ite (fun hc => Ev_some hr.symm) (fun hc => hin _ (fun _ => hr) (fun h => absurd ⟨by omega, h⟩ hp)))⟩

theorem l01Own_eq {b : List Int} (h : b.length ≤ 1000000) : spec_l01Own.f b = some b := by
  unfold spec_l01Own.f
  rw [Option.bind_some, if_pos (by simp; omega), List.nil_append]
theorem spec_all_ev {xs : List S55} (hx : areBoxes xs = true) (lim : Int) {most : Int} (hm : 0 ≤ most ∧ most ≤ 7) : ∀ (d : Nat) (b : List Int), Veh b → OkAll xs lim b → b.length + d = xs.length → Ev (fun k => spec_l28All.f k xs lim most b (usedM b)) (loadsM xs lim most d b) := by
  have hn := ((areBoxes_iff xs).1 hx).1
  intro d
  induction d with
  | zero =>
    intro b hb hok hl
    refine Ev_succ (by
      simp only [spec_l28All.f]
      exact Ev_pos (by omega) (Ev.now _))
  | succ d ih =>
    intro b hb hok hl
    have hu := usedM_bound hb
    have hlen : ∀ v : Int, 0 ≤ v → v < 7 → (loadsM xs lim most d (b ++ [v])).length ≤ 823543 := fun v h0 h1 => Nat.le_trans (loadsM_length xs lim hm d _ (hb.append (by omega))) (pow7 (by omega))
    refine Ev_succ (by
      simp only [spec_l28All.f]
      refine Ev_neg (by omega) ?_
      unfold loadsM
      refine Ev_forK (F := fun k s v => spec_l28All.l0 k xs lim most b (usedM b) s v) (upd := fun s v => if rideB xs lim (b ++ [v]) = true then s ++ loadsM xs lim most d (b ++ [v]) else s) (n := min (usedM b + 1) most) (fun s v => (s.length : Int) ≤ 1000000 * v) (fun s v h0 h1 hI => ⟨?_, fun hr => ?_⟩) (min (usedM b + 1) most).toNat [] 0 (by omega) (by omega) (by simp) (fun hI => ?_)
      · have := hlen v h0 (by omega)
        split
        · rw [List.length_append]; omega
        · omega
      · have hv := hlen v h0 (by omega)
        refine Ev_succ (by
          simp only [spec_l28All.l0]
          refine Ev_pos (by omega) (Ev_succ (by
            rw [decide_eq_true (show v < most by omega)]
            simp only [spec_l28All.j1, if_true]
            refine Ev_bindc (l01Own_eq (by omega)) (Ev_pos (by omega) (Ev_bindc rfl (Ev.bind (l28Is_ev hx (hb.append (by omega)) (by rw [List.length_append]; simp; omega)) ?_)))
            rw [okB_append hok]
            have hw : wrap64 (v + 1) = v + 1 := w64 (by omega) (by omega)
            refine Ev_ite (fun hc => ?_) (fun hc => ?_)
            · rw [if_pos hc] at hr
              have hok2 : OkAll xs lim (b ++ [v]) := okB_iff.1 ((okB_append hok).trans hc)
              have := ih (b ++ [v]) (hb.append (by omega)) hok2 (by rw [List.length_append]; simp; omega)
              rw [usedM_append] at this
              rw [hw, mx_eq]
              exact Ev.bind this (Ev_pos (by omega) hr)
            · rw [if_neg hc] at hr
              rw [hw]
              exact hr)))
      · refine Ev_succ (by
          simp only [spec_l28All.l0]
          refine Ev_ite (fun hc => Ev_succ (by
            rw [decide_eq_false (show ¬ min (usedM b + 1) most < most by omega)]
            simp only [spec_l28All.j1, Bool.false_eq_true, if_false]
            exact Ev.now _)) (fun hc => Ev_succ (by
            simp only [spec_l28All.j1, Bool.false_eq_true, if_false]
            exact Ev.now _))))

/-- The first of those with the fewest vehicles. -/
def Best (L : List (List Int)) (l : List Int) : Prop := ∃ pre post, L = pre ++ l :: post ∧ (∀ x ∈ pre, usedM l < usedM x) ∧ ∀ x ∈ post, usedM l ≤ usedM x
def pickU (s : List Int × Bool) (l : List Int) : List Int × Bool := if s.2 = true then (if usedM l < usedM s.1 then (l, true) else s) else (l, true)
theorem pick_best (M : List (List Int)) : ∀ (L : List (List Int)) (l : List Int), Best L l → ∃ m, M.foldl pickU (l, true) = (m, true) ∧ Best (L ++ M) m := by
  induction M with
  | nil => intro L l h; exact ⟨l, rfl, by rw [List.append_nil]; exact h⟩
  | cons x M ih =>
    intro L l h
    obtain ⟨pre, post, he, h1, h2⟩ := h
    simp only [List.foldl_cons]
    by_cases hx : usedM x < usedM l
    · have e : pickU (l, true) x = (x, true) := by unfold pickU; rw [if_pos rfl, if_pos hx]
      rw [e]
      have hb : Best (L ++ [x]) x := ⟨L, [], rfl, fun y hy => by
        rw [he] at hy
        rcases List.mem_append.1 hy with hy | hy
        · have := h1 y hy; omega
        · rcases List.mem_cons.1 hy with hy | hy
          · rw [hy]; exact hx
          · have := h2 y hy; omega, fun y hy => by cases hy⟩
      obtain ⟨m, hm, hb2⟩ := ih (L ++ [x]) x hb
      exact ⟨m, hm, by rw [List.append_assoc] at hb2; exact hb2⟩
    · have e : pickU (l, true) x = (l, true) := by unfold pickU; rw [if_pos rfl, if_neg hx]
      rw [e]
      have hb : Best (L ++ [x]) l := ⟨pre, post ++ [x], by rw [he]; simp, h1, fun y hy => by
        rcases List.mem_append.1 hy with hy | hy
        · exact h2 y hy
        · rw [List.mem_singleton.1 hy]; omega⟩
      obtain ⟨m, hm, hb2⟩ := ih (L ++ [x]) l hb
      exact ⟨m, hm, by rw [List.append_assoc] at hb2; exact hb2⟩
theorem pick_all (L : List (List Int)) : (L = [] ∧ L.foldl pickU ([], false) = ([], false)) ∨ ∃ m, L.foldl pickU ([], false) = (m, true) ∧ Best L m := by
  cases L with
  | nil => exact .inl ⟨rfl, rfl⟩
  | cons x M =>
    refine .inr ?_
    have hb : Best [x] x := ⟨[], [], rfl, (fun y hy => by cases hy), (fun y hy => by cases hy)⟩
    exact pick_best M [x] x hb
/-- The loadings with at most m vehicles are those among all. -/
theorem foldU_congr {S : Type} {f g : S → Int → S} {n : Int} (h : ∀ (s : S) (i : Int), 0 ≤ i → i < n → f s i = g s i) : ∀ (d : Nat) (s : S) (i : Int), 0 ≤ i → i + d = n → foldU f d s i = foldU g d s i := by
  intro d
  induction d with
  | zero => intro s i _ _; rfl
  | succ d ih =>
    intro s i h0 h1
    simp only [foldU]
    rw [h s i h0 (by omega)]
    exact ih _ _ (by omega) (by omega)
theorem foldU_add {S : Type} {f : S → Int → S} : ∀ (a b : Nat) (s : S) (i : Int), foldU f (a + b) s i = foldU f b (foldU f a s i) (i + a) := by
  intro a
  induction a with
  | zero => intro b s i; simp [foldU]
  | succ a ih =>
    intro b s i
    rw [show a + 1 + b = (a + b) + 1 by omega]
    simp only [foldU]
    rw [ih b (f s i) (i + 1)]
    congr 1
    omega
theorem loads_used {xs : List S55} {lim most : Int} : ∀ (d : Nat) (b : List Int), ∀ l ∈ loadsM xs lim most d b, usedM b ≤ usedM l := by
  intro d
  induction d with
  | zero => intro b l hl; simp [loadsM] at hl; rw [hl]; omega
  | succ d ih =>
    intro b l hl
    unfold loadsM at hl
    by_cases hm : 0 ≤ min (usedM b + 1) most
    · have := foldU_ind (upd := fun s v => if rideB xs lim (b ++ [v]) = true then s ++ loadsM xs lim most d (b ++ [v]) else s) (n := min (usedM b + 1) most) (fun s _ => ∀ l ∈ s, usedM b ≤ usedM l) (fun s v _ _ hI l hl => by
        split at hl
        · rcases List.mem_append.1 hl with hl | hl
          · exact hI l hl
          · have := ih (b ++ [v]) l hl
            rw [usedM_append] at this
            omega
        · exact hI l hl) (min (usedM b + 1) most).toNat [] 0 (by omega) (by omega) (fun l hl => by cases hl)
      exact this l hl
    · rw [show (min (usedM b + 1) most).toNat = 0 by omega] at hl
      simp [foldU] at hl
theorem filter_none {α : Type} {p : α → Bool} {L : List α} (h : ∀ x ∈ L, p x = false) : L.filter p = [] := by
  rw [List.filter_eq_nil_iff]
  exact fun x hx => by rw [h x hx]; decide
theorem loads_filter (xs : List S55) (lim : Int) {m : Int} (hm : 0 ≤ m ∧ m ≤ 7) : ∀ (d : Nat) (b : List Int), Veh b → usedM b ≤ m → loadsM xs lim m d b = (loadsM xs lim 7 d b).filter fun l => decide (usedM l ≤ m) := by
  intro d
  induction d with
  | zero => intro b _ hu; simp [loadsM, hu]
  | succ d ih =>
    intro b hb hu
    have hub := usedM_bound hb
    unfold loadsM
    -- the rounds up to m
    have h1 : ∀ (c : Nat) (s t : List (List Int)) (i : Int), 0 ≤ i → i + c = min (usedM b + 1) m → s = t.filter (fun l => decide (usedM l ≤ m)) → foldU (fun s v => if rideB xs lim (b ++ [v]) = true then s ++ loadsM xs lim m d (b ++ [v]) else s) c s i = (foldU (fun s v => if rideB xs lim (b ++ [v]) = true then s ++ loadsM xs lim 7 d (b ++ [v]) else s) c t i).filter fun l => decide (usedM l ≤ m) := by
      intro c
      induction c with
      | zero => intro s t i _ _ hs; exact hs
      | succ c ihc =>
        intro s t i h0 hc hs
        simp only [foldU]
        refine ihc _ _ (i + 1) (by omega) (by omega) ?_
        split
        · rw [List.filter_append, ← hs, ih (b ++ [i]) (hb.append (by omega)) (by rw [usedM_append]; omega)]
        · exact hs
    -- the rounds behind
    have h2 : ∀ (c : Nat) (t : List (List Int)) (i : Int), m ≤ i → (foldU (fun s v => if rideB xs lim (b ++ [v]) = true then s ++ loadsM xs lim 7 d (b ++ [v]) else s) c t i).filter (fun l => decide (usedM l ≤ m)) = t.filter fun l => decide (usedM l ≤ m) := by
      intro c
      induction c with
      | zero => intro t i _; rfl
      | succ c ihc =>
        intro t i hi
        simp only [foldU]
        rw [ihc _ (i + 1) (by omega)]
        split
        · rw [List.filter_append, filter_none (L := loadsM xs lim 7 d (b ++ [i])) (fun l hl => by
            have := loads_used d (b ++ [i]) l hl
            rw [usedM_append] at this
            simp only [decide_eq_false_iff_not]
            omega), List.append_nil]
        · rfl
    obtain ⟨a, ha⟩ : ∃ a : Nat, a = (min (usedM b + 1) m).toNat := ⟨_, rfl⟩
    obtain ⟨c, hc⟩ : ∃ c : Nat, (min (usedM b + 1) 7).toNat = a + c := ⟨(min (usedM b + 1) 7).toNat - a, by omega⟩
    rw [hc, ← ha, foldU_add]
    by_cases hz : c = 0
    · rw [hz]
      exact h1 a [] [] 0 (by omega) (by omega) rfl
    · rw [h2 c _ _ (by omega)]
      exact h1 a [] [] 0 (by omega) (by omega) rfl

/-- What is found: the fewest, and the first with it. -/
theorem fewest_ev {xs : List S55} (hx : areBoxes xs = true) (lim : Int) : ∃ r, Ev (fun k => spec_l28Fewest.f k xs lim) r ∧ ((loadsM xs lim 7 xs.length [] = [] ∧ r = (-1, [])) ∨ ∃ l, Best (loadsM xs lim 7 xs.length []) l ∧ r = (usedM l, l)) := by
  have hn := ((areBoxes_iff xs).1 hx).1
  have hall : ∀ m : Int, 0 ≤ m → m ≤ 7 → Ev (fun k => spec_l28All.f k xs lim m [] 0) ((loadsM xs lim 7 xs.length []).filter fun l => decide (usedM l ≤ m)) := fun m h0 h1 => by
    have := spec_all_ev hx lim (most := m) ⟨h0, h1⟩ xs.length [] Veh.nil (ok_nil xs lim) (by simp)
    rw [loads_filter xs lim ⟨h0, h1⟩ xs.length [] Veh.nil (by simp [usedM]; omega)] at this
    exact this
  have hskip : ∀ m : Int, 0 ≤ m → m ≤ 7 → (loadsM xs lim 7 xs.length []).filter (fun l => decide (usedM l ≤ m)) = [] → ∀ r, Ev (fun k => spec_l28Fewest.l0 k xs lim (m + 1)) r → Ev (fun k => spec_l28Fewest.l0 k xs lim m) r := fun m h0 h1 he r hr => Ev_succ (by
    simp only [spec_l28Fewest.l0]
    refine Ev_pos (by omega) (Ev.bind (hall m h0 h1) ?_)
    rw [he, w64 (by omega) (by omega)]
    exact Ev_neg (by simp) hr)
  have hruns : ∀ (c : Nat) (m : Int), 0 ≤ m → m + c ≤ 8 → (∀ j : Int, m ≤ j → j < m + c → (loadsM xs lim 7 xs.length []).filter (fun l => decide (usedM l ≤ j)) = []) → ∀ r, Ev (fun k => spec_l28Fewest.l0 k xs lim (m + c)) r → Ev (fun k => spec_l28Fewest.l0 k xs lim m) r := by
    intro c
    induction c with
    | zero => intro m _ _ _ r hr; simpa using hr
    | succ c ih =>
      intro m h0 h1 he r hr
      refine hskip m h0 (by omega) (he m (Int.le_refl _) (by omega)) r (ih (m + 1) (by omega) (by omega) (fun j h2 h3 => he j (by omega) (by omega)) r ?_)
      rw [show m + 1 + (c : Int) = m + ((c + 1 : Nat) : Int) by omega]
      exact hr
  unfold spec_l28Fewest.f
  rcases pick_all (loadsM xs lim 7 xs.length []) with ⟨hL, _⟩ | ⟨l, _, hb⟩
  · refine ⟨(-1, []), ?_, .inl ⟨hL, rfl⟩⟩
    refine hruns 8 0 (by omega) (by omega) (fun j _ _ => by rw [hL]; rfl) _ (Ev_succ (by
      simp only [spec_l28Fewest.l0]
      exact Ev_neg (by omega) (Ev.now _)))
  · refine ⟨(usedM l, l), ?_, .inr ⟨l, hb, rfl⟩⟩
    obtain ⟨pre, post, he, h1, h2⟩ := hb
    have hl0 : 0 ≤ usedM l := by
      have := loads_used (xs := xs) (lim := lim) (most := 7) xs.length [] l (by rw [he]; simp)
      simpa [usedM] using this
    have hl7 : usedM l ≤ 7 := by
      have hm : l ∈ (loadsM xs lim 7 xs.length []).filter fun l => decide (usedM l ≤ 7) := by
        rw [← loads_filter xs lim ⟨by omega, by omega⟩ xs.length [] Veh.nil (by simp [usedM]), he]
        simp
      exact of_decide_eq_true (List.mem_filter.1 hm).2
    have hge : ∀ x ∈ loadsM xs lim 7 xs.length [], usedM l ≤ usedM x := fun x hx => by
      rw [he] at hx
      rcases List.mem_append.1 hx with hx | hx
      · have := h1 x hx; omega
      · rcases List.mem_cons.1 hx with hx | hx
        · rw [hx]; omega
        · exact h2 x hx
    refine hruns (usedM l).toNat 0 (by omega) (by omega) (fun j h3 h4 => filter_none (fun x hx => by
      have := hge x hx
      simp only [decide_eq_false_iff_not]
      omega)) _ ?_
    rw [show (0 : Int) + ((usedM l).toNat : Int) = usedM l by omega]
    refine Ev_succ (by
      simp only [spec_l28Fewest.l0]
      refine Ev_pos hl7 (Ev.bind (hall (usedM l) hl0 hl7) ?_)
      have hf : (loadsM xs lim 7 xs.length []).filter (fun x => decide (usedM x ≤ usedM l)) = l :: post.filter (fun x => decide (usedM x ≤ usedM l)) := by
        rw [he, List.filter_append, filter_none (L := pre) (fun x hx => by
          have := h1 x hx
          simp only [decide_eq_false_iff_not]
          omega), List.nil_append, List.filter_cons_of_pos (by simp)]
      rw [hf]
      exact Ev_pos (by simp) (Ev_pos (by simp) (Ev.now _)))

theorem impl_mayRide_ev {xs : List S55} (hx : areBoxes xs = true) {lim : Int} {b : List Int} (h0 : 0 < b.length) (h1 : b.length ≤ xs.length) : Ev (fun k => impl_mayRide.f k xs lim b) (rideB xs lim b) := by
  have hn := ((areBoxes_iff xs).1 hx).1
  unfold impl_mayRide.f
  rw [w64 (x := (b.length : Int) - 1) (by omega) (by omega)]
  refine Ev_pos (by omega) (Ev_pos (by omega) ?_)
  obtain ⟨l, hl⟩ : ∃ l : Int, l = (b.length : Int) - 1 := ⟨_, rfl⟩
  rw [← hl]
  have hg := box_grams hx (i := l) (by omega) (by omega)
  have hloop := Ev_allK (F := fun k i => impl_mayRide.l0 k xs lim b l ((rd_T55 xs l).f0 + sumTo xs b (rd b l) i.toNat) i) (p := fun i => rd b i = rd b l → lone xs i = lone xs l) (n := l) (r := rideB xs lim b) (bad := false) (fun i h2 h3 => by
    have hs := sumTo_bound hx b (rd b l) i.toNat (by omega)
    have hgi := box_grams hx (i := i) h2 (by omega)
    have hnext : sumTo xs b (rd b l) (i + 1).toNat = sumTo xs b (rd b l) i.toNat + if rd b i = rd b l then (rd_T55 xs i).f0 else 0 := by
      rw [toNat_succ h2]
      simp only [sumTo]
      rw [show ((i.toNat : Nat) : Int) = i by omega]
    refine ⟨fun hp hr => Ev_succ (by
      simp only [impl_mayRide.l0]
      refine Ev_pos h3 (Ev_pos h2 (Ev_pos (by omega) (Ev_pos (by omega) (Ev_pos (by omega) ?_))))
      rw [w64 (x := i + 1) (by omega) (by omega)]
      rw [hnext] at hr
      refine Ev_ite (fun hc => ?_) (fun hc => ?_)
      · rw [if_pos hc] at hr
        have hq := hp hc
        unfold lone at hq
        refine Ev_pos (by omega) (Ev_pos (by omega) (Ev_neg (by rw [hq]; simp) ?_))
        rw [w64 (by omega) (by omega), Int.add_assoc]
        exact hr
      · rw [if_neg hc, Int.add_zero] at hr
        exact hr), fun hp hr => Ev_succ (by
      simp only [impl_mayRide.l0]
      have hc : rd b i = rd b l := by
        by_cases hc : rd b i = rd b l
        · exact hc
        · exact absurd (fun h => absurd h hc) hp
      have hq : ¬ lone xs i = lone xs l := fun h => hp (fun _ => h)
      unfold lone at hq
      refine Ev_pos h3 (Ev_pos h2 (Ev_pos (by omega) (Ev_pos (by omega) (Ev_pos (by omega) (Ev_pos hc (Ev_pos (by omega) (Ev_pos (by omega) ?_)))))))
      exact Ev_pos (by simpa using hq) (Ev_some hr.symm))⟩) l.toNat 0 (by omega) (by omega) (fun h => by
    rw [Bool.eq_false_iff]
    exact fun h2 => h (fun j h3 h4 => (rideB_iff.1 h2).1 j h3 (by omega) |> fun q => by rw [← hl] at q; exact q)) (fun h => Ev_succ (by
    simp only [impl_mayRide.l0]
    refine Ev_neg (by omega) (Ev_some ?_)
    have e : sumTo xs b (rd b l) (l.toNat + 1) = (rd_T55 xs l).f0 + sumTo xs b (rd b l) l.toNat := by
      simp only [sumTo]
      rw [show ((l.toNat : Nat) : Int) = l by omega, if_pos rfl, Int.add_comm]
    rw [Bool.eq_iff_iff, decide_eq_true_eq, rideB_iff, ← hl, ← e]
    exact ⟨fun q => ⟨h, q⟩, fun q => q.2⟩))
  refine Ev.congr (fun k => ?_) hloop
  simp [sumTo]

theorem copyList_eq {b : List Int} (h : b.length ≤ 1000000) : impl_copyList.f b = some b := by
  unfold impl_copyList.f
  rw [Option.bind_some, if_pos (by simp; omega), List.nil_append]
theorem impl_loads_ev {xs : List S55} (hx : areBoxes xs = true) (lim : Int) {most : Int} (hm : 0 ≤ most ∧ most ≤ 7) : ∀ (d : Nat) (b : List Int), Veh b → b.length + d = xs.length → Ev (fun k => impl_loadings.f k xs lim most b) (loadsM xs lim most d b) := by
  have hn := ((areBoxes_iff xs).1 hx).1
  intro d
  induction d with
  | zero =>
    intro b hb hl
    refine Ev_succ (by
      simp only [impl_loadings.f]
      exact Ev_pos (by omega) (Ev.now _))
  | succ d ih =>
    intro b hb hl
    have hu := usedM_bound hb
    have hlen : ∀ v : Int, 0 ≤ v → v < 7 → (loadsM xs lim most d (b ++ [v])).length ≤ 823543 := fun v h0 h1 => Nat.le_trans (loadsM_length xs lim hm d _ (hb.append (by omega))) (pow7 (by omega))
    refine Ev_succ (by
      simp only [impl_loadings.f]
      refine Ev_neg (by omega) ?_
      unfold loadsM
      refine Ev_forK (F := fun k s v => impl_loadings.l0 k xs lim most b s v) (upd := fun s v => if rideB xs lim (b ++ [v]) = true then s ++ loadsM xs lim most d (b ++ [v]) else s) (n := min (usedM b + 1) most) (fun s v => (s.length : Int) ≤ 1000000 * v) (fun s v h0 h1 hI => ⟨?_, fun hr => ?_⟩) (min (usedM b + 1) most).toNat [] 0 (by omega) (by omega) (by simp) (fun hI => ?_)
      · have := hlen v h0 (by omega)
        split
        · rw [List.length_append]; omega
        · omega
      · have hv := hlen v h0 (by omega)
        refine Ev_succ (by
          simp only [impl_loadings.l0]
          refine Ev.bind (impl_used_ev hb (by omega)) (Ev_pos (by omega) (Ev_succ (by
            rw [decide_eq_true (show v < most by omega)]
            simp only [impl_loadings.j1, if_true]
            refine Ev_bindc (copyList_eq (by omega)) (Ev_pos (by omega) (Ev_bindc rfl (Ev.bind (impl_mayRide_ev hx (by rw [List.length_append]; simp) (by rw [List.length_append]; simp; omega)) ?_)))
            rw [w64 (x := v + 1) (by omega) (by omega)]
            refine Ev_ite (fun hc => ?_) (fun hc => ?_)
            · rw [if_pos hc] at hr
              exact Ev.bind (ih (b ++ [v]) (hb.append (by omega)) (by rw [List.length_append]; simp; omega)) (Ev_pos (by omega) hr)
            · rw [if_neg hc] at hr
              exact hr))))
      · refine Ev_succ (by
          simp only [impl_loadings.l0]
          refine Ev.bind (impl_used_ev hb (by omega)) (Ev_ite (fun hc => Ev_succ (by
            rw [decide_eq_false (show ¬ min (usedM b + 1) most < most by omega)]
            simp only [impl_loadings.j1, Bool.false_eq_true, if_false]
            exact Ev.now _)) (fun hc => Ev_succ (by
            simp only [impl_loadings.j1, Bool.false_eq_true, if_false]
            exact Ev.now _)))))

theorem rd_L2_nat {L : List (List Int)} (j : Nat) (h : j < L.length) : rd_L2 L (j : Int) = L[j] := by
  simp [rd_L2, List.getD_eq_getElem?_getD, List.getElem?_eq_getElem h]
theorem loads_veh (xs : List S55) (lim : Int) {most : Int} (hm : 0 ≤ most ∧ most ≤ 7) : ∀ (d : Nat) (b : List Int), Veh b → ∀ l ∈ loadsM xs lim most d b, Veh l ∧ l.length = b.length + d := by
  intro d
  induction d with
  | zero => intro b hb l hl; simp [loadsM] at hl; rw [hl]; exact ⟨hb, rfl⟩
  | succ d ih =>
    intro b hb l hl
    have hub := usedM_bound hb
    unfold loadsM at hl
    have := foldU_ind (upd := fun s v => if rideB xs lim (b ++ [v]) = true then s ++ loadsM xs lim most d (b ++ [v]) else s) (n := min (usedM b + 1) most) (fun s _ => ∀ l ∈ s, Veh l ∧ l.length = b.length + (d + 1)) (fun s v h0 h1 hI l hl => by
      split at hl
      · rcases List.mem_append.1 hl with hl | hl
        · exact hI l hl
        · have := ih (b ++ [v]) (hb.append (by omega)) l hl
          rw [List.length_append] at this
          simp at this
          exact ⟨this.1, by omega⟩
      · exact hI l hl) (min (usedM b + 1) most).toNat [] 0 (by omega) (by omega) (fun l hl => by cases hl)
    exact this l hl
theorem first_ev {xs : List S55} (hx : areBoxes xs = true) (lim : Int) : Ev (fun k => impl_firstLoading.f k xs lim) ((loadsM xs lim 7 xs.length []).foldl pickU ([], false)) := by
  have hn := ((areBoxes_iff xs).1 hx).1
  have hlen := Nat.le_trans (loadsM_length xs lim (most := 7) (by omega) xs.length [] Veh.nil) (pow7 hn)
  have hveh := loads_veh xs lim (most := 7) (by omega) xs.length [] Veh.nil
  unfold impl_firstLoading.f
  refine Ev.bind (impl_loads_ev hx lim (by omega) xs.length [] Veh.nil (by simp)) ?_
  obtain ⟨L, hL⟩ : ∃ L, L = loadsM xs lim 7 xs.length [] := ⟨_, rfl⟩
  rw [← hL] at hlen hveh ⊢
  have hat : ∀ i : Int, 0 ≤ i → i < L.length → rd_L2 L i ∈ L := fun i h0 h1 => by
    have := rd_L2_nat i.toNat (show i.toNat < L.length by omega)
    rw [show ((i.toNat : Nat) : Int) = i by omega] at this
    rw [this]
    exact List.getElem_mem _
  have h := Ev_for2 (F := fun k (s : List Int × Bool) i => impl_firstLoading.l0 k s.1 s.2 L (L.length : Int) i) (step := fun s i => .inr (pickU s (rd_L2 L i))) (out := fun s => s) (n := L.length) (fun s _ => Veh s.1 ∧ s.1.length ≤ 7)
    (fun s hI => Ev_succ (by simp only [impl_firstLoading.l0]; exact Ev_neg (by omega) (Ev.now _)))
    (fun s i h0 h1 hI => .inr ⟨_, rfl, by
      have := hveh _ (hat i h0 h1)
      simp at this
      unfold pickU
      repeat' split
      · exact ⟨this.1, by simp only; omega⟩
      · exact hI
      · exact ⟨this.1, by simp only; omega⟩, fun r hr => Ev_succ (by
      have hv := hveh _ (hat i h0 h1)
      simp at hv
      simp only [impl_firstLoading.l0]
      refine Ev_pos h1 (Ev_pos h0 (Ev_pos h1 ?_))
      rw [w64 (by omega) (by omega)]
      unfold pickU at hr
      refine Ev_ite (fun hc => ?_) (fun hc => by rw [if_neg hc] at hr; exact hr)
      rw [if_pos hc] at hr
      refine Ev.bind (impl_used_ev hv.1 (by omega)) (Ev.bind (impl_used_ev hI.1 (by omega)) (Ev_ite (fun hq => by rw [if_pos hq] at hr; exact hr) (fun hq => by rw [if_neg hq] at hr; exact hr))))⟩) L.length ([], false) 0 (by omega) (by omega) ⟨Veh.nil, by simp⟩
  rw [forM_fold0 L (rd_L2 L) (fun j hj => rd_L2_nat j hj) pickU (fun s => s) ([], false)] at h
  exact h

def codeB (xs : List S55) (lim : Int) : Int := if areBoxes xs = true then (if 1 ≤ lim ∧ lim ≤ 10000000 then 0 else 2) else 1
theorem codeB_0 {xs : List S55} {lim : Int} (h : codeB xs lim = 0) : areBoxes xs = true ∧ 1 ≤ lim ∧ lim ≤ 10000000 := by
  unfold codeB at h
  by_cases h1 : areBoxes xs = true
  · rw [if_pos h1] at h
    by_cases h2 : 1 ≤ lim ∧ lim ≤ 10000000
    · exact ⟨h1, h2⟩
    · rw [if_neg h2] at h; exact absurd h (by decide)
  · rw [if_neg h1] at h; exact absurd h (by decide)
theorem l28Code_ev (xs : List S55) (hn : xs.length ≤ 1000000) (lim : Int) : Ev (fun k => spec_l28Code.f k xs lim) (codeB xs lim) := by
  unfold spec_l28Code.f codeB
  refine Ev.bind (spec_AreBoxes_ev xs hn) (Ev_ite (fun h => ?_) (fun h => by rw [if_neg h]; exact Ev.now _))
  rw [if_pos h, l01In_eq]
  simp only [Option.bind_some, decide_eq_true_eq]
  exact Ev_ite (fun h => by rw [if_pos h]; exact Ev.now _) (fun h => by rw [if_neg h]; exact Ev.now _)

theorem isLoadLimit_eq (a : Int) : impl_isLoadLimit.f a = some (decide (1 ≤ a ∧ a ≤ 10000000)) := by unfold impl_isLoadLimit.f; rw [within_eq]; rfl

theorem core_FnExactFewestVehicles (xs : List S55) (lim : Int) (hn : xs.length ≤ 1000000) (_w1 : (Lit.int .i64 lim).wf = true) : ∃ r1 r2, Ev (fun k => spec_FewestVehicles.f k xs lim) (r1, r2) ∧ Ev (fun k => impl_FewestVehicles.f k xs lim) (r1, r2) := by
  unfold spec_FewestVehicles.f impl_FewestVehicles.f
  rw [isLoadLimit_eq]
  simp only [Option.bind_some]
  by_cases hx : areBoxes xs = true
  · by_cases hl : 1 ≤ lim ∧ lim ≤ 10000000
    · have e : codeB xs lim = 0 := by unfold codeB; rw [if_pos hx, if_pos hl]
      have hc := l28Code_ev xs hn lim
      rw [e] at hc
      obtain ⟨r, hr, hcase⟩ := fewest_ev hx lim
      have hf := first_ev hx lim
      have hlen := ((areBoxes_iff xs).1 hx).1
      rcases hcase with ⟨hL, rfl⟩ | ⟨l, hb, rfl⟩
      · rw [hL] at hf
        refine ⟨0, 4, Ev.bind hc (Ev_pos rfl (Ev.bind hr (Ev_pos (by decide) (Ev.now _)))), Ev.bind (impl_AreBoxes_ev xs) (Ev_pos hx (Ev_pos (decide_eq_true hl) (Ev.bind hf (Ev_neg (by decide) (Ev.now _)))))⟩
      · have hmem : ∀ m, Best (loadsM xs lim 7 xs.length []) m → m ∈ loadsM xs lim 7 xs.length [] := fun m ⟨pre, post, he, _⟩ => by rw [he]; simp
        have hge : ∀ m, Best (loadsM xs lim 7 xs.length []) m → ∀ x ∈ loadsM xs lim 7 xs.length [], usedM m ≤ usedM x := fun m ⟨pre, post, he, h1, h2⟩ x hx => by
          rw [he] at hx
          rcases List.mem_append.1 hx with hx | hx
          · have := h1 x hx; omega
          · rcases List.mem_cons.1 hx with hx | hx
            · rw [hx]; omega
            · exact h2 x hx
        have hveh := loads_veh xs lim (most := 7) (by omega) xs.length [] Veh.nil
        have hul := usedM_bound (hveh l (hmem l hb)).1
        rcases pick_all (loadsM xs lim 7 xs.length []) with ⟨hL, _⟩ | ⟨m, hm, hbm⟩
        · have := hmem l hb
          rw [hL] at this
          cases this
        · rw [hm] at hf
          have hmv := hveh m (hmem m hbm)
          have hu : usedM m = usedM l := by
            have h3 := hge m hbm l (hmem l hb)
            have h4 := hge l hb m (hmem m hbm)
            omega
          have hlm : m.length ≤ 7 := by have := hmv.2; simp at this; omega
          refine ⟨usedM l, 0, Ev.bind hc (Ev_pos rfl (Ev.bind hr (Ev_neg (by simp only; omega) (Ev.now _)))), Ev.bind (impl_AreBoxes_ev xs) (Ev_pos hx (Ev_pos (decide_eq_true hl) (Ev.bind hf (Ev_pos rfl (Ev.bind (impl_used_ev hmv.1 (by simp only; omega)) (Ev_some (by rw [hu])))))))⟩
    · have e : codeB xs lim = 2 := by unfold codeB; rw [if_pos hx, if_neg hl]
      have hc := l28Code_ev xs hn lim
      rw [e] at hc
      exact ⟨0, 2, Ev.bind hc (Ev_neg (by decide) (Ev.now _)), Ev.bind (impl_AreBoxes_ev xs) (Ev_pos hx (Ev_neg (by simpa using hl) (Ev.now _)))⟩
  · have e : codeB xs lim = 1 := by unfold codeB; rw [if_neg hx]
    have hc := l28Code_ev xs hn lim
    rw [e] at hc
    exact ⟨0, 1, Ev.bind hc (Ev_neg (by decide) (Ev.now _)), Ev.bind (impl_AreBoxes_ev xs) (Ev_neg hx (Ev.now _))⟩

theorem best_unique {L : List (List Int)} {l m : List Int} (h : Best L l) (k : Best L m) : l = m := by
  obtain ⟨p, q, e, h1, h2⟩ := h
  obtain ⟨p', q', e', k1, k2⟩ := k
  rw [e] at e'
  rcases List.append_eq_append_iff.1 e' with ⟨a, ha, hb⟩ | ⟨a, ha, hb⟩
  · cases a with
    | nil => rw [List.nil_append] at hb; exact (List.cons.inj hb).1
    | cons x a =>
      obtain ⟨hx, hq⟩ := List.cons.inj hb
      have g1 := k1 l (by rw [ha, hx]; simp)
      have g2 := h2 m (by rw [hq]; simp)
      omega
  · cases a with
    | nil => rw [List.nil_append] at hb; exact (List.cons.inj hb).1.symm
    | cons x a =>
      obtain ⟨hx, hq⟩ := List.cons.inj hb
      have g1 := h1 m (by rw [ha, hx]; simp)
      have g2 := k2 l (by rw [hq]; simp)
      omega
theorem firsts_tell (xs : List S55) (hn : xs.length ≤ 1000000) (lim : Int) : ∃ v n c, Ev (fun k => spec_FirstLoading.f k xs lim) (v, c) ∧ Ev (fun k => impl_FirstLoading.f k xs lim) (v, c) ∧ Ev (fun k => spec_FewestVehicles.f k xs lim) (n, c) ∧ Ev (fun k => impl_FewestVehicles.f k xs lim) (n, c) ∧ v.length ≤ 7 ∧ (c = 1 ↔ ¬ areBoxes xs = true) ∧ (c = 0 → areBoxes xs = true ∧ (1 ≤ lim ∧ lim ≤ 10000000) ∧ Best (loadsM xs lim 7 xs.length []) v ∧ n = usedM v) := by
  unfold spec_FirstLoading.f impl_FirstLoading.f spec_FewestVehicles.f impl_FewestVehicles.f
  rw [isLoadLimit_eq]
  simp only [Option.bind_some]
  by_cases hx : areBoxes xs = true
  · by_cases hl : 1 ≤ lim ∧ lim ≤ 10000000
    · have e : codeB xs lim = 0 := by unfold codeB; rw [if_pos hx, if_pos hl]
      have hc := l28Code_ev xs hn lim
      rw [e] at hc
      obtain ⟨r, hr, hcase⟩ := fewest_ev hx lim
      have hf := first_ev hx lim
      have hlen := ((areBoxes_iff xs).1 hx).1
      rcases hcase with ⟨hL, rfl⟩ | ⟨l, hb, rfl⟩
      · rw [hL] at hf
        exact ⟨[], 0, 4, Ev.bind hc (Ev_pos rfl (Ev.bind hr (Ev_pos (by decide) (Ev.now _)))), Ev.bind (impl_AreBoxes_ev xs) (Ev_pos hx (Ev_pos (decide_eq_true hl) (Ev.bind hf (Ev_neg (by decide) (Ev.now _))))),
          Ev.bind hc (Ev_pos rfl (Ev.bind hr (Ev_pos (by decide) (Ev.now _)))), Ev.bind (impl_AreBoxes_ev xs) (Ev_pos hx (Ev_pos (decide_eq_true hl) (Ev.bind hf (Ev_neg (by decide) (Ev.now _))))), by simp, ⟨fun h => absurd h (by decide), fun h => absurd hx h⟩, fun h => absurd h (by decide)⟩
      · have hmem : l ∈ loadsM xs lim 7 xs.length [] := by obtain ⟨pre, post, he, _⟩ := hb; rw [he]; simp
        have hveh := loads_veh xs lim (most := 7) (by omega) xs.length [] Veh.nil
        have hlv := hveh l hmem
        have hul := usedM_bound hlv.1
        rcases pick_all (loadsM xs lim 7 xs.length []) with ⟨hL, _⟩ | ⟨m, hm, hbm⟩
        · rw [hL] at hmem
          cases hmem
        · obtain rfl := best_unique hb hbm
          rw [hm] at hf
          have hlm : l.length ≤ 7 := by have := hlv.2; simp at this; omega
          exact ⟨l, usedM l, 0, Ev.bind hc (Ev_pos rfl (Ev.bind hr (Ev_neg (by simp only; omega) (Ev.now _)))), Ev.bind (impl_AreBoxes_ev xs) (Ev_pos hx (Ev_pos (decide_eq_true hl) (Ev.bind hf (Ev_pos rfl (Ev.now _))))),
            Ev.bind hc (Ev_pos rfl (Ev.bind hr (Ev_neg (by simp only; omega) (Ev.now _)))), Ev.bind (impl_AreBoxes_ev xs) (Ev_pos hx (Ev_pos (decide_eq_true hl) (Ev.bind hf (Ev_pos rfl (Ev.bind (impl_used_ev hlv.1 (by simp only; omega)) (Ev.now _)))))), hlm, ⟨fun h => absurd h (by decide), fun h => absurd hx h⟩, fun _ => ⟨hx, hl, hb, rfl⟩⟩
    · have e : codeB xs lim = 2 := by unfold codeB; rw [if_pos hx, if_neg hl]
      have hc := l28Code_ev xs hn lim
      rw [e] at hc
      exact ⟨[], 0, 2, Ev.bind hc (Ev_neg (by decide) (Ev.now _)), Ev.bind (impl_AreBoxes_ev xs) (Ev_pos hx (Ev_neg (by simpa using hl) (Ev.now _))), Ev.bind hc (Ev_neg (by decide) (Ev.now _)), Ev.bind (impl_AreBoxes_ev xs) (Ev_pos hx (Ev_neg (by simpa using hl) (Ev.now _))), by simp, ⟨fun h => absurd h (by decide), fun h => absurd hx h⟩, fun h => absurd h (by decide)⟩
  · have e : codeB xs lim = 1 := by unfold codeB; rw [if_neg hx]
    have hc := l28Code_ev xs hn lim
    rw [e] at hc
    exact ⟨[], 0, 1, Ev.bind hc (Ev_neg (by decide) (Ev.now _)), Ev.bind (impl_AreBoxes_ev xs) (Ev_neg hx (Ev.now _)), Ev.bind hc (Ev_neg (by decide) (Ev.now _)), Ev.bind (impl_AreBoxes_ev xs) (Ev_neg hx (Ev.now _)), by simp, ⟨fun _ => hx, fun _ => rfl⟩, fun h => absurd h (by decide)⟩

theorem rd_take {b : List Int} {m : Nat} {i : Int} (h0 : 0 ≤ i) (h1 : i < m) : rd (b.take m) i = rd b i := by
  simp only [rd, List.getD_eq_getElem?_getD]
  rw [List.getElem?_take_of_lt (by omega)]
theorem sumTo_take (xs : List S55) (b : List Int) (m : Nat) (u : Int) : ∀ i : Nat, i ≤ m → sumTo xs (b.take m) u i = sumTo xs b u i := by
  intro i
  induction i with
  | zero => intro _; rfl
  | succ i ih =>
    intro h
    simp only [sumTo]
    rw [ih (by omega), rd_take (by omega) (by omega)]
theorem sumTo_mono {xs : List S55} (hx : areBoxes xs = true) (b : List Int) (u : Int) (i : Nat) : ∀ j : Nat, i ≤ j → j ≤ xs.length → sumTo xs b u i ≤ sumTo xs b u j := by
  intro j
  induction j with
  | zero => intro h _; rw [show i = 0 by omega]; omega
  | succ j ih =>
    intro h h2
    by_cases hj : i = j + 1
    · rw [hj]; omega
    · have h3 := ih (by omega) (by omega)
      have h4 := box_grams hx (i := (j : Int)) (by omega) (by omega)
      simp only [sumTo]
      split <;> omega
theorem ok_iff_rides {xs : List S55} (hx : areBoxes xs = true) {lim : Int} {b : List Int} (hl : b.length ≤ xs.length) : OkAll xs lim b ↔ ∀ i : Int, 0 ≤ i → i < b.length → rideB xs lim (b.take (i + 1).toNat) = true := by
  have hr : ∀ i : Int, 0 ≤ i → i < b.length → (rideB xs lim (b.take (i + 1).toNat) = true ↔ RideP xs lim (b.take (i + 1).toNat) i) := fun i h0 h1 => by
    rw [rideB_iff]
    have : (((b.take (i + 1).toNat).length : Nat) : Int) - 1 = i := by rw [List.length_take]; omega
    rw [this]
  constructor
  · intro h i h0 h1
    refine (hr i h0 h1).2 ⟨fun j h2 h3 h4 => ?_, ?_⟩
    · rw [rd_take h2 (by omega), rd_take h0 (by omega)] at h4
      exact ((h i h0 h1).2 j h2 h3 h4.symm).symm
    · rw [rd_take h0 (by omega), sumTo_take xs b _ _ _ (by omega)]
      exact Int.le_trans (sumTo_mono hx b _ _ b.length (by omega) hl) (h i h0 h1).1
  · intro h
    have hm : ∀ m : Nat, m ≤ b.length → OkAll xs lim (b.take m) := by
      intro m
      induction m with
      | zero => intro _; rw [List.take_zero]; exact ok_nil xs lim
      | succ m ih =>
        intro h2
        have h3 := h (m : Int) (by omega) (by omega)
        rw [show ((m : Int) + 1).toNat = m + 1 by omega] at h3
        have e : b.take (m + 1) = b.take m ++ [b[m]'(by omega)] := by rw [List.take_succ_eq_append_getElem (by omega)]
        rw [e] at h3 ⊢
        rw [rideB_iff, last_of] at h3
        exact (ok_append (ih (by omega))).2 h3
    have := hm b.length (Nat.le_refl _)
    rw [List.take_length] at this
    exact this
theorem veh_iff {b : List Int} : Veh b ↔ ∀ i : Int, 0 ≤ i → i < b.length → 0 ≤ rd b i ∧ rd b i ≤ 6 := by
  constructor
  · intro h i h0 h1; exact h.at h0 h1
  · intro h v hv
    obtain ⟨j, hj⟩ := List.mem_iff_getElem?.1 hv
    obtain ⟨hl, he⟩ := List.getElem?_eq_some_iff.1 hj
    have := h (j : Int) (by omega) (by omega)
    rw [rd_getElem (by omega) (by omega)] at this
    have e : b[((j : Int)).toNat]'(by omega) = v := by rw [← he]; congr 1
    rw [e] at this
    exact this
instance instVeh (b : List Int) : Decidable (Veh b) := by unfold Veh; infer_instance
def codeN (xs : List S55) (lim : Int) (b : List Int) : Int := if codeB xs lim = 0 then (if Veh b ∧ b.length = xs.length then 0 else 2) else codeB xs lim
theorem l28Numbers_ev (xs : List S55) (hn : xs.length ≤ 1000000) (lim : Int) (b : List Int) (hb : b.length ≤ 1000000) : Ev (fun k => spec_l28Numbers.f k xs lim b) (codeN xs lim b) := by
  unfold spec_l28Numbers.f codeN
  refine Ev.bind (l28Code_ev xs hn lim) (Ev_ite (fun h => ?_) (fun h => by rw [if_neg h]; exact Ev.now _))
  rw [if_pos h]
  refine Ev_allK (F := fun k i => spec_l28Numbers.l0 k xs b i) (p := fun i => 0 ≤ rd b i ∧ rd b i ≤ 6) (n := b.length) (bad := 2) (fun i h0 h1 => ⟨fun hp hr => Ev_succ (by
    simp only [spec_l28Numbers.l0, l01In_eq, Option.bind_some, decide_eq_true_eq]
    rw [w64 (by omega) (by omega)]
    exact Ev_pos h1 (Ev_pos h0 (Ev_pos hp hr))), fun hp hr => Ev_succ (by
    simp only [spec_l28Numbers.l0, l01In_eq, Option.bind_some, decide_eq_true_eq]
    exact Ev_pos h1 (Ev_pos h0 (Ev_neg hp (Ev_some hr.symm))))⟩) b.length 0 (by omega) (by omega) (fun hno => if_neg (fun q => hno (veh_iff.1 q.1))) (fun hv => Ev_succ (by
    simp only [spec_l28Numbers.l0]
    refine Ev_neg (by omega) (Ev_ite (fun hc => ?_) (fun hc => ?_))
    · rw [if_pos ⟨veh_iff.2 hv, by omega⟩]; exact Ev.now _
    · rw [if_neg (fun q => hc (by omega))]; exact Ev.now _))
theorem areVehicles_ev (xs : List S55) (b : List Int) (hb : b.length ≤ 1000000) : Ev (fun k => impl_areVehicles.f k xs b) (decide (Veh b ∧ b.length = xs.length)) := by
  unfold impl_areVehicles.f
  have hall : Ev (fun k => impl_allWithin.f k b 0 6) (decide (Veh b)) := by
    unfold impl_allWithin.f
    refine Ev_allK (F := fun k i => impl_allWithin.l0 k 0 6 b (b.length : Int) i) (p := fun i => 0 ≤ rd b i ∧ rd b i ≤ 6) (n := b.length) (bad := false) (fun i h0 h1 => ⟨fun hp hr => Ev_succ (by
      simp only [impl_allWithin.l0, within_eq, Option.bind_some, decide_eq_true_eq]
      rw [w64 (by omega) (by omega)]
      exact Ev_pos h1 (Ev_pos h0 (Ev_pos h1 (Ev_pos hp hr)))), fun hp hr => Ev_succ (by
      simp only [impl_allWithin.l0, within_eq, Option.bind_some, decide_eq_true_eq]
      exact Ev_pos h1 (Ev_pos h0 (Ev_pos h1 (Ev_neg hp (Ev_some hr.symm)))))⟩) b.length 0 (by omega) (by omega) (fun hno => decide_eq_false (fun q => hno (veh_iff.1 q))) (fun hv => Ev_succ (by
      simp only [impl_allWithin.l0]
      exact Ev_neg (by omega) (Ev_some (decide_eq_true (veh_iff.2 hv)).symm)))
  refine Ev_ite (fun h => Ev.bind hall (Ev_some ?_)) (fun h => Ev_some (decide_eq_false (fun q => h (by omega))).symm)
  by_cases hv : Veh b
  · rw [decide_eq_true hv, decide_eq_true (show Veh b ∧ b.length = xs.length from ⟨hv, by omega⟩)]
  · rw [decide_eq_false hv, decide_eq_false (fun q => hv q.1)]
theorem impl_isLoading_ev {xs : List S55} (hx : areBoxes xs = true) (lim : Int) {b : List Int} (hl : b.length = xs.length) : Ev (fun k => impl_isLoading.f k xs lim b) (okB xs lim b) := by
  have hn := ((areBoxes_iff xs).1 hx).1
  have hiff := ok_iff_rides hx (lim := lim) (b := b) (by omega)
  unfold impl_isLoading.f
  refine Ev_allK (F := fun k i => impl_isLoading.l0 k xs lim b (b.length : Int) i) (p := fun i => rideB xs lim (b.take (i + 1).toNat) = true) (n := b.length) (bad := false) (fun i h0 h1 => ?_) b.length 0 (by omega) (by omega) (fun hno => ?_) (fun hv => Ev_succ (by
    simp only [impl_isLoading.l0]
    exact Ev_neg (by omega) (Ev_some (okB_iff.2 (hiff.2 hv)).symm)))
  · have hr := impl_mayRide_ev hx (lim := lim) (b := b.take (i + 1).toNat) (by rw [List.length_take]; omega) (by rw [List.length_take]; omega)
    refine ⟨fun hp he => Ev_succ (by
      simp only [impl_isLoading.l0]
      rw [w64 (by omega) (by omega)]
      exact Ev_pos h1 (Ev_pos (by omega) (Ev_pos (by omega) (Ev.bind hr (Ev_pos hp he))))), fun hp he => Ev_succ (by
      simp only [impl_isLoading.l0]
      rw [w64 (by omega) (by omega)]
      exact Ev_pos h1 (Ev_pos (by omega) (Ev_pos (by omega) (Ev.bind hr (Ev_neg hp (Ev_some he.symm))))))⟩
  · rw [Bool.eq_false_iff]
    exact fun h => hno (hiff.1 (okB_iff.1 h))
noncomputable def isLoadingM (xs : List S55) (lim : Int) (b : List Int) : Bool × Int := if codeN xs lim b = 0 then (okB xs lim b, 0) else (false, codeN xs lim b)
theorem codeN_0 {xs : List S55} {lim : Int} {b : List Int} (h : codeN xs lim b = 0) : codeB xs lim = 0 ∧ Veh b ∧ b.length = xs.length := by
  unfold codeN at h
  by_cases h1 : codeB xs lim = 0
  · rw [if_pos h1] at h
    by_cases h2 : Veh b ∧ b.length = xs.length
    · exact ⟨h1, h2⟩
    · rw [if_neg h2] at h; exact absurd h (by decide)
  · rw [if_neg h1] at h; exact absurd h h1
theorem spec_IsLoading_ev (xs : List S55) (hn : xs.length ≤ 1000000) (lim : Int) (b : List Int) (hb : b.length ≤ 1000000) : Ev (fun k => spec_IsLoading.f k xs lim b) (isLoadingM xs lim b) := by
  unfold spec_IsLoading.f isLoadingM
  refine Ev.bind (l28Numbers_ev xs hn lim b hb) (Ev_ite (fun h => ?_) (fun h => by rw [if_neg h]; exact Ev.now _))
  rw [if_pos h]
  obtain ⟨h1, h2, h3⟩ := codeN_0 h
  exact Ev.bind (l28Is_ev (codeB_0 h1).1 h2 (by omega)) (Ev.now _)
theorem impl_IsLoading_ev (xs : List S55) (lim : Int) (b : List Int) (hb : b.length ≤ 1000000) : Ev (fun k => impl_IsLoading.f k xs lim b) (isLoadingM xs lim b) := by
  unfold impl_IsLoading.f isLoadingM codeN codeB
  rw [isLoadLimit_eq]
  simp only [Option.bind_some]
  refine Ev.bind (impl_AreBoxes_ev xs) (Ev_ite (fun hx => ?_) (fun hx => ?_))
  · rw [if_pos hx]
    refine Ev_ite (fun hl => ?_) (fun hl => ?_)
    · rw [if_pos (of_decide_eq_true hl), if_pos rfl]
      refine Ev.bind (areVehicles_ev xs b hb) (Ev_ite (fun hv => ?_) (fun hv => ?_))
      · have hv' := of_decide_eq_true hv
        rw [if_pos hv', if_pos rfl]
        exact Ev.bind (impl_isLoading_ev hx lim hv'.2) (Ev.now _)
      · have hv' : ¬ (Veh b ∧ b.length = xs.length) := fun q => hv (decide_eq_true q)
        rw [if_neg hv', if_neg (by decide)]
        exact Ev.now _
    · have hl' : ¬ (1 ≤ lim ∧ lim ≤ 10000000) := fun q => hl (decide_eq_true q)
      rw [if_neg hl', if_neg (show ¬ ((2 : Int) = 0) by decide), if_neg (show ¬ ((2 : Int) = 0) by decide)]
      exact Ev.now _
  · rw [if_neg hx, if_neg (show ¬ ((1 : Int) = 0) by decide), if_neg (show ¬ ((1 : Int) = 0) by decide)]
    exact Ev.now _

/-- A loading begins with the numbers that it was made from, each new vehicle is the next, and all ride lawfully. -/
theorem loads_canon (xs : List S55) (lim : Int) {most : Int} (hm : 0 ≤ most ∧ most ≤ 7) : ∀ (d : Nat) (b : List Int), Veh b → OkAll xs lim b → ∀ l ∈ loadsM xs lim most d b, OkAll xs lim l ∧ l.take b.length = b ∧ l.length = b.length + d ∧ ∀ i : Nat, b.length ≤ i → i < l.length → rd l (i : Int) ≤ usedM (l.take i) := by
  intro d
  induction d with
  | zero =>
    intro b hb hok l hl
    simp [loadsM] at hl
    subst hl
    exact ⟨hok, List.take_length, rfl, fun i h1 h2 => by omega⟩
  | succ d ih =>
    intro b hb hok l hl
    have hub := usedM_bound hb
    unfold loadsM at hl
    have := foldU_ind (upd := fun s v => if rideB xs lim (b ++ [v]) = true then s ++ loadsM xs lim most d (b ++ [v]) else s) (n := min (usedM b + 1) most) (fun s _ => ∀ l ∈ s, OkAll xs lim l ∧ l.take b.length = b ∧ l.length = b.length + (d + 1) ∧ ∀ i : Nat, b.length ≤ i → i < l.length → rd l (i : Int) ≤ usedM (l.take i)) (fun s v h0 h1 hI l hl => by
      split at hl
      · rename_i hc
        rcases List.mem_append.1 hl with hl | hl
        · exact hI l hl
        · have hok2 : OkAll xs lim (b ++ [v]) := okB_iff.1 ((okB_append hok).trans hc)
          obtain ⟨g1, g2, g3, g4⟩ := ih (b ++ [v]) (hb.append (by omega)) hok2 l hl
          have hbl : (b ++ [v]).length = b.length + 1 := by rw [List.length_append]; rfl
          rw [hbl] at g2 g3 g4
          have ht : l.take b.length = b := by
            have := congrArg (List.take b.length) g2
            rw [List.take_take, show min b.length (b.length + 1) = b.length by omega, List.take_left] at this
            exact this
          refine ⟨g1, ht, by omega, fun i h2 h3 => ?_⟩
          by_cases hi : i = b.length
          · subst hi
            rw [ht, ← rd_take (b := l) (m := b.length + 1) (by omega) (by omega), g2, rd_last]
            omega
          · exact g4 i (by omega) h3
      · exact hI l hl) (min (usedM b + 1) most).toNat [] 0 (by omega) (by omega) (fun l hl => by cases hl)
    exact this l hl

/-- The source of the draws: the code's bytes, the place in it, the seed. -/
def Rd (c : List Int) (i seed : Int) : Prop := (∀ b ∈ c, 0 ≤ b ∧ b ≤ 255) ∧ c.length ≤ 4096 ∧ 0 ≤ i ∧ i ≤ c.length ∧ 0 ≤ seed ∧ seed < 2147483647
theorem rd_byte {c : List Int} (hc : ∀ b ∈ c, 0 ≤ b ∧ b ≤ 255) (i : Int) : 0 ≤ rd c i ∧ rd c i ≤ 255 := by
  unfold rd
  by_cases h : i.toNat < c.length
  · rw [List.getD_eq_getElem?_getD, List.getElem?_eq_getElem h]
    exact hc _ (List.getElem_mem h)
  · rw [List.getD_eq_getElem?_getD, List.getElem?_eq_none (by omega)]
    simp
theorem next_tells {c : List Int} {i seed : Int} (hr : Rd c i seed) (n : Int) (hn : n ≤ 4000000000000000000) : ∃ x i' s', spec_l01Next.f c i seed n = some (x, i', s') ∧ Rd c i' s' ∧ 0 ≤ x ∧ (1 ≤ n → x < n) := by
  obtain ⟨hc, hl, h0, h1, h2, h3⟩ := hr
  have e1 : wrap64 (wrap64 (seed * 48271) + 29) = seed * 48271 + 29 := by rw [w64 (x := seed * 48271) (by omega) (by omega), w64 (by omega) (by omega)]
  have e2 : Int.tmod (seed * 48271 + 29) 2147483647 = (seed * 48271 + 29) % 2147483647 := Int.tmod_eq_emod_of_nonneg (by omega)
  obtain ⟨s1, hs1⟩ : ∃ s1, s1 = (seed * 48271 + 29) % 2147483647 := ⟨_, rfl⟩
  have b0 : 0 ≤ s1 ∧ s1 < 2147483647 := by omega
  have e3 : wrap64 (Int.tdiv s1 31) = s1 / 31 := by
    rw [Int.tdiv_eq_ediv_of_nonneg b0.1]; exact w64 (by omega) (by omega)
  unfold spec_l01Next.f
  rw [e1, e2, ← hs1, e3]
  by_cases hn1 : n ≤ 1
  · rw [if_pos hn1]
    exact ⟨0, i, seed, rfl, ⟨hc, hl, h0, h1, h2, h3⟩, by omega, by omega⟩
  · rw [if_neg hn1]
    have hm : ∀ x : Int, 0 ≤ x → 0 ≤ Int.tmod x n ∧ Int.tmod x n < n := fun x hx => by
      rw [Int.tmod_eq_emod_of_nonneg hx]
      exact ⟨Int.emod_nonneg x (by omega), Int.emod_lt_of_pos x (by omega)⟩
    by_cases hi : i < (c.length : Int)
    · have hb := rd_byte hc i
      have w1 : wrap64 (i + 1) = i + 1 := w64 (by omega) (by omega)
      have w2 : wrap64 (i + 1 - 1) = i := by rw [w64 (by omega) (by omega)]; omega
      have w3 : wrap64 (rd c i) = rd c i := w64 (by omega) (by omega)
      have w4 : wrap64 (s1 / 31 + rd c i) = s1 / 31 + rd c i := w64 (by omega) (by omega)
      rw [if_pos hi, if_pos h0, w1, w2, w3, w4]
      have r1 := hm (rd c i) hb.1
      have r2 := hm (s1 / 31 + rd c i) (by omega)
      have hR : Rd c (i + 1) s1 := ⟨hc, hl, by omega, by omega, b0.1, b0.2⟩
      by_cases h256 : n ≤ 256
      · rw [if_pos h256]
        by_cases ht : Int.tmod (i + 1) 2 = 0
        · rw [if_pos ht, if_pos h0, if_pos hi, if_neg (by omega)]
          exact ⟨_, _, _, rfl, hR, r1.1, fun _ => r1.2⟩
        · rw [if_neg ht, if_neg (by omega)]
          exact ⟨_, _, _, rfl, hR, r2.1, fun _ => r2.2⟩
      · rw [if_neg h256, if_neg (by omega)]
        exact ⟨_, _, _, rfl, hR, r2.1, fun _ => r2.2⟩
    · have r3 := hm (s1 / 31) (by omega)
      rw [if_neg hi, if_neg (by omega)]
      exact ⟨_, _, _, rfl, ⟨hc, hl, h0, h1, b0.1, b0.2⟩, r3.1, fun _ => r3.2⟩
theorem from_tells (c : List Int) (hc : ∀ b ∈ c, 0 ≤ b ∧ b ≤ 255) (hl : c.length ≤ 4096) : ∃ seed, Ev (fun k => spec_l01From.f k c) (c, 0, seed) ∧ Rd c 0 seed := by
  have h := Ev_for (F := fun k s i => spec_l01From.l0 k c i c 0 s) (step := fun s i => if i < 64 then .inr ((s * 83 + rd c i) % 2147483647) else .inl (c, 0, s)) (out := fun s => (c, 0, s)) (n := c.length) (fun s i => 0 ≤ s ∧ s < 2147483647)
    (fun s hI => ⟨1, fun k hk => by
      obtain ⟨k, rfl⟩ : ∃ m, k = m + 1 := ⟨k - 1, by omega⟩
      simp only [spec_l01From.l0]
      rw [if_neg (by omega)]⟩)
    (fun s i h0 h1 hI => by
      have hb := rd_byte hc i
      by_cases h64 : i < 64
      · refine .inr ⟨_, if_pos h64, by omega, 0, fun k _ => ?_⟩
        simp only [spec_l01From.l0]
        rw [if_pos h1, if_pos h64, if_pos h0, w64 (x := i + 1) (by omega) (by omega), w64 (x := s * 83) (by omega) (by omega), w64 (x := rd c i) (by omega) (by omega), w64 (by omega) (by omega), Int.tmod_eq_emod_of_nonneg (by omega)]
      · refine .inl ⟨_, if_neg h64, 1, fun k hk => ?_⟩
        obtain ⟨k, rfl⟩ : ∃ m, k = m + 1 := ⟨k - 1, by omega⟩
        simp only [spec_l01From.l0]
        rw [if_pos h1, if_neg h64]) c.length 61043 0 (by omega) (by omega) (by omega)
  have h2 := forM_ind (step := fun s i => if i < 64 then .inr ((s * 83 + rd c i) % 2147483647) else .inl (c, 0, s)) (out := fun s => (c, (0 : Int), s)) (n := c.length) (fun s _ => 0 ≤ s ∧ s < 2147483647) (fun r => ∃ s, r = (c, (0 : Int), s) ∧ 0 ≤ s ∧ s < 2147483647) (fun s hI => ⟨s, rfl, hI⟩)
    (fun s i h0 h1 hI => ⟨fun r hr => by
        split at hr
        · cases hr
        · injection hr with hr
          exact ⟨s, hr.symm, hI⟩, fun s' hr => by
        split at hr
        · injection hr with hr
          omega
        · cases hr⟩) c.length 61043 0 (by omega) (by omega) (by omega)
  obtain ⟨s, hs, hb⟩ := h2
  refine ⟨s, ?_, hc, hl, by omega, by omega, hb.1, hb.2⟩
  rw [hs] at h
  exact h
/-- What a statement over a code knows of its bytes. -/
theorem bytes_of {c : List Int} (h : ∀ x ∈ c, (Lit.int .u8 x).wf = true) : ∀ b ∈ c, 0 ≤ b ∧ b ≤ 255 := fun b hb => by
  have h := h b hb
  simp [Lit.wf, IntKind.min, IntKind.max, IntKind.bits, IntKind.signed] at h
  omega
theorem big_eq (c : List Int) : laws_big.f c = some (decide (c.length > 4096)) := by
  unfold laws_big.f
  congr 1
  rw [decide_eq_decide]
  omega

theorem pick_tells {c : List Int} {i seed : Int} (hr : Rd c i seed) (l : List Int) (h0 : 0 < l.length) (hl : l.length ≤ 1000) : ∃ x i' s', spec_l01Pick.f c i seed l = some (x, i', s') ∧ Rd c i' s' ∧ x ∈ l := by
  obtain ⟨x, i', s', h1, h2, h3, h4⟩ := next_tells hr (l.length : Int) (by omega)
  have h4 := h4 (by omega)
  unfold spec_l01Pick.f
  rw [h1]
  simp only [Option.bind_some]
  rw [if_pos h3, if_pos h4]
  refine ⟨_, _, _, rfl, h2, ?_⟩
  unfold rd
  rw [List.getD_eq_getElem?_getD, List.getElem?_eq_getElem (show x.toNat < l.length by omega)]
  exact List.getElem_mem _

theorem good28_l0 (c : List Int) (d : Nat) : ∀ (xs : List S55) (n i seed : Int), Rd c i seed → n ≤ d → d ≤ 10 → xs.length + d ≤ 20 → ∃ ys i' s', Ev (fun k => spec_l28Good.l0 k xs n c i seed) (ys, i', s') ∧ Rd c i' s' ∧ ys.length ≤ 20 := by
  induction d with
  | zero =>
    intro xs n i seed hr hn hd hx
    refine ⟨xs, i, seed, Ev_succ (by simp only [spec_l28Good.l0]; exact Ev_neg (by omega) (Ev.now _)), hr, by omega⟩
  | succ d ih =>
    intro xs n i seed hr hn hd hx
    by_cases hp : n > 0
    · obtain ⟨x, i1, s1, e1, r1, _⟩ := next_tells hr 40 (by omega)
      obtain ⟨y, i2, s2, e2, r2, _⟩ := pick_tells r1 [0, 1, 2, 3, 0] (by simp) (by simp)
      obtain ⟨ys, i3, s3, h3, r3, hl⟩ := ih (xs ++ [⟨wrap64 (100 * (wrap64 (1 + x))), y⟩]) (n - 1) i2 s2 r2 (by omega) (by omega) (by simp; omega)
      refine ⟨ys, i3, s3, Ev_succ (by
        simp only [spec_l28Good.l0]
        refine Ev_pos hp (Ev_bindc e1 (Ev_bindc e2 (Ev_pos (by omega) ?_)))
        rw [w64 (x := n - 1) (by omega) (by omega)]
        exact h3), r3, hl⟩
    · exact ih xs n i seed hr (by omega) (by omega) (by omega)
theorem good28_tells {c : List Int} {i seed : Int} (hr : Rd c i seed) : ∃ ys i' s', Ev (fun k => spec_l28Good.f k c i seed) (ys, i', s') ∧ Rd c i' s' ∧ ys.length ≤ 20 := by
  obtain ⟨x1, i1, s1, e1, r1, h1, h2⟩ := next_tells hr 7 (by omega)
  obtain ⟨ys, i3, s3, h3, r3, hl⟩ := good28_l0 c 7 [] x1 i1 s1 r1 (by omega) (by omega) (by simp)
  refine ⟨ys, i3, s3, ?_, r3, hl⟩
  unfold spec_l28Good.f
  exact Ev_bindc e1 h3
theorem draw28_l0 (c : List Int) (d : Nat) : ∀ (xs : List S55) (i seed : Int), Rd c i seed → 21 - xs.length ≤ d → xs.length ≤ 21 → ∃ ys i' s', Ev (fun k => spec_l28Draw.l0 k xs c i seed) (ys, i', s') ∧ Rd c i' s' ∧ ys.length ≤ 21 := by
  induction d with
  | zero =>
    intro xs i seed hr hd hn
    obtain ⟨x1, i1, s1, e1, r1, h1, h2⟩ := next_tells hr 2 (by omega)
    refine ⟨xs, i1, s1, Ev_succ (by
      simp only [spec_l28Draw.l0]
      refine Ev_bindc e1 ?_
      rw [w64 (by omega) (by omega)]
      exact Ev_neg (by omega) (Ev.now _)), r1, hn⟩
  | succ d ih =>
    intro xs i seed hr hd hn
    obtain ⟨x1, i1, s1, e1, r1, h1, h2⟩ := next_tells hr 2 (by omega)
    by_cases hlt : (xs.length : Int) < 7 + x1
    · obtain ⟨ys, i3, s3, h3, r3, hl⟩ := ih (xs ++ [⟨900, 0⟩]) i1 s1 r1 (by simp; omega) (by simp; omega)
      refine ⟨ys, i3, s3, Ev_succ (by
        simp only [spec_l28Draw.l0]
        refine Ev_bindc e1 ?_
        rw [w64 (by omega) (by omega)]
        exact Ev_pos hlt (Ev_pos (by omega) h3)), r3, hl⟩
    · refine ⟨xs, i1, s1, Ev_succ (by
        simp only [spec_l28Draw.l0]
        refine Ev_bindc e1 ?_
        rw [w64 (by omega) (by omega)]
        exact Ev_neg hlt (Ev.now _)), r1, hn⟩
theorem draw28_tells {c : List Int} {i seed : Int} (hr : Rd c i seed) : ∃ ys i' s', Ev (fun k => spec_l28Draw.f k c i seed) (ys, i', s') ∧ Rd c i' s' ∧ ys.length ≤ 21 := by
  obtain ⟨xs, i1, s1, h1, r1, hl1⟩ := good28_tells hr
  obtain ⟨x2, i2, s2, e2, r2, _⟩ := next_tells r1 30 (by omega)
  unfold spec_l28Draw.f
  by_cases c0 : x2 = 0
  · obtain ⟨x3, i3, s3, e3, r3, _⟩ := pick_tells r2 [0, 1, 1000000, 1000001] (by simp) (by simp)
    obtain ⟨x4, i4, s4, e4, r4, _⟩ := next_tells r3 5 (by omega)
    exact ⟨_, i4, s4, Ev.bind h1 (Ev_bindc e2 (Ev_pos c0 (Ev_bindc e3 (Ev_bindc e4 (Ev_pos (by simp only; omega) (Ev.now _)))))), r4, by simp; omega⟩
  · by_cases c1 : x2 = 1
    · obtain ⟨ys, i4, s4, h4, r4, hl⟩ := draw28_l0 c 21 xs i2 s2 r2 (by omega) (by omega)
      exact ⟨ys, i4, s4, Ev.bind h1 (Ev_bindc e2 (Ev_neg c0 (Ev_pos c1 h4))), r4, hl⟩
    · exact ⟨xs, i2, s2, Ev.bind h1 (Ev_bindc e2 (Ev_neg c0 (Ev_neg c1 (Ev.now _)))), r2, by omega⟩
theorem limit28_tells {c : List Int} {i seed : Int} (hr : Rd c i seed) : ∃ x i' s', spec_l28Limit.f c i seed = some (x, i', s') ∧ Rd c i' s' := by
  obtain ⟨x1, i1, s1, e1, r1, _⟩ := next_tells hr 4000 (by omega)
  obtain ⟨x2, i2, s2, e2, r2, _⟩ := next_tells r1 3000 (by omega)
  obtain ⟨x3, i3, s3, e3, r3, _⟩ := pick_tells r2 [0, 1, 10000001] (by simp) (by simp)
  obtain ⟨x4, i4, s4, e4, r4, _⟩ := pick_tells r3 [wrap64 (3000 + x1), 4000, wrap64 (1000 + x2), 10000000, x3] (by simp) (by simp)
  refine ⟨x4, i4, s4, ?_, r4⟩
  unfold spec_l28Limit.f
  simp only [e1, e2, e3, e4, Option.bind_some]
theorem drawFew_tells (c : List Int) (hc : ∀ b ∈ c, 0 ≤ b ∧ b ≤ 255) (hl : c.length ≤ 4096) : ∃ xs lim, Ev (fun k => spec_DrawFewestVehicles.f k c) (xs, lim) ∧ xs.length ≤ 21 := by
  obtain ⟨seed, h0, r0⟩ := from_tells c hc hl
  obtain ⟨xs, i1, s1, h1, r1, hx⟩ := draw28_tells r0
  obtain ⟨x2, i2, s2, e2, r2⟩ := limit28_tells r1
  refine ⟨xs, x2, ?_, hx⟩
  unfold spec_DrawFewestVehicles.f
  refine Ev.bind h0 (Ev.bind h1 (Ev_bindc e2 (Ev.now _)))

theorem drawIs_l0 (c : List Int) (xs : List S55) (hn : xs.length ≤ 21) (lim : Int) (d : Nat) : ∀ (out : List Int) (j i seed : Int), Rd c i seed → 0 ≤ j → j + d = xs.length → (out.length : Int) ≤ j → ∃ zs, Ev (fun k => spec_DrawIsLoading.l0 k xs lim out j c i seed) (xs, lim, zs) ∧ zs.length ≤ 30 := by
  induction d with
  | zero =>
    intro out j i seed hr h0 hj ho
    obtain ⟨x1, i1, s1, e1, r1, _⟩ := next_tells hr 24 (by omega)
    by_cases hz : x1 = 0
    · obtain ⟨x2, i2, s2, e2, r2, _⟩ := pick_tells r1 [0, 7, -1] (by simp) (by simp)
      exact ⟨out ++ [x2], Ev_succ (by
        simp only [spec_DrawIsLoading.l0]
        exact Ev_neg (by omega) (Ev_bindc e1 (Ev_pos hz (Ev_bindc e2 (Ev_pos (by omega) (Ev.now _)))))), by simp; omega⟩
    · exact ⟨out, Ev_succ (by
        simp only [spec_DrawIsLoading.l0]
        exact Ev_neg (by omega) (Ev_bindc e1 (Ev_neg hz (Ev.now _)))), by omega⟩
  | succ d ih =>
    intro out j i seed hr h0 hj ho
    obtain ⟨x1, i1, s1, e1, r1, _⟩ := next_tells hr 7 (by omega)
    obtain ⟨x2, i2, s2, e2, r2, _⟩ := next_tells r1 3 (by omega)
    obtain ⟨x3, i3, s3, e3, r3, _⟩ := pick_tells r2 [x1, x2] (by simp) (by simp)
    obtain ⟨zs, h4, hz⟩ := ih (out ++ [x3]) (j + 1) i3 s3 r3 (by omega) (by omega) (by simp; omega)
    refine ⟨zs, Ev_succ (by
      simp only [spec_DrawIsLoading.l0]
      refine Ev_pos (by omega) (Ev_bindc e1 (Ev_bindc e2 (Ev_bindc e3 (Ev_pos (by omega) ?_))))
      rw [w64 (by omega) (by omega)]
      exact h4), hz⟩
theorem drawIs_tells (c : List Int) (hc : ∀ b ∈ c, 0 ≤ b ∧ b ≤ 255) (hl : c.length ≤ 4096) : ∃ xs lim zs, Ev (fun k => spec_DrawIsLoading.f k c) (xs, lim, zs) ∧ xs.length ≤ 21 ∧ zs.length ≤ 30 := by
  obtain ⟨seed, h0, r0⟩ := from_tells c hc hl
  obtain ⟨xs, i1, s1, h1, r1, hx⟩ := draw28_tells r0
  obtain ⟨x2, i2, s2, e2, r2⟩ := limit28_tells r1
  obtain ⟨v, n, cc, f1, _, _, _, hv, _⟩ := firsts_tell xs (by omega) x2
  unfold spec_DrawIsLoading.f
  by_cases hz : cc = 0
  · obtain ⟨x3, i3, s3, e3, r3, _⟩ := next_tells r2 2 (by omega)
    by_cases h3 : x3 = 0
    · refine ⟨xs, x2, v, Ev.bind h0 (Ev.bind h1 (Ev_bindc e2 (Ev.bind f1 (Ev_pos hz (Ev_bindc e3 ?_))))), hx, by omega⟩
      have hb : (x3 == 0) = true := by simp [h3]
      simp only [hb]
      exact Ev_succ (by simp only [spec_DrawIsLoading.j0, if_true]; exact Ev.now _)
    · obtain ⟨zs, h4, hzs⟩ := drawIs_l0 c xs hx x2 xs.length [] 0 i3 s3 r3 (by omega) (by omega) (by simp)
      refine ⟨xs, x2, zs, Ev.bind h0 (Ev.bind h1 (Ev_bindc e2 (Ev.bind f1 (Ev_pos hz (Ev_bindc e3 ?_))))), hx, hzs⟩
      have hb : (x3 == 0) = false := by simp [h3]
      simp only [hb]
      exact Ev_succ (by simp only [spec_DrawIsLoading.j0, Bool.false_eq_true, if_false]; exact h4)
  · obtain ⟨zs, h4, hzs⟩ := drawIs_l0 c xs hx x2 xs.length [] 0 i2 s2 r2 (by omega) (by omega) (by simp)
    exact ⟨xs, x2, zs, Ev.bind h0 (Ev.bind h1 (Ev_bindc e2 (Ev.bind f1 (Ev_neg hz (Ev_succ (by simp only [spec_DrawIsLoading.j0, Bool.false_eq_true, if_false]; exact h4)))))), hx, hzs⟩

theorem isMost_eq (a : Int) : impl_isMost.f a = some (decide (1 ≤ a ∧ a ≤ 7)) := by unfold impl_isMost.f; rw [within_eq]; rfl

noncomputable def countM (xs : List S55) (lim most : Int) : Int × Int := if codeB xs lim = 0 then (if 1 ≤ most ∧ most ≤ 7 then (((loadsM xs lim most xs.length []).length : Int), 0) else (0, 2)) else (0, codeB xs lim)
theorem impl_CountLoadings_ev (xs : List S55) (lim most : Int) : Ev (fun k => impl_CountLoadings.f k xs lim most) (countM xs lim most) := by
  unfold impl_CountLoadings.f countM
  refine Ev.bind (impl_AreBoxes_ev xs) (Ev_ite (fun hx => ?_) (fun hx => ?_))
  · rw [isLoadLimit_eq, isMost_eq]
    simp only [Option.bind_some, decide_eq_true_eq]
    refine Ev_ite (fun hl => ?_) (fun hl => ?_)
    · have e : codeB xs lim = 0 := by unfold codeB; rw [if_pos hx, if_pos hl]
      rw [if_pos e]
      refine Ev_ite (fun hm => ?_) (fun hm => by rw [if_neg hm]; exact Ev.now _)
      rw [if_pos hm]
      exact Ev.bind (impl_loads_ev hx lim (by omega) xs.length [] Veh.nil (by simp)) (Ev.now _)
    · have e : codeB xs lim = 2 := by unfold codeB; rw [if_pos hx, if_neg hl]
      rw [e, if_neg (by decide)]
      exact Ev.now _
  · have e : codeB xs lim = 1 := by unfold codeB; rw [if_neg hx]
    rw [e, if_neg (by decide)]
    exact Ev.now _

theorem likeInts_refl (l : List Int) (h : l.length ≤ 1000000) : Ev (fun k => laws_likeInts.f k l l) true := by
  unfold laws_likeInts.f
  refine Ev_pos rfl ?_
  exact Ev_allK (F := fun k i => laws_likeInts.l0 k l l i) (p := fun _ => True) (n := l.length) (bad := false) (fun i h0 h1 => ⟨fun _ hr => Ev_succ (by
    simp only [laws_likeInts.l0]
    refine Ev_pos h1 (Ev_pos h0 (Ev_pos h1 (Ev_pos trivial ?_)))
    rw [w64 (by omega) (by omega)]
    exact hr), fun hp => absurd trivial hp⟩) l.length 0 (by omega) (by omega) (fun hno => absurd (fun _ _ _ => trivial) hno) (fun _ => Ev_succ (by
    simp only [laws_likeInts.l0]
    exact Ev_neg (by omega) (Ev.now _)))

theorem loadings_loop (xs : List S55) (lim n : Int) (v : List Int) (hv : Veh v) (hl : v.length ≤ 7) (hcan : ∀ i : Nat, i < v.length → rd v (i : Int) ≤ usedM (v.take i)) (hend : Ev (fun k => laws_FnLoadings.j2 k xs lim n (usedM v != n)) true) : ∀ (d i : Nat), i + d = v.length → Ev (fun k => laws_FnLoadings.l0 k xs lim v n true 0 (usedM (v.take i)) (i : Int)) true := by
  intro d
  induction d with
  | zero =>
    intro i hi
    refine Ev_succ (by
      simp only [laws_FnLoadings.l0, if_true]
      refine Ev_neg (by omega) ?_
      rw [List.take_of_length_le (by omega)]
      exact hend)
  | succ d ih =>
    intro i hi
    have h2 := hv.at (i := (i : Int)) (by omega) (by omega)
    have h3 := ih (i + 1) (by omega)
    have ht : v.take (i + 1) = v.take i ++ [rd v (i : Int)] := by
      rw [List.take_succ_eq_append_getElem (show i < v.length by omega), rdNat i (by omega)]
    rw [ht, usedM_append] at h3
    refine Ev_succ (by
      simp only [laws_FnLoadings.l0]
      refine Ev_pos (by omega) (Ev_pos (by omega) (Ev_neg (by have := hcan i (by omega); omega) ?_))
      rw [w64 (x := rd v (i : Int) + 1) (by omega) (by omega), w64 (x := (i : Int) + 1) (by omega) (by omega), mx_eq]
      exact h3)
theorem FnLoadings : laws_FnLoadings.Pure := by
  intro c hn0 hn1 hw
  have hc := bytes_of hw
  refine Ev.rounds ?_
  unfold laws_FnLoadings.f
  rw [big_eq]
  simp only [Option.bind_some, decide_eq_true_eq]
  refine Ev_ite (fun _ => Ev.now _) (fun hb => ?_)
  have hl : c.length ≤ 4096 := by omega
  obtain ⟨xs, lim, h1, hx⟩ := drawFew_tells c hc hl
  obtain ⟨ys, lm, zs, h2, hy, hzs⟩ := drawIs_tells c hc hl
  obtain ⟨v, n, cc, f1, f2, f3, f4, hvl, hc1, hc0⟩ := firsts_tell xs (by omega) lim
  have hd : Ev (fun k => spec_DrawFirstLoading.f k c) (xs, lim) := by
    unfold spec_DrawFirstLoading.f
    exact Ev.bind h1 (Ev.now _)
  refine Ev.bind hd (Ev.bind f2 (Ev.bind f1 (Ev.bind f4 (Ev.bind f3 (Ev.bind h2 (Ev.bind (impl_IsLoading_ev ys lm zs (by omega)) (Ev.bind (spec_IsLoading_ev ys (by omega) lm zs (by omega)) ?_)))))))
  refine Ev_pos rfl (Ev.bind (likeInts_refl v (by omega)) (Ev_pos rfl (Ev_pos rfl (Ev_pos rfl (Ev_pos rfl (Ev_neg (by simp) (Ev_pos rfl (Ev.bind (impl_AreBoxes_ev xs) ?_))))))))
  have hfl : (areBoxes xs != (cc != 1)) = false := by
    by_cases h : areBoxes xs = true
    · have : ¬ cc = 1 := fun q => hc1.1 q h
      rw [h]; simp [this]
    · have h' : areBoxes xs = false := by simpa using h
      rw [h', hc1.2 h]; rfl
  simp only [hfl]
  refine Ev_succ (by
    simp only [laws_FnLoadings.j0, Bool.false_eq_true, if_false]
    refine Ev_ite (fun hz => ?_) (fun _ => Ev.now _)
    obtain ⟨hbx, hlim, hbest, hnu⟩ := hc0 hz
    have hbl := ((areBoxes_iff xs).1 hbx).1
    have hmem : v ∈ loadsM xs lim 7 xs.length [] := by obtain ⟨pre, post, he, _⟩ := hbest; rw [he]; simp
    have hge : ∀ x ∈ loadsM xs lim 7 xs.length [], usedM v ≤ usedM x := fun x hx => by
      obtain ⟨pre, post, he, g1, g2⟩ := hbest
      rw [he] at hx
      rcases List.mem_append.1 hx with hx | hx
      · have := g1 x hx; omega
      · rcases List.mem_cons.1 hx with hx | hx
        · rw [hx]; omega
        · exact g2 x hx
    obtain ⟨hok, _, hlen, hcan⟩ := loads_canon xs lim (most := 7) (by omega) xs.length [] Veh.nil (ok_nil xs lim) v hmem
    have hveh := (loads_veh xs lim (most := 7) (by omega) xs.length [] Veh.nil v hmem).1
    have hub := usedM_bound hveh
    have hcb : codeB xs lim = 0 := by unfold codeB; rw [if_pos hbx, if_pos hlim]
    have his : isLoadingM xs lim v = (true, 0) := by
      have : codeN xs lim v = 0 := by unfold codeN; rw [if_pos hcb, if_pos ⟨hveh, by simpa using hlen⟩]
      unfold isLoadingM
      rw [if_pos this, okB_iff.2 hok]
    have hi := impl_IsLoading_ev xs lim v (by omega)
    rw [his] at hi
    refine Ev.bind hi ?_
    have hend : Ev (fun k => laws_FnLoadings.j2 k xs lim n (usedM v != n)) true := by
      have : (usedM v != n) = false := by rw [hnu]; exact bne_self_eq_false _
      rw [this]
      refine Ev_succ (by
        simp only [laws_FnLoadings.j2, Bool.false_eq_true, if_false]
        refine Ev_ite (fun _ => Ev.now _) (fun h2 => ?_)
        rw [w64 (x := n - 1) (by omega) (by omega)]
        have g1 : countM xs lim (n - 1) = (0, 0) := by
          unfold countM
          rw [if_pos hcb, if_pos (by omega), loads_filter xs lim (m := n - 1) (by omega) xs.length [] Veh.nil (by simp [usedM]; omega), filter_none (fun x hx => by
            have := hge x hx
            simp only [decide_eq_false_iff_not]
            omega)]
          rfl
        have g2 : ∃ m : Nat, countM xs lim n = ((m : Int) + 1, 0) := by
          unfold countM
          rw [if_pos hcb, if_pos (by omega), loads_filter xs lim (m := n) (by omega) xs.length [] Veh.nil (by simp [usedM]; omega)]
          have hin : v ∈ (loadsM xs lim 7 xs.length []).filter fun l => decide (usedM l ≤ n) := List.mem_filter.2 ⟨hmem, decide_eq_true (by omega)⟩
          have hpos := List.length_pos_of_mem hin
          exact ⟨((loadsM xs lim 7 xs.length []).filter fun l => decide (usedM l ≤ n)).length - 1, by congr 1; omega⟩
        obtain ⟨m, g2⟩ := g2
        have e1 := impl_CountLoadings_ev xs lim (n - 1)
        have e2 := impl_CountLoadings_ev xs lim n
        rw [g1] at e1
        rw [g2] at e2
        exact Ev.bind e1 (Ev.bind e2 (Ev_pos rfl (Ev_pos rfl (Ev_pos rfl (Ev_some (decide_eq_true (by simp only; omega))))))))
    exact loadings_loop xs lim n v hveh hvl (fun i h => hcan i (by simp) h) hend v.length 0 (by omega))



end Go.Proofs.Ytjnfimhckeihhaa.Pure
