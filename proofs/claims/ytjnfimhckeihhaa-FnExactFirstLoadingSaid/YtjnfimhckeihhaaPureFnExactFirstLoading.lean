/- The statement over numbers and lists for FnExactFirstLoading: the reference and the program answer alike for all arguments. -/
import Derived.Test.YtjnfimhckeihhaaXFnExactFirstLoading
set_option linter.unusedVariables false
set_option linter.unusedSimpArgs false
namespace Go.Proofs.Ytjnfimhckeihhaa.Pure
open Go.RowKit Go.Proofs.Ytjnfimhckeihhaa.PFnExactFirstLoading Go.Proofs.YtjnfimhckeihhaaW.PrintWords Go.Proofs.YtjnfimhckeihhaaW.PrintLast Go.Proofs.YtjnfimhckeihhaaW.PrintMore
open Go.Proofs.YtjnfimhckeihhaaX

theorem w64 {x : Int} (h0 : -9223372036854775808 ≤ x) (h1 : x ≤ 9223372036854775807) : wrap64 x = x := by unfold wrap64; omega
theorem Ev_ite {α : Type} {c : Prop} [Decidable c] {g h : Nat → Option α} {r : α} (h1 : c → Ev g r) (h2 : ¬ c → Ev h r) : Ev (fun k => if c then g k else h k) r := by
  by_cases hc : c
  · obtain ⟨K, hK⟩ := h1 hc
    exact ⟨K, fun k hk => (if_pos hc).trans (hK k hk)⟩
  · obtain ⟨K, hK⟩ := h2 hc
    exact ⟨K, fun k hk => (if_neg hc).trans (hK k hk)⟩
theorem Ev_pos {α : Type} {c : Prop} [Decidable c] {g h : Nat → Option α} {r : α} (hc : c) (h1 : Ev g r) : Ev (fun k => if c then g k else h k) r := Ev_ite (fun _ => h1) (fun n => absurd hc n)
theorem Ev_neg {α : Type} {c : Prop} [Decidable c] {g h : Nat → Option α} {r : α} (hc : ¬ c) (h1 : Ev h r) : Ev (fun k => if c then g k else h k) r := Ev_ite (fun n => absurd n hc) (fun _ => h1)
theorem Ev_some {α : Type} {r q : α} (h : r = q) : Ev (fun _ => some r) q := h ▸ Ev.now r
theorem Ev_eq {α : Type} {g : Nat → Option α} {r q : α} (h : r = q) (k : Ev g r) : Ev g q := h ▸ k
theorem Ev_const {α : Type} {o : Option α} {r : α} (h : o = some r) : Ev (fun _ => o) r := by subst h; exact Ev.now r
theorem Ev_bindc {α β : Type} {o : Option α} {f : Nat → α → Option β} {a : α} {r : β} (h : o = some a) (k : Ev (fun n => f n a) r) : Ev (fun n => o.bind (f n)) r := by subst h; exact k
theorem Ev_unique {α : Type} {g : Nat → Option α} {r q : α} (h : Ev g r) (k : Ev g q) : r = q := by
  obtain ⟨K, h⟩ := h
  obtain ⟨L, k⟩ := k
  have h1 := h (max K L) (by omega)
  have h2 := k (max K L) (by omega)
  rw [h1] at h2
  exact Option.some.inj h2
theorem lit64 {x : Int} (h : (Lit.int .i64 x).wf = true) : -9223372036854775808 ≤ x ∧ x ≤ 9223372036854775807 := by
  have h := h
  simp [Lit.wf, IntKind.min, IntKind.max, IntKind.bits, IntKind.signed] at h
  omega
theorem mn_eq (a b : Int) : mn a b = min a b := by unfold mn; omega
theorem mx_eq (a b : Int) : mx a b = max a b := by unfold mx; omega

/-- A loop over the numbers 0 to n - 1: d rounds from i on. -/
def forM {S ρ : Type} (step : S → Int → ρ ⊕ S) (out : S → ρ) : Nat → S → Int → ρ
  | 0, s, _ => out s
  | d + 1, s, i => match step s i with
    | .inl r => r
    | .inr s' => forM step out d s' (i + 1)
theorem Ev_for {S ρ : Type} {F : Nat → S → Int → Option ρ} {step : S → Int → ρ ⊕ S} {out : S → ρ} {n : Nat} (Inv : S → Int → Prop)
    (hend : ∀ s, Inv s n → ∃ K, ∀ k, K ≤ k → F k s n = some (out s))
    (hstep : ∀ (s : S) (i : Int), 0 ≤ i → i < n → Inv s i → (∃ r, step s i = .inl r ∧ ∃ K, ∀ k, K ≤ k → F k s i = some r) ∨ (∃ s', step s i = .inr s' ∧ Inv s' (i + 1) ∧ ∃ K, ∀ k, K ≤ k → F (k + 1) s i = F k s' (i + 1))) :
    ∀ (d : Nat) (s : S) (i : Int), 0 ≤ i → i + d = n → Inv s i → Ev (fun k => F k s i) (forM step out d s i) := by
  intro d
  induction d with
  | zero =>
    intro s i h0 h1 hI
    obtain rfl : i = n := by omega
    exact hend s hI
  | succ d ih =>
    intro s i h0 h1 hI
    rcases hstep s i h0 (by omega) hI with ⟨r, hr, hK⟩ | ⟨s', hs, hI', K, hK⟩
    · simp only [forM, hr]
      exact hK
    · simp only [forM, hs]
      obtain ⟨K', h⟩ := ih s' (i + 1) (by omega) (by omega) hI'
      refine ⟨K + K' + 1, fun k hk => ?_⟩
      obtain ⟨k, rfl⟩ : ∃ m, k = m + 1 := ⟨k - 1, by omega⟩
      exact (hK k (by omega)).trans (h k (by omega))
/-- What holds at the end of a loop. -/
theorem forM_ind {S ρ : Type} {step : S → Int → ρ ⊕ S} {out : S → ρ} {n : Nat} (Inv : S → Int → Prop) (Post : ρ → Prop) (hend : ∀ s, Inv s n → Post (out s))
    (hstep : ∀ (s : S) (i : Int), 0 ≤ i → i < n → Inv s i → (∀ r, step s i = .inl r → Post r) ∧ ∀ s', step s i = .inr s' → Inv s' (i + 1)) : ∀ (d : Nat) (s : S) (i : Int), 0 ≤ i → i + d = n → Inv s i → Post (forM step out d s i) := by
  intro d
  induction d with
  | zero =>
    intro s i h0 h1 hI
    obtain rfl : i = n := by omega
    exact hend s hI
  | succ d ih =>
    intro s i h0 h1 hI
    obtain ⟨h2, h3⟩ := hstep s i h0 (by omega) hI
    simp only [forM]
    cases hs : step s i with
    | inl r => exact h2 r hs
    | inr s' => exact ih s' (i + 1) (by omega) (by omega) (h3 s' hs)

theorem Ev_succ {α : Type} {g : Nat → Option α} {r : α} (h : Ev (fun k => g (k + 1)) r) : Ev g r := Ev.step (fun _ => rfl) h
theorem Ev_for2 {S ρ : Type} {F : Nat → S → Int → Option ρ} {step : S → Int → ρ ⊕ S} {out : S → ρ} {n : Nat} (Inv : S → Int → Prop)
    (hend : ∀ s, Inv s n → Ev (fun k => F k s n) (out s))
    (hstep : ∀ (s : S) (i : Int), 0 ≤ i → i < n → Inv s i → (∃ r, step s i = .inl r ∧ Ev (fun k => F k s i) r) ∨ (∃ s', step s i = .inr s' ∧ Inv s' (i + 1) ∧ ∀ r, Ev (fun k => F k s' (i + 1)) r → Ev (fun k => F k s i) r)) :
    ∀ (d : Nat) (s : S) (i : Int), 0 ≤ i → i + d = n → Inv s i → Ev (fun k => F k s i) (forM step out d s i) := by
  intro d
  induction d with
  | zero =>
    intro s i h0 h1 hI
    obtain rfl : i = n := by omega
    exact hend s hI
  | succ d ih =>
    intro s i h0 h1 hI
    rcases hstep s i h0 (by omega) hI with ⟨r, hr, hK⟩ | ⟨s', hs, hI', hK⟩
    · simp only [forM, hr]
      exact hK
    · simp only [forM, hs]
      exact hK _ (ih s' (i + 1) (by omega) (by omega) hI')
/-- A loop over a list that only gathers: a fold. -/
theorem forM_fold {S ρ α : Type} (xs : List α) (rdx : Int → α) (hrd : ∀ (j : Nat) (h : j < xs.length), rdx j = xs[j]) (upd : S → α → S) (out : S → ρ) (d : Nat) : ∀ (s : S) (i : Nat), i + d = xs.length →
    forM (ρ := ρ) (fun s i => .inr (upd s (rdx i))) out d s i = out ((xs.drop i).foldl upd s) := by
  induction d with
  | zero =>
    intro s i hi
    rw [List.drop_eq_nil_of_le (by omega)]
    rfl
  | succ d ih =>
    intro s i hi
    rw [List.drop_eq_getElem_cons (show i < xs.length by omega)]
    simp only [forM, List.foldl_cons]
    have := ih (upd s (rdx i)) (i + 1) (by omega)
    rw [← hrd i (by omega)]
    exact this
theorem forM_fold0 {S ρ α : Type} (xs : List α) (rdx : Int → α) (hrd : ∀ (j : Nat) (h : j < xs.length), rdx j = xs[j]) (upd : S → α → S) (out : S → ρ) (s : S) :
    forM (ρ := ρ) (fun s i => .inr (upd s (rdx i))) out xs.length s 0 = out (xs.foldl upd s) := by
  have := forM_fold xs rdx hrd upd out xs.length s 0 (by omega)
  rw [List.drop_zero] at this
  exact this
/-- A loop that looks at each place, and stops at the first that fails. -/
theorem forM_all {p : Int → Bool} {b : Bool} {n : Nat} (d : Nat) : ∀ i : Int, 0 ≤ i → i + d = n → (forM (S := Unit) (ρ := Bool) (fun _ i => if p i = true then .inr () else .inl false) (fun _ => b) d () i = true ↔ b = true ∧ ∀ j : Int, i ≤ j → j < n → p j = true) := by
  induction d with
  | zero =>
    intro i h0 hi
    simp only [forM]
    exact ⟨fun h => ⟨h, fun j h1 h2 => by omega⟩, fun h => h.1⟩
  | succ d ih =>
    intro i h0 hi
    simp only [forM]
    by_cases hp : p i = true
    · rw [if_pos hp]
      refine (ih (i + 1) (by omega) (by omega)).trans ⟨fun h => ⟨h.1, fun j h1 h2 => ?_⟩, fun h => ⟨h.1, fun j h1 h2 => h.2 j (by omega) h2⟩⟩
      by_cases hj : j = i
      · rw [hj]; exact hp
      · exact h.2 j (by omega) h2
    · rw [if_neg hp]
      exact ⟨(fun h => by cases h), fun h => absurd (h.2 i (Int.le_refl _) (by omega)) hp⟩

theorem within_eq (a lo hi : Int) : impl_within.f a lo hi = some (decide (lo ≤ a ∧ a ≤ hi)) := by
  unfold impl_within.f
  by_cases h : lo ≤ a <;> simp [h]

theorem l01In_eq (a lo hi : Int) : spec_l01In.f a lo hi = some (decide (lo ≤ a ∧ a ≤ hi)) := by
  unfold spec_l01In.f
  by_cases h : a ≥ lo
  · have : lo ≤ a := h
    simp [this]
  · have : ¬ lo ≤ a := h
    simp [this]

theorem rdBox {xs : List S55} {i : Int} (h0 : 0 ≤ i) (h1 : i < xs.length) : rd_T55 xs i = xs[i.toNat]'(by omega) := by
  simp [rd_T55, List.getD_eq_getElem?_getD, List.getElem?_eq_getElem (show i.toNat < xs.length by omega)]
def okBox (xs : List S55) (i : Int) : Bool := decide ((1 ≤ (rd_T55 xs i).f0 ∧ (rd_T55 xs i).f0 ≤ 1000000) ∧ 0 ≤ (rd_T55 xs i).f1 ∧ (rd_T55 xs i).f1 ≤ 3)
def areBoxes (xs : List S55) : Bool := forM (S := Unit) (fun _ i => if okBox xs i = true then .inr () else .inl false) (fun _ => decide (xs.length ≤ 7)) xs.length () 0
theorem areBoxes_iff (xs : List S55) : areBoxes xs = true ↔ xs.length ≤ 7 ∧ ∀ i : Int, 0 ≤ i → i < xs.length → okBox xs i = true := by
  unfold areBoxes
  refine (forM_all (p := okBox xs) (n := xs.length) xs.length 0 (by omega) (by omega)).trans ?_
  rw [decide_eq_true_eq]
theorem spec_AreBoxes_ev (xs : List S55) (hn : xs.length ≤ 1000000) : Ev (fun k => spec_AreBoxes.f k xs) (areBoxes xs) := by
  unfold spec_AreBoxes.f
  refine Ev_for2 (F := fun k (_ : Unit) i => spec_AreBoxes.l0 k xs i) (n := xs.length) (fun _ _ => True)
    (fun s hI => Ev_succ (by
      simp only [spec_AreBoxes.l0]
      refine Ev_neg (by omega) (Ev_some ?_)
      rw [decide_eq_decide]
      omega))
    (fun s i h0 h1 hI => ?_) xs.length () 0 (by omega) (by omega) trivial
  by_cases hok : okBox xs i = true
  · have hk := of_decide_eq_true hok
    refine .inr ⟨(), if_pos hok, trivial, fun r hr => Ev_succ (by
      simp only [spec_AreBoxes.l0, l01In_eq, Option.bind_some, decide_eq_true_eq]
      refine Ev_pos h1 (Ev_pos h0 (Ev_pos hk.1 (Ev_pos hk.2 ?_)))
      rw [w64 (by omega) (by omega)]
      exact hr)⟩
  · refine .inl ⟨false, if_neg hok, Ev_succ (by
      simp only [spec_AreBoxes.l0, l01In_eq, Option.bind_some, decide_eq_true_eq]
      refine Ev_pos h1 (Ev_pos h0 (Ev_ite (fun ha => ?_) (fun ha => Ev.now _)))
      exact Ev_neg (fun hb => hok (decide_eq_true ⟨ha, hb⟩)) (Ev.now _))⟩
theorem impl_AreBoxes_ev (xs : List S55) : Ev (fun k => impl_AreBoxes.f k xs) (areBoxes xs) := by
  unfold impl_AreBoxes.f
  refine Ev_ite (fun h => Ev_some ?_) (fun h => ?_)
  · symm
    rw [Bool.eq_false_iff]
    exact fun h2 => by have := ((areBoxes_iff xs).1 h2).1; omega
  · unfold areBoxes
    rw [decide_eq_true (show xs.length ≤ 7 by omega)]
    refine Ev_for2 (F := fun k (_ : Unit) i => impl_AreBoxes.l0 k xs (xs.length : Int) i) (n := xs.length) (fun _ _ => True)
      (fun s hI => Ev_succ (by
        simp only [impl_AreBoxes.l0]
        exact Ev_neg (by omega) (Ev.now _)))
      (fun s i h0 h1 hI => ?_) xs.length () 0 (by omega) (by omega) trivial
    by_cases hok : okBox xs i = true
    · have hk := of_decide_eq_true hok
      refine .inr ⟨(), if_pos hok, trivial, fun r hr => Ev_succ (by
        simp only [impl_AreBoxes.l0, within_eq, Option.bind_some, decide_eq_true_eq]
        refine Ev_pos h1 (Ev_pos h0 (Ev_pos h1 (Ev_pos hk.1 (Ev_pos hk.2 ?_))))
        rw [w64 (by omega) (by omega)]
        exact hr)⟩
    · refine .inl ⟨false, if_neg hok, Ev_succ (by
        simp only [impl_AreBoxes.l0, within_eq, Option.bind_some, decide_eq_true_eq]
        refine Ev_pos h1 (Ev_pos h0 (Ev_pos h1 (Ev_ite (fun ha => ?_) (fun ha => Ev.now _))))
        exact Ev_neg (fun hb => hok (decide_eq_true ⟨ha, hb⟩)) (Ev.now _))⟩

/-- A loop that never stops before its end. -/
def foldU {S : Type} (upd : S → Int → S) : Nat → S → Int → S
  | 0, s, _ => s
  | d + 1, s, i => foldU upd d (upd s i) (i + 1)
theorem foldU_ind {S : Type} {upd : S → Int → S} {n : Int} (Inv : S → Int → Prop) (hstep : ∀ (s : S) (i : Int), 0 ≤ i → i < n → Inv s i → Inv (upd s i) (i + 1)) : ∀ (d : Nat) (s : S) (i : Int), 0 ≤ i → i + d = n → Inv s i → Inv (foldU upd d s i) n := by
  intro d
  induction d with
  | zero => intro s i h0 h1 hI; obtain rfl : i = n := by omega
            exact hI
  | succ d ih => intro s i h0 h1 hI; exact ih _ _ (by omega) (by omega) (hstep s i h0 (by omega) hI)
theorem Ev_forK {S τ : Type} {F : Nat → S → Int → Option τ} {upd : S → Int → S} {n : Int} {r : τ} (Inv : S → Int → Prop)
    (hstep : ∀ (s : S) (i : Int), 0 ≤ i → i < n → Inv s i → Inv (upd s i) (i + 1) ∧ (Ev (fun k => F k (upd s i) (i + 1)) r → Ev (fun k => F k s i) r)) :
    ∀ (d : Nat) (s : S) (i : Int), 0 ≤ i → i + d = n → Inv s i → (Inv (foldU upd d s i) n → Ev (fun k => F k (foldU upd d s i) n) r) → Ev (fun k => F k s i) r := by
  intro d
  induction d with
  | zero => intro s i h0 h1 hI h; obtain rfl : i = n := by omega
            exact h hI
  | succ d ih =>
    intro s i h0 h1 hI h
    obtain ⟨h2, h3⟩ := hstep s i h0 (by omega) hI
    exact h3 (ih _ _ (by omega) (by omega) h2 h)

theorem Ev_allK {τ : Type} {F : Nat → Int → Option τ} {p : Int → Prop} {n : Int} {r bad : τ}
    (hstep : ∀ i : Int, 0 ≤ i → i < n → (p i → Ev (fun k => F k (i + 1)) r → Ev (fun k => F k i) r) ∧ (¬ p i → r = bad → Ev (fun k => F k i) r)) :
    ∀ (d : Nat) (i : Int), 0 ≤ i → i + d = n → (¬ (∀ j : Int, i ≤ j → j < n → p j) → r = bad) → ((∀ j : Int, i ≤ j → j < n → p j) → Ev (fun k => F k n) r) → Ev (fun k => F k i) r := by
  intro d
  induction d with
  | zero => intro i h0 h1 _ h; obtain rfl : i = n := by omega
            exact h (fun j h2 h3 => by omega)
  | succ d ih =>
    intro i h0 h1 hb hg
    obtain ⟨h2, h3⟩ := hstep i h0 (by omega)
    by_cases hp : p i
    · refine h2 hp (ih (i + 1) (by omega) (by omega) (fun h => hb (fun q => h (fun j h4 h5 => q j (by omega) h5))) (fun h => hg (fun j h4 h5 => ?_)))
      by_cases hj : j = i
      · rw [hj]; exact hp
      · exact h j (by omega) h5
    · exact h3 hp (hb (fun q => hp (q i (Int.le_refl _) (by omega))))

def lone (xs : List S55) (i : Int) : Bool := ((rd_T55 xs i).f1 == 3)
/-- The grams in a vehicle, of the first boxes. -/
def sumTo (xs : List S55) (b : List Int) (u : Int) : Nat → Int
  | 0 => 0
  | i + 1 => sumTo xs b u i + if rd b (i : Int) = u then (rd_T55 xs (i : Int)).f0 else 0
/-- Numbers of vehicles. -/
def Veh (b : List Int) : Prop := ∀ v ∈ b, 0 ≤ v ∧ v ≤ 6
theorem rd_getElem {b : List Int} {i : Int} (h0 : 0 ≤ i) (h1 : i < b.length) : rd b i = b[i.toNat]'(by omega) := by
  simp [rd, List.getD_eq_getElem?_getD, List.getElem?_eq_getElem (show i.toNat < b.length by omega)]
theorem Veh.at {b : List Int} (h : Veh b) {i : Int} (h0 : 0 ≤ i) (h1 : i < b.length) : 0 ≤ rd b i ∧ rd b i ≤ 6 := by
  rw [rd_getElem h0 h1]
  exact h _ (List.getElem_mem _)
theorem box_grams {xs : List S55} (hx : areBoxes xs = true) {i : Int} (h0 : 0 ≤ i) (h1 : i < xs.length) : 1 ≤ (rd_T55 xs i).f0 ∧ (rd_T55 xs i).f0 ≤ 1000000 := (of_decide_eq_true (((areBoxes_iff xs).1 hx).2 i h0 h1)).1
theorem sumTo_bound {xs : List S55} (hx : areBoxes xs = true) (b : List Int) (u : Int) : ∀ i : Nat, i ≤ xs.length → 0 ≤ sumTo xs b u i ∧ sumTo xs b u i ≤ 1000000 * (i : Int) := by
  intro i
  induction i with
  | zero => intro _; simp [sumTo]
  | succ i ih =>
    intro h
    have h2 := ih (by omega)
    have h3 := box_grams hx (i := (i : Int)) (by omega) (by omega)
    simp only [sumTo]
    split <;> omega
/-- The last of some boxes may ride with those before it. -/
def RideP (xs : List S55) (lim : Int) (b : List Int) (l : Int) : Prop := (∀ i : Int, 0 ≤ i → i < l → rd b i = rd b l → lone xs i = lone xs l) ∧ sumTo xs b (rd b l) (l.toNat + 1) ≤ lim
/-- All ride lawfully. -/
def OkAll (xs : List S55) (lim : Int) (b : List Int) : Prop := ∀ i : Int, 0 ≤ i → i < b.length → sumTo xs b (rd b i) b.length ≤ lim ∧ ∀ j : Int, 0 ≤ j → j < i → rd b i = rd b j → lone xs i = lone xs j
noncomputable def rideB (xs : List S55) (lim : Int) (b : List Int) : Bool := open Classical in decide (RideP xs lim b ((b.length : Int) - 1))
noncomputable def okB (xs : List S55) (lim : Int) (b : List Int) : Bool := open Classical in decide (OkAll xs lim b)
theorem rideB_iff {xs : List S55} {lim : Int} {b : List Int} : rideB xs lim b = true ↔ RideP xs lim b ((b.length : Int) - 1) := by unfold rideB; exact @decide_eq_true_iff _ (Classical.propDecidable _)
theorem okB_iff {xs : List S55} {lim : Int} {b : List Int} : okB xs lim b = true ↔ OkAll xs lim b := by unfold okB; exact @decide_eq_true_iff _ (Classical.propDecidable _)
theorem toNat_succ {i : Int} (h : 0 ≤ i) : (i + 1).toNat = i.toNat + 1 := by omega

theorem rd_append {b : List Int} {v i : Int} (h0 : 0 ≤ i) (h1 : i < b.length) : rd (b ++ [v]) i = rd b i := by
  simp only [rd, List.getD_eq_getElem?_getD]
  rw [List.getElem?_append_left (by omega)]
theorem rd_last (b : List Int) (v : Int) : rd (b ++ [v]) (b.length : Int) = v := by
  simp [rd]
theorem sumTo_append (xs : List S55) (b : List Int) (v u : Int) : ∀ i : Nat, i ≤ b.length → sumTo xs (b ++ [v]) u i = sumTo xs b u i := by
  intro i
  induction i with
  | zero => intro _; rfl
  | succ i ih =>
    intro h
    simp only [sumTo]
    rw [ih (by omega), rd_append (by omega) (by omega)]
theorem sumTo_full {xs : List S55} {b : List Int} {v u : Int} : sumTo xs (b ++ [v]) u (b ++ [v]).length = sumTo xs b u b.length + if v = u then (rd_T55 xs (b.length : Int)).f0 else 0 := by
  rw [List.length_append]
  simp only [List.length_singleton, sumTo]
  rw [sumTo_append xs b v u _ (Nat.le_refl _), rd_last]
theorem last_of {b : List Int} {v : Int} : (((b ++ [v]).length : Nat) : Int) - 1 = (b.length : Int) := by
  rw [List.length_append]; simp
theorem ok_append {xs : List S55} {lim : Int} {b : List Int} {v : Int} (h : OkAll xs lim b) : OkAll xs lim (b ++ [v]) ↔ RideP xs lim (b ++ [v]) (b.length : Int) := by
  have hlen : (((b ++ [v]).length : Nat) : Int) = (b.length : Int) + 1 := by rw [List.length_append]; simp
  have hnat : (b ++ [v]).length = (b.length : Int).toNat + 1 := by rw [List.length_append]; simp
  constructor
  · intro h2
    obtain ⟨h3, h4⟩ := h2 (b.length : Int) (by omega) (by omega)
    exact ⟨fun i h5 h6 h7 => (h4 i h5 h6 h7.symm).symm, by rw [← hnat]; exact h3⟩
  · intro h2 i h5 h6
    by_cases hi : i = (b.length : Int)
    · subst hi
      exact ⟨by rw [hnat]; exact h2.2, fun j h7 h8 h9 => (h2.1 j h7 h8 h9.symm).symm⟩
    · have hib : i < b.length := by omega
      have h3 := h i h5 hib
      rw [rd_append h5 hib]
      refine ⟨?_, fun j h7 h8 h9 => ?_⟩
      · rw [sumTo_full]
        by_cases hv : v = rd b i
        · have := h2.2
          rw [← hnat, rd_last, sumTo_full, if_pos rfl] at this
          rw [if_pos hv, ← hv]
          exact this
        · rw [if_neg hv, Int.add_zero]
          exact h3.1
      · rw [rd_append h7 (by omega)] at h9
        exact h3.2 j h7 h8 h9
theorem ok_nil (xs : List S55) (lim : Int) : OkAll xs lim [] := fun i h0 h1 => by simp at h1; omega
theorem okB_append {xs : List S55} {lim : Int} {b : List Int} {v : Int} (h : OkAll xs lim b) : okB xs lim (b ++ [v]) = rideB xs lim (b ++ [v]) := by
  rw [Bool.eq_iff_iff, okB_iff, rideB_iff, last_of]
  exact ok_append h
theorem Veh.append {b : List Int} (h : Veh b) {v : Int} (hv : 0 ≤ v ∧ v ≤ 6) : Veh (b ++ [v]) := fun x hx => by
  rcases List.mem_append.1 hx with hx | hx
  · exact h x hx
  · rw [List.mem_singleton.1 hx]; exact hv
theorem Veh.nil : Veh [] := fun x hx => by cases hx

/-- How many vehicles are used. -/
def usedM (b : List Int) : Int := b.foldl (fun m v => max m (v + 1)) 0
theorem usedM_append (b : List Int) (v : Int) : usedM (b ++ [v]) = max (usedM b) (v + 1) := by simp [usedM]
theorem usedM_bound {b : List Int} (hb : Veh b) : 0 ≤ usedM b ∧ usedM b ≤ 7 := by
  unfold usedM
  have : ∀ (b : List Int) (m : Int), Veh b → 0 ≤ m → m ≤ 7 → 0 ≤ b.foldl (fun m v => max m (v + 1)) m ∧ b.foldl (fun m v => max m (v + 1)) m ≤ 7 := by
    intro b
    induction b with
    | nil => intro m _ h1 h2; exact ⟨h1, h2⟩
    | cons v b ih =>
      intro m hb h1 h2
      have := hb v (List.mem_cons_self ..)
      exact ih (max m (v + 1)) (fun x hx => hb x (List.mem_cons_of_mem _ hx)) (by omega) (by omega)
  exact this b 0 hb (by omega) (by omega)
theorem rdNat {b : List Int} (j : Nat) (h : j < b.length) : rd b (j : Int) = b[j] := by
  rw [rd_getElem (by omega) (by omega)]; rfl
theorem impl_used_ev {b : List Int} (hb : Veh b) (hl : b.length ≤ 1000000) : Ev (fun k => impl_used.f k b) (usedM b) := by
  have h := Ev_for2 (F := fun k s i => impl_used.l0 k s b (b.length : Int) i) (step := fun s i => .inr ((fun (m v : Int) => max m (v + 1)) s (rd b i))) (out := fun s => s) (n := b.length) (fun _ _ => True)
    (fun s hI => Ev_succ (by simp only [impl_used.l0]; exact Ev_neg (by omega) (Ev.now _)))
    (fun s i h0 h1 hI => .inr ⟨_, rfl, trivial, fun r hr => Ev_succ (by
      simp only [impl_used.l0]
      have := hb.at h0 h1
      refine Ev_pos h1 (Ev_pos h0 (Ev_pos h1 ?_))
      rw [w64 (x := rd b i + 1) (by omega) (by omega), w64 (by omega) (by omega), mx_eq]
      exact hr)⟩) b.length 0 0 (by omega) (by omega) trivial
  rw [forM_fold0 b (rd b) (fun j hj => rdNat j hj) (fun (m v : Int) => max m (v + 1)) (fun s => s) 0] at h
  exact h

/-- All loadings that begin with some numbers, in order. -/
noncomputable def loadsM (xs : List S55) (lim most : Int) : Nat → List Int → List (List Int)
  | 0, b => [b]
  | d + 1, b => foldU (fun s v => if rideB xs lim (b ++ [v]) = true then s ++ loadsM xs lim most d (b ++ [v]) else s) (min (usedM b + 1) most).toNat [] 0
theorem loadsM_length (xs : List S55) (lim : Int) {most : Int} (hm : 0 ≤ most ∧ most ≤ 7) : ∀ (d : Nat) (b : List Int), Veh b → (loadsM xs lim most d b).length ≤ 7 ^ d := by
  intro d
  induction d with
  | zero => intro b _; simp [loadsM]
  | succ d ih =>
    intro b hb
    have hu := usedM_bound hb
    obtain ⟨P, hP⟩ : ∃ P : Nat, P = 7 ^ d := ⟨_, rfl⟩
    have := foldU_ind (upd := fun s v => if rideB xs lim (b ++ [v]) = true then s ++ loadsM xs lim most d (b ++ [v]) else s) (n := min (usedM b + 1) most) (fun s v => (s.length : Int) ≤ (P : Int) * v) (fun s v h0 h1 hI => by
      have e : (P : Int) * (v + 1) = (P : Int) * v + P := by rw [Int.mul_add, Int.mul_one]
      rw [e]
      split
      · have := ih (b ++ [v]) (hb.append (by omega))
        rw [List.length_append]
        omega
      · omega) (min (usedM b + 1) most).toNat [] 0 (by omega) (by omega) (by simp)
    have h7 : (P : Int) * min (usedM b + 1) most ≤ (P : Int) * 7 := Int.mul_le_mul_of_nonneg_left (by omega) (by omega)
    unfold loadsM
    rw [Nat.pow_succ, ← hP]
    omega
theorem pow7 {d : Nat} (h : d ≤ 7) : 7 ^ d ≤ 823543 := by
  have : 7 ^ d ≤ 7 ^ 7 := Nat.pow_le_pow_right (by omega) h
  exact this

theorem rd_set {s : List Int} {j v u : Int} (h0 : 0 ≤ j) (h1 : j < s.length) (h2 : 0 ≤ u) : rd (s.set j.toNat v) u = if u = j then v else rd s u := by
  by_cases h : u = j
  · rw [if_pos h, h]
    simp [rd, List.getD_eq_getElem?_getD, List.getElem?_set_self (show j.toNat < s.length by omega)]
  · rw [if_neg h]
    simp only [rd, List.getD_eq_getElem?_getD]
    rw [List.getElem?_set_ne (by omega)]
theorem l28Sums_ev {xs : List S55} (hx : areBoxes xs = true) {b : List Int} (hb : Veh b) (h1 : b.length ≤ xs.length) : ∃ s, Ev (fun k => spec_l28Sums.f k xs b) s ∧ s.length = 7 ∧ ∀ u : Int, 0 ≤ u → u ≤ 6 → rd s u = sumTo xs b u b.length := by
  have hn := ((areBoxes_iff xs).1 hx).1
  have hstep : ∀ (s : List Int) (i : Int), 0 ≤ i → i < b.length → (s.length = 7 ∧ ∀ u : Int, 0 ≤ u → u ≤ 6 → rd s u = sumTo xs b u i.toNat) → ((s.set (rd b i).toNat (wrap64 (rd s (rd b i) + (rd_T55 xs i).f0))).length = 7 ∧ ∀ u : Int, 0 ≤ u → u ≤ 6 → rd (s.set (rd b i).toNat (wrap64 (rd s (rd b i) + (rd_T55 xs i).f0))) u = sumTo xs b u (i + 1).toNat) := fun s i h2 h3 hI => by
    have hv := hb.at h2 h3
    refine ⟨by rw [List.length_set]; exact hI.1, fun u h4 h5 => ?_⟩
    have hs := sumTo_bound hx b (rd b i) i.toNat (by omega)
    have hg := box_grams hx (i := i) h2 (by omega)
    rw [rd_set hv.1 (by omega) h4, toNat_succ h2]
    simp only [sumTo]
    rw [show ((i.toNat : Nat) : Int) = i by omega]
    by_cases hu : u = rd b i
    · rw [if_pos hu, if_pos hu.symm, hI.2 _ hv.1 hv.2, w64 (by omega) (by omega), hu]
    · rw [if_neg hu, if_neg (fun h => hu h.symm), Int.add_zero]
      exact hI.2 u h4 h5
  have h00 : (List.replicate 7 (0 : Int)).length = 7 ∧ ∀ u : Int, 0 ≤ u → u ≤ 6 → rd (List.replicate 7 (0 : Int)) u = sumTo xs b u (0 : Int).toNat := by
    refine ⟨rfl, fun u h4 h5 => ?_⟩
    have : u = 0 ∨ u = 1 ∨ u = 2 ∨ u = 3 ∨ u = 4 ∨ u = 5 ∨ u = 6 := by omega
    rcases this with rfl | rfl | rfl | rfl | rfl | rfl | rfl <;> rfl
  have hfin := foldU_ind (upd := fun s i => s.set (rd b i).toNat (wrap64 (rd s (rd b i) + (rd_T55 xs i).f0))) (n := b.length) (fun s i => s.length = 7 ∧ ∀ u : Int, 0 ≤ u → u ≤ 6 → rd s u = sumTo xs b u i.toNat) hstep b.length (List.replicate 7 0) 0 (by omega) (by omega) h00
  refine ⟨foldU (fun s i => s.set (rd b i).toNat (wrap64 (rd s (rd b i) + (rd_T55 xs i).f0))) b.length (List.replicate 7 0) 0, ?_, hfin.1, hfin.2⟩
  unfold spec_l28Sums.f
  refine Ev_pos (by omega) ?_
  exact Ev_forK (F := fun k s i => spec_l28Sums.l0 k xs b s i) (n := b.length) (fun s i => s.length = 7 ∧ ∀ u : Int, 0 ≤ u → u ≤ 6 → rd s u = sumTo xs b u i.toNat) (fun s i h2 h3 hI => ⟨hstep s i h2 h3 hI, fun hr => Ev_succ (by
    have hv := hb.at h2 h3
    have hl := hI.1
    simp only [spec_l28Sums.l0]
    rw [w64 (x := i + 1) (by omega) (by omega)]
    exact Ev_pos h3 (Ev_pos h2 (Ev_pos hv.1 (Ev_pos (by omega) (Ev_pos (by omega) hr)))))⟩) b.length (List.replicate 7 0) 0 (by omega) (by omega) h00 (fun _ => Ev_succ (by
    simp only [spec_l28Sums.l0]
    exact Ev_neg (by omega) (Ev.now _)))
theorem l28Is_ev {xs : List S55} (hx : areBoxes xs = true) {lim : Int} {b : List Int} (hb : Veh b) (h1 : b.length ≤ xs.length) : Ev (fun k => spec_l28Is.f k xs lim b) (okB xs lim b) := by
  have hn := ((areBoxes_iff xs).1 hx).1
  obtain ⟨s, hs, hs7, hsu⟩ := l28Sums_ev hx hb h1
  unfold spec_l28Is.f
  refine Ev.bind hs ?_
  refine Ev_allK (F := fun k i => spec_l28Is.l0 k xs lim b s i) (p := fun i => sumTo xs b (rd b i) b.length ≤ lim ∧ ∀ j : Int, 0 ≤ j → j < i → rd b i = rd b j → lone xs i = lone xs j) (n := b.length) (bad := false) (fun i h2 h3 => ?_) b.length 0 (by omega) (by omega) (fun h => by
    rw [Bool.eq_false_iff]
    exact fun h2 => h (fun j h3 h4 => okB_iff.1 h2 j h3 h4)) (fun h => Ev_succ (by
    simp only [spec_l28Is.l0]
    refine Ev_neg (by omega) (Ev_some ?_)
    symm
    exact okB_iff.2 (fun i h2 h3 => h i h2 h3)))
  have hv := hb.at h2 h3
  have hin : ∀ r, (¬ (∀ j : Int, 0 ≤ j → j < i → rd b i = rd b j → lone xs i = lone xs j) → r = false) → ((∀ j : Int, 0 ≤ j → j < i → rd b i = rd b j → lone xs i = lone xs j) → Ev (fun k => spec_l28Is.l0 k xs lim b s (i + 1)) r) → Ev (fun k => spec_l28Is.l1 k xs lim b s i 0) r := fun r hbad hgood =>
    Ev_allK (F := fun k j => spec_l28Is.l1 k xs lim b s i j) (p := fun j => rd b i = rd b j → lone xs i = lone xs j) (n := i) (bad := false) (fun j h4 h5 => ⟨fun hp hr => Ev_succ (by
      simp only [spec_l28Is.l1]
      refine Ev_pos h5 (Ev_pos h2 (Ev_pos h3 (Ev_pos h4 (Ev_pos (by omega) ?_))))
      rw [w64 (x := j + 1) (by omega) (by omega)]
      refine Ev_ite (fun hc => ?_) (fun hc => hr)
      have hq := hp hc
      unfold lone at hq
      exact Ev_pos (by omega) (Ev_pos (by omega) (Ev_neg (by rw [hq]; simp) hr))), fun hp hr => Ev_succ (by
      simp only [spec_l28Is.l1]
      have hc : rd b i = rd b j := by
        by_cases hc : rd b i = rd b j
        · exact hc
        · exact absurd (fun h => absurd h hc) hp
      have hq : ¬ lone xs i = lone xs j := fun h => hp (fun _ => h)
      unfold lone at hq
      refine Ev_pos h5 (Ev_pos h2 (Ev_pos h3 (Ev_pos h4 (Ev_pos (by omega) (Ev_pos hc (Ev_pos (by omega) (Ev_pos (by omega) ?_)))))))
      exact Ev_pos (by simpa using hq) (Ev_some hr.symm))⟩) i.toNat 0 (by omega) (by omega) hbad (fun h => Ev_succ (by
      simp only [spec_l28Is.l1]
      rw [w64 (x := i + 1) (by omega) (by omega)]
      exact Ev_neg (by omega) (hgood h)))
  refine ⟨fun hp hr => Ev_succ (by
    simp only [spec_l28Is.l0]
    refine Ev_pos h3 (Ev_pos h2 (Ev_pos hv.1 (Ev_pos (by omega) ?_)))
    rw [hsu _ hv.1 hv.2]
    exact Ev_neg (by have := hp.1; omega) (hin _ (fun h => absurd hp.2 h) (fun _ => hr))), fun hp hr => Ev_succ (by
    simp only [spec_l28Is.l0]
    refine Ev_pos h3 (Ev_pos h2 (Ev_pos hv.1 (Ev_pos (by omega) ?_)))
    rw [hsu _ hv.1 hv.2]
    refine Ev_ite (fun hc => Ev_some hr.symm) (fun hc => hin _ (fun _ => hr) (fun h => absurd ⟨by omega, h⟩ hp)))⟩

theorem l01Own_eq {b : List Int} (h : b.length ≤ 1000000) : spec_l01Own.f b = some b := by
  unfold spec_l01Own.f
  rw [Option.bind_some, if_pos (by simp; omega), List.nil_append]
theorem spec_all_ev {xs : List S55} (hx : areBoxes xs = true) (lim : Int) {most : Int} (hm : 0 ≤ most ∧ most ≤ 7) : ∀ (d : Nat) (b : List Int), Veh b → OkAll xs lim b → b.length + d = xs.length → Ev (fun k => spec_l28All.f k xs lim most b (usedM b)) (loadsM xs lim most d b) := by
  have hn := ((areBoxes_iff xs).1 hx).1
  intro d
  induction d with
  | zero =>
    intro b hb hok hl
    refine Ev_succ (by
      simp only [spec_l28All.f]
      exact Ev_pos (by omega) (Ev.now _))
  | succ d ih =>
    intro b hb hok hl
    have hu := usedM_bound hb
    have hlen : ∀ v : Int, 0 ≤ v → v < 7 → (loadsM xs lim most d (b ++ [v])).length ≤ 823543 := fun v h0 h1 => Nat.le_trans (loadsM_length xs lim hm d _ (hb.append (by omega))) (pow7 (by omega))
    refine Ev_succ (by
      simp only [spec_l28All.f]
      refine Ev_neg (by omega) ?_
      unfold loadsM
      refine Ev_forK (F := fun k s v => spec_l28All.l0 k xs lim most b (usedM b) s v) (upd := fun s v => if rideB xs lim (b ++ [v]) = true then s ++ loadsM xs lim most d (b ++ [v]) else s) (n := min (usedM b + 1) most) (fun s v => (s.length : Int) ≤ 1000000 * v) (fun s v h0 h1 hI => ⟨?_, fun hr => ?_⟩) (min (usedM b + 1) most).toNat [] 0 (by omega) (by omega) (by simp) (fun hI => ?_)
      · have := hlen v h0 (by omega)
        split
        · rw [List.length_append]; omega
        · omega
      · have hv := hlen v h0 (by omega)
        refine Ev_succ (by
          simp only [spec_l28All.l0]
          refine Ev_pos (by omega) (Ev_succ (by
            rw [decide_eq_true (show v < most by omega)]
            simp only [spec_l28All.j1, if_true]
            refine Ev_bindc (l01Own_eq (by omega)) (Ev_pos (by omega) (Ev_bindc rfl (Ev.bind (l28Is_ev hx (hb.append (by omega)) (by rw [List.length_append]; simp; omega)) ?_)))
            rw [okB_append hok]
            have hw : wrap64 (v + 1) = v + 1 := w64 (by omega) (by omega)
            refine Ev_ite (fun hc => ?_) (fun hc => ?_)
            · rw [if_pos hc] at hr
              have hok2 : OkAll xs lim (b ++ [v]) := okB_iff.1 ((okB_append hok).trans hc)
              have := ih (b ++ [v]) (hb.append (by omega)) hok2 (by rw [List.length_append]; simp; omega)
              rw [usedM_append] at this
              rw [hw, mx_eq]
              exact Ev.bind this (Ev_pos (by omega) hr)
            · rw [if_neg hc] at hr
              rw [hw]
              exact hr)))
      · refine Ev_succ (by
          simp only [spec_l28All.l0]
          refine Ev_ite (fun hc => Ev_succ (by
            rw [decide_eq_false (show ¬ min (usedM b + 1) most < most by omega)]
            simp only [spec_l28All.j1, Bool.false_eq_true, if_false]
            exact Ev.now _)) (fun hc => Ev_succ (by
            simp only [spec_l28All.j1, Bool.false_eq_true, if_false]
            exact Ev.now _))))

/-- The first of those with the fewest vehicles. -/
def Best (L : List (List Int)) (l : List Int) : Prop := ∃ pre post, L = pre ++ l :: post ∧ (∀ x ∈ pre, usedM l < usedM x) ∧ ∀ x ∈ post, usedM l ≤ usedM x
def pickU (s : List Int × Bool) (l : List Int) : List Int × Bool := if s.2 = true then (if usedM l < usedM s.1 then (l, true) else s) else (l, true)
theorem pick_best (M : List (List Int)) : ∀ (L : List (List Int)) (l : List Int), Best L l → ∃ m, M.foldl pickU (l, true) = (m, true) ∧ Best (L ++ M) m := by
  induction M with
  | nil => intro L l h; exact ⟨l, rfl, by rw [List.append_nil]; exact h⟩
  | cons x M ih =>
    intro L l h
    obtain ⟨pre, post, he, h1, h2⟩ := h
    simp only [List.foldl_cons]
    by_cases hx : usedM x < usedM l
    · have e : pickU (l, true) x = (x, true) := by unfold pickU; rw [if_pos rfl, if_pos hx]
      rw [e]
      have hb : Best (L ++ [x]) x := ⟨L, [], rfl, fun y hy => by
        rw [he] at hy
        rcases List.mem_append.1 hy with hy | hy
        · have := h1 y hy; omega
        · rcases List.mem_cons.1 hy with hy | hy
          · rw [hy]; exact hx
          · have := h2 y hy; omega, fun y hy => by cases hy⟩
      obtain ⟨m, hm, hb2⟩ := ih (L ++ [x]) x hb
      exact ⟨m, hm, by rw [List.append_assoc] at hb2; exact hb2⟩
    · have e : pickU (l, true) x = (l, true) := by unfold pickU; rw [if_pos rfl, if_neg hx]
      rw [e]
      have hb : Best (L ++ [x]) l := ⟨pre, post ++ [x], by rw [he]; simp, h1, fun y hy => by
        rcases List.mem_append.1 hy with hy | hy
        · exact h2 y hy
        · rw [List.mem_singleton.1 hy]; omega⟩
      obtain ⟨m, hm, hb2⟩ := ih (L ++ [x]) l hb
      exact ⟨m, hm, by rw [List.append_assoc] at hb2; exact hb2⟩
theorem pick_all (L : List (List Int)) : (L = [] ∧ L.foldl pickU ([], false) = ([], false)) ∨ ∃ m, L.foldl pickU ([], false) = (m, true) ∧ Best L m := by
  cases L with
  | nil => exact .inl ⟨rfl, rfl⟩
  | cons x M =>
    refine .inr ?_
    have hb : Best [x] x := ⟨[], [], rfl, (fun y hy => by cases hy), (fun y hy => by cases hy)⟩
    exact pick_best M [x] x hb
/-- The loadings with at most m vehicles are those among all. -/
theorem foldU_congr {S : Type} {f g : S → Int → S} {n : Int} (h : ∀ (s : S) (i : Int), 0 ≤ i → i < n → f s i = g s i) : ∀ (d : Nat) (s : S) (i : Int), 0 ≤ i → i + d = n → foldU f d s i = foldU g d s i := by
  intro d
  induction d with
  | zero => intro s i _ _; rfl
  | succ d ih =>
    intro s i h0 h1
    simp only [foldU]
    rw [h s i h0 (by omega)]
    exact ih _ _ (by omega) (by omega)
theorem foldU_add {S : Type} {f : S → Int → S} : ∀ (a b : Nat) (s : S) (i : Int), foldU f (a + b) s i = foldU f b (foldU f a s i) (i + a) := by
  intro a
  induction a with
  | zero => intro b s i; simp [foldU]
  | succ a ih =>
    intro b s i
    rw [show a + 1 + b = (a + b) + 1 by omega]
    simp only [foldU]
    rw [ih b (f s i) (i + 1)]
    congr 1
    omega
theorem loads_used {xs : List S55} {lim most : Int} : ∀ (d : Nat) (b : List Int), ∀ l ∈ loadsM xs lim most d b, usedM b ≤ usedM l := by
  intro d
  induction d with
  | zero => intro b l hl; simp [loadsM] at hl; rw [hl]; omega
  | succ d ih =>
    intro b l hl
    unfold loadsM at hl
    by_cases hm : 0 ≤ min (usedM b + 1) most
    · have := foldU_ind (upd := fun s v => if rideB xs lim (b ++ [v]) = true then s ++ loadsM xs lim most d (b ++ [v]) else s) (n := min (usedM b + 1) most) (fun s _ => ∀ l ∈ s, usedM b ≤ usedM l) (fun s v _ _ hI l hl => by
        split at hl
        · rcases List.mem_append.1 hl with hl | hl
          · exact hI l hl
          · have := ih (b ++ [v]) l hl
            rw [usedM_append] at this
            omega
        · exact hI l hl) (min (usedM b + 1) most).toNat [] 0 (by omega) (by omega) (fun l hl => by cases hl)
      exact this l hl
    · rw [show (min (usedM b + 1) most).toNat = 0 by omega] at hl
      simp [foldU] at hl
theorem filter_none {α : Type} {p : α → Bool} {L : List α} (h : ∀ x ∈ L, p x = false) : L.filter p = [] := by
  rw [List.filter_eq_nil_iff]
  exact fun x hx => by rw [h x hx]; decide
theorem loads_filter (xs : List S55) (lim : Int) {m : Int} (hm : 0 ≤ m ∧ m ≤ 7) : ∀ (d : Nat) (b : List Int), Veh b → usedM b ≤ m → loadsM xs lim m d b = (loadsM xs lim 7 d b).filter fun l => decide (usedM l ≤ m) := by
  intro d
  induction d with
  | zero => intro b _ hu; simp [loadsM, hu]
  | succ d ih =>
    intro b hb hu
    have hub := usedM_bound hb
    unfold loadsM
    -- the rounds up to m
    have h1 : ∀ (c : Nat) (s t : List (List Int)) (i : Int), 0 ≤ i → i + c = min (usedM b + 1) m → s = t.filter (fun l => decide (usedM l ≤ m)) → foldU (fun s v => if rideB xs lim (b ++ [v]) = true then s ++ loadsM xs lim m d (b ++ [v]) else s) c s i = (foldU (fun s v => if rideB xs lim (b ++ [v]) = true then s ++ loadsM xs lim 7 d (b ++ [v]) else s) c t i).filter fun l => decide (usedM l ≤ m) := by
      intro c
      induction c with
      | zero => intro s t i _ _ hs; exact hs
      | succ c ihc =>
        intro s t i h0 hc hs
        simp only [foldU]
        refine ihc _ _ (i + 1) (by omega) (by omega) ?_
        split
        · rw [List.filter_append, ← hs, ih (b ++ [i]) (hb.append (by omega)) (by rw [usedM_append]; omega)]
        · exact hs
    -- the rounds behind
    have h2 : ∀ (c : Nat) (t : List (List Int)) (i : Int), m ≤ i → (foldU (fun s v => if rideB xs lim (b ++ [v]) = true then s ++ loadsM xs lim 7 d (b ++ [v]) else s) c t i).filter (fun l => decide (usedM l ≤ m)) = t.filter fun l => decide (usedM l ≤ m) := by
      intro c
      induction c with
      | zero => intro t i _; rfl
      | succ c ihc =>
        intro t i hi
        simp only [foldU]
        rw [ihc _ (i + 1) (by omega)]
        split
        · rw [List.filter_append, filter_none (L := loadsM xs lim 7 d (b ++ [i])) (fun l hl => by
            have := loads_used d (b ++ [i]) l hl
            rw [usedM_append] at this
            simp only [decide_eq_false_iff_not]
            omega), List.append_nil]
        · rfl
    obtain ⟨a, ha⟩ : ∃ a : Nat, a = (min (usedM b + 1) m).toNat := ⟨_, rfl⟩
    obtain ⟨c, hc⟩ : ∃ c : Nat, (min (usedM b + 1) 7).toNat = a + c := ⟨(min (usedM b + 1) 7).toNat - a, by omega⟩
    rw [hc, ← ha, foldU_add]
    by_cases hz : c = 0
    · rw [hz]
      exact h1 a [] [] 0 (by omega) (by omega) rfl
    · rw [h2 c _ _ (by omega)]
      exact h1 a [] [] 0 (by omega) (by omega) rfl

/-- What is found: the fewest, and the first with it. -/
theorem fewest_ev {xs : List S55} (hx : areBoxes xs = true) (lim : Int) : ∃ r, Ev (fun k => spec_l28Fewest.f k xs lim) r ∧ ((loadsM xs lim 7 xs.length [] = [] ∧ r = (-1, [])) ∨ ∃ l, Best (loadsM xs lim 7 xs.length []) l ∧ r = (usedM l, l)) := by
  have hn := ((areBoxes_iff xs).1 hx).1
  have hall : ∀ m : Int, 0 ≤ m → m ≤ 7 → Ev (fun k => spec_l28All.f k xs lim m [] 0) ((loadsM xs lim 7 xs.length []).filter fun l => decide (usedM l ≤ m)) := fun m h0 h1 => by
    have := spec_all_ev hx lim (most := m) ⟨h0, h1⟩ xs.length [] Veh.nil (ok_nil xs lim) (by simp)
    rw [loads_filter xs lim ⟨h0, h1⟩ xs.length [] Veh.nil (by simp [usedM]; omega)] at this
    exact this
  have hskip : ∀ m : Int, 0 ≤ m → m ≤ 7 → (loadsM xs lim 7 xs.length []).filter (fun l => decide (usedM l ≤ m)) = [] → ∀ r, Ev (fun k => spec_l28Fewest.l0 k xs lim (m + 1)) r → Ev (fun k => spec_l28Fewest.l0 k xs lim m) r := fun m h0 h1 he r hr => Ev_succ (by
    simp only [spec_l28Fewest.l0]
    refine Ev_pos (by omega) (Ev.bind (hall m h0 h1) ?_)
    rw [he, w64 (by omega) (by omega)]
    exact Ev_neg (by simp) hr)
  have hruns : ∀ (c : Nat) (m : Int), 0 ≤ m → m + c ≤ 8 → (∀ j : Int, m ≤ j → j < m + c → (loadsM xs lim 7 xs.length []).filter (fun l => decide (usedM l ≤ j)) = []) → ∀ r, Ev (fun k => spec_l28Fewest.l0 k xs lim (m + c)) r → Ev (fun k => spec_l28Fewest.l0 k xs lim m) r := by
    intro c
    induction c with
    | zero => intro m _ _ _ r hr; simpa using hr
    | succ c ih =>
      intro m h0 h1 he r hr
      refine hskip m h0 (by omega) (he m (Int.le_refl _) (by omega)) r (ih (m + 1) (by omega) (by omega) (fun j h2 h3 => he j (by omega) (by omega)) r ?_)
      rw [show m + 1 + (c : Int) = m + ((c + 1 : Nat) : Int) by omega]
      exact hr
  unfold spec_l28Fewest.f
  rcases pick_all (loadsM xs lim 7 xs.length []) with ⟨hL, _⟩ | ⟨l, _, hb⟩
  · refine ⟨(-1, []), ?_, .inl ⟨hL, rfl⟩⟩
    refine hruns 8 0 (by omega) (by omega) (fun j _ _ => by rw [hL]; rfl) _ (Ev_succ (by
      simp only [spec_l28Fewest.l0]
      exact Ev_neg (by omega) (Ev.now _)))
  · refine ⟨(usedM l, l), ?_, .inr ⟨l, hb, rfl⟩⟩
    obtain ⟨pre, post, he, h1, h2⟩ := hb
    have hl0 : 0 ≤ usedM l := by
      have := loads_used (xs := xs) (lim := lim) (most := 7) xs.length [] l (by rw [he]; simp)
      simpa [usedM] using this
    have hl7 : usedM l ≤ 7 := by
      have hm : l ∈ (loadsM xs lim 7 xs.length []).filter fun l => decide (usedM l ≤ 7) := by
        rw [← loads_filter xs lim ⟨by omega, by omega⟩ xs.length [] Veh.nil (by simp [usedM]), he]
        simp
      exact of_decide_eq_true (List.mem_filter.1 hm).2
    have hge : ∀ x ∈ loadsM xs lim 7 xs.length [], usedM l ≤ usedM x := fun x hx => by
      rw [he] at hx
      rcases List.mem_append.1 hx with hx | hx
      · have := h1 x hx; omega
      · rcases List.mem_cons.1 hx with hx | hx
        · rw [hx]; omega
        · exact h2 x hx
    refine hruns (usedM l).toNat 0 (by omega) (by omega) (fun j h3 h4 => filter_none (fun x hx => by
      have := hge x hx
      simp only [decide_eq_false_iff_not]
      omega)) _ ?_
    rw [show (0 : Int) + ((usedM l).toNat : Int) = usedM l by omega]
    refine Ev_succ (by
      simp only [spec_l28Fewest.l0]
      refine Ev_pos hl7 (Ev.bind (hall (usedM l) hl0 hl7) ?_)
      have hf : (loadsM xs lim 7 xs.length []).filter (fun x => decide (usedM x ≤ usedM l)) = l :: post.filter (fun x => decide (usedM x ≤ usedM l)) := by
        rw [he, List.filter_append, filter_none (L := pre) (fun x hx => by
          have := h1 x hx
          simp only [decide_eq_false_iff_not]
          omega), List.nil_append, List.filter_cons_of_pos (by simp)]
      rw [hf]
      exact Ev_pos (by simp) (Ev_pos (by simp) (Ev.now _)))

theorem impl_mayRide_ev {xs : List S55} (hx : areBoxes xs = true) {lim : Int} {b : List Int} (h0 : 0 < b.length) (h1 : b.length ≤ xs.length) : Ev (fun k => impl_mayRide.f k xs lim b) (rideB xs lim b) := by
  have hn := ((areBoxes_iff xs).1 hx).1
  unfold impl_mayRide.f
  rw [w64 (x := (b.length : Int) - 1) (by omega) (by omega)]
  refine Ev_pos (by omega) (Ev_pos (by omega) ?_)
  obtain ⟨l, hl⟩ : ∃ l : Int, l = (b.length : Int) - 1 := ⟨_, rfl⟩
  rw [← hl]
  have hg := box_grams hx (i := l) (by omega) (by omega)
  have hloop := Ev_allK (F := fun k i => impl_mayRide.l0 k xs lim b l ((rd_T55 xs l).f0 + sumTo xs b (rd b l) i.toNat) i) (p := fun i => rd b i = rd b l → lone xs i = lone xs l) (n := l) (r := rideB xs lim b) (bad := false) (fun i h2 h3 => by
    have hs := sumTo_bound hx b (rd b l) i.toNat (by omega)
    have hgi := box_grams hx (i := i) h2 (by omega)
    have hnext : sumTo xs b (rd b l) (i + 1).toNat = sumTo xs b (rd b l) i.toNat + if rd b i = rd b l then (rd_T55 xs i).f0 else 0 := by
      rw [toNat_succ h2]
      simp only [sumTo]
      rw [show ((i.toNat : Nat) : Int) = i by omega]
    refine ⟨fun hp hr => Ev_succ (by
      simp only [impl_mayRide.l0]
      refine Ev_pos h3 (Ev_pos h2 (Ev_pos (by omega) (Ev_pos (by omega) (Ev_pos (by omega) ?_))))
      rw [w64 (x := i + 1) (by omega) (by omega)]
      rw [hnext] at hr
      refine Ev_ite (fun hc => ?_) (fun hc => ?_)
      · rw [if_pos hc] at hr
        have hq := hp hc
        unfold lone at hq
        refine Ev_pos (by omega) (Ev_pos (by omega) (Ev_neg (by rw [hq]; simp) ?_))
        rw [w64 (by omega) (by omega), Int.add_assoc]
        exact hr
      · rw [if_neg hc, Int.add_zero] at hr
        exact hr), fun hp hr => Ev_succ (by
      simp only [impl_mayRide.l0]
      have hc : rd b i = rd b l := by
        by_cases hc : rd b i = rd b l
        · exact hc
        · exact absurd (fun h => absurd h hc) hp
      have hq : ¬ lone xs i = lone xs l := fun h => hp (fun _ => h)
      unfold lone at hq
      refine Ev_pos h3 (Ev_pos h2 (Ev_pos (by omega) (Ev_pos (by omega) (Ev_pos (by omega) (Ev_pos hc (Ev_pos (by omega) (Ev_pos (by omega) ?_)))))))
      exact Ev_pos (by simpa using hq) (Ev_some hr.symm))⟩) l.toNat 0 (by omega) (by omega) (fun h => by
    rw [Bool.eq_false_iff]
    exact fun h2 => h (fun j h3 h4 => (rideB_iff.1 h2).1 j h3 (by omega) |> fun q => by rw [← hl] at q; exact q)) (fun h => Ev_succ (by
    simp only [impl_mayRide.l0]
    refine Ev_neg (by omega) (Ev_some ?_)
    have e : sumTo xs b (rd b l) (l.toNat + 1) = (rd_T55 xs l).f0 + sumTo xs b (rd b l) l.toNat := by
      simp only [sumTo]
      rw [show ((l.toNat : Nat) : Int) = l by omega, if_pos rfl, Int.add_comm]
    rw [Bool.eq_iff_iff, decide_eq_true_eq, rideB_iff, ← hl, ← e]
    exact ⟨fun q => ⟨h, q⟩, fun q => q.2⟩))
  refine Ev.congr (fun k => ?_) hloop
  simp [sumTo]

theorem copyList_eq {b : List Int} (h : b.length ≤ 1000000) : impl_copyList.f b = some b := by
  unfold impl_copyList.f
  rw [Option.bind_some, if_pos (by simp; omega), List.nil_append]
theorem impl_loads_ev {xs : List S55} (hx : areBoxes xs = true) (lim : Int) {most : Int} (hm : 0 ≤ most ∧ most ≤ 7) : ∀ (d : Nat) (b : List Int), Veh b → b.length + d = xs.length → Ev (fun k => impl_loadings.f k xs lim most b) (loadsM xs lim most d b) := by
  have hn := ((areBoxes_iff xs).1 hx).1
  intro d
  induction d with
  | zero =>
    intro b hb hl
    refine Ev_succ (by
      simp only [impl_loadings.f]
      exact Ev_pos (by omega) (Ev.now _))
  | succ d ih =>
    intro b hb hl
    have hu := usedM_bound hb
    have hlen : ∀ v : Int, 0 ≤ v → v < 7 → (loadsM xs lim most d (b ++ [v])).length ≤ 823543 := fun v h0 h1 => Nat.le_trans (loadsM_length xs lim hm d _ (hb.append (by omega))) (pow7 (by omega))
    refine Ev_succ (by
      simp only [impl_loadings.f]
      refine Ev_neg (by omega) ?_
      unfold loadsM
      refine Ev_forK (F := fun k s v => impl_loadings.l0 k xs lim most b s v) (upd := fun s v => if rideB xs lim (b ++ [v]) = true then s ++ loadsM xs lim most d (b ++ [v]) else s) (n := min (usedM b + 1) most) (fun s v => (s.length : Int) ≤ 1000000 * v) (fun s v h0 h1 hI => ⟨?_, fun hr => ?_⟩) (min (usedM b + 1) most).toNat [] 0 (by omega) (by omega) (by simp) (fun hI => ?_)
      · have := hlen v h0 (by omega)
        split
        · rw [List.length_append]; omega
        · omega
      · have hv := hlen v h0 (by omega)
        refine Ev_succ (by
          simp only [impl_loadings.l0]
          refine Ev.bind (impl_used_ev hb (by omega)) (Ev_pos (by omega) (Ev_succ (by
            rw [decide_eq_true (show v < most by omega)]
            simp only [impl_loadings.j1, if_true]
            refine Ev_bindc (copyList_eq (by omega)) (Ev_pos (by omega) (Ev_bindc rfl (Ev.bind (impl_mayRide_ev hx (by rw [List.length_append]; simp) (by rw [List.length_append]; simp; omega)) ?_)))
            rw [w64 (x := v + 1) (by omega) (by omega)]
            refine Ev_ite (fun hc => ?_) (fun hc => ?_)
            · rw [if_pos hc] at hr
              exact Ev.bind (ih (b ++ [v]) (hb.append (by omega)) (by rw [List.length_append]; simp; omega)) (Ev_pos (by omega) hr)
            · rw [if_neg hc] at hr
              exact hr))))
      · refine Ev_succ (by
          simp only [impl_loadings.l0]
          refine Ev.bind (impl_used_ev hb (by omega)) (Ev_ite (fun hc => Ev_succ (by
            rw [decide_eq_false (show ¬ min (usedM b + 1) most < most by omega)]
            simp only [impl_loadings.j1, Bool.false_eq_true, if_false]
            exact Ev.now _)) (fun hc => Ev_succ (by
            simp only [impl_loadings.j1, Bool.false_eq_true, if_false]
            exact Ev.now _)))))

theorem rd_L3_nat {L : List (List Int)} (j : Nat) (h : j < L.length) : rd_L3 L (j : Int) = L[j] := by
  simp [rd_L3, List.getD_eq_getElem?_getD, List.getElem?_eq_getElem h]
theorem loads_veh (xs : List S55) (lim : Int) {most : Int} (hm : 0 ≤ most ∧ most ≤ 7) : ∀ (d : Nat) (b : List Int), Veh b → ∀ l ∈ loadsM xs lim most d b, Veh l ∧ l.length = b.length + d := by
  intro d
  induction d with
  | zero => intro b hb l hl; simp [loadsM] at hl; rw [hl]; exact ⟨hb, rfl⟩
  | succ d ih =>
    intro b hb l hl
    have hub := usedM_bound hb
    unfold loadsM at hl
    have := foldU_ind (upd := fun s v => if rideB xs lim (b ++ [v]) = true then s ++ loadsM xs lim most d (b ++ [v]) else s) (n := min (usedM b + 1) most) (fun s _ => ∀ l ∈ s, Veh l ∧ l.length = b.length + (d + 1)) (fun s v h0 h1 hI l hl => by
      split at hl
      · rcases List.mem_append.1 hl with hl | hl
        · exact hI l hl
        · have := ih (b ++ [v]) (hb.append (by omega)) l hl
          rw [List.length_append] at this
          simp at this
          exact ⟨this.1, by omega⟩
      · exact hI l hl) (min (usedM b + 1) most).toNat [] 0 (by omega) (by omega) (fun l hl => by cases hl)
    exact this l hl
theorem first_ev {xs : List S55} (hx : areBoxes xs = true) (lim : Int) : Ev (fun k => impl_firstLoading.f k xs lim) ((loadsM xs lim 7 xs.length []).foldl pickU ([], false)) := by
  have hn := ((areBoxes_iff xs).1 hx).1
  have hlen := Nat.le_trans (loadsM_length xs lim (most := 7) (by omega) xs.length [] Veh.nil) (pow7 hn)
  have hveh := loads_veh xs lim (most := 7) (by omega) xs.length [] Veh.nil
  unfold impl_firstLoading.f
  refine Ev.bind (impl_loads_ev hx lim (by omega) xs.length [] Veh.nil (by simp)) ?_
  obtain ⟨L, hL⟩ : ∃ L, L = loadsM xs lim 7 xs.length [] := ⟨_, rfl⟩
  rw [← hL] at hlen hveh ⊢
  have hat : ∀ i : Int, 0 ≤ i → i < L.length → rd_L3 L i ∈ L := fun i h0 h1 => by
    have := rd_L3_nat i.toNat (show i.toNat < L.length by omega)
    rw [show ((i.toNat : Nat) : Int) = i by omega] at this
    rw [this]
    exact List.getElem_mem _
  have h := Ev_for2 (F := fun k (s : List Int × Bool) i => impl_firstLoading.l0 k s.1 s.2 L (L.length : Int) i) (step := fun s i => .inr (pickU s (rd_L3 L i))) (out := fun s => s) (n := L.length) (fun s _ => Veh s.1 ∧ s.1.length ≤ 7)
    (fun s hI => Ev_succ (by simp only [impl_firstLoading.l0]; exact Ev_neg (by omega) (Ev.now _)))
    (fun s i h0 h1 hI => .inr ⟨_, rfl, by
      have := hveh _ (hat i h0 h1)
      simp at this
      unfold pickU
      repeat' split
      · exact ⟨this.1, by simp only; omega⟩
      · exact hI
      · exact ⟨this.1, by simp only; omega⟩, fun r hr => Ev_succ (by
      have hv := hveh _ (hat i h0 h1)
      simp at hv
      simp only [impl_firstLoading.l0]
      refine Ev_pos h1 (Ev_pos h0 (Ev_pos h1 ?_))
      rw [w64 (by omega) (by omega)]
      unfold pickU at hr
      refine Ev_ite (fun hc => ?_) (fun hc => by rw [if_neg hc] at hr; exact hr)
      rw [if_pos hc] at hr
      refine Ev.bind (impl_used_ev hv.1 (by omega)) (Ev.bind (impl_used_ev hI.1 (by omega)) (Ev_ite (fun hq => by rw [if_pos hq] at hr; exact hr) (fun hq => by rw [if_neg hq] at hr; exact hr))))⟩) L.length ([], false) 0 (by omega) (by omega) ⟨Veh.nil, by simp⟩
  rw [forM_fold0 L (rd_L3 L) (fun j hj => rd_L3_nat j hj) pickU (fun s => s) ([], false)] at h
  exact h

def codeB (xs : List S55) (lim : Int) : Int := if areBoxes xs = true then (if 1 ≤ lim ∧ lim ≤ 10000000 then 0 else 2) else 1
theorem codeB_0 {xs : List S55} {lim : Int} (h : codeB xs lim = 0) : areBoxes xs = true ∧ 1 ≤ lim ∧ lim ≤ 10000000 := by
  unfold codeB at h
  by_cases h1 : areBoxes xs = true
  · rw [if_pos h1] at h
    by_cases h2 : 1 ≤ lim ∧ lim ≤ 10000000
    · exact ⟨h1, h2⟩
    · rw [if_neg h2] at h; exact absurd h (by decide)
  · rw [if_neg h1] at h; exact absurd h (by decide)
theorem l28Code_ev (xs : List S55) (hn : xs.length ≤ 1000000) (lim : Int) : Ev (fun k => spec_l28Code.f k xs lim) (codeB xs lim) := by
  unfold spec_l28Code.f codeB
  refine Ev.bind (spec_AreBoxes_ev xs hn) (Ev_ite (fun h => ?_) (fun h => by rw [if_neg h]; exact Ev.now _))
  rw [if_pos h, l01In_eq]
  simp only [Option.bind_some, decide_eq_true_eq]
  exact Ev_ite (fun h => by rw [if_pos h]; exact Ev.now _) (fun h => by rw [if_neg h]; exact Ev.now _)

theorem isLoadLimit_eq (a : Int) : impl_isLoadLimit.f a = some (decide (1 ≤ a ∧ a ≤ 10000000)) := by unfold impl_isLoadLimit.f; rw [within_eq]; rfl

theorem best_unique {L : List (List Int)} {l m : List Int} (h : Best L l) (k : Best L m) : l = m := by
  obtain ⟨p, q, e, h1, h2⟩ := h
  obtain ⟨p', q', e', k1, k2⟩ := k
  rw [e] at e'
  rcases List.append_eq_append_iff.1 e' with ⟨a, ha, hb⟩ | ⟨a, ha, hb⟩
  · cases a with
    | nil => rw [List.nil_append] at hb; exact (List.cons.inj hb).1
    | cons x a =>
      obtain ⟨hx, hq⟩ := List.cons.inj hb
      have g1 := k1 l (by rw [ha, hx]; simp)
      have g2 := h2 m (by rw [hq]; simp)
      omega
  · cases a with
    | nil => rw [List.nil_append] at hb; exact (List.cons.inj hb).1.symm
    | cons x a =>
      obtain ⟨hx, hq⟩ := List.cons.inj hb
      have g1 := h1 m (by rw [ha, hx]; simp)
      have g2 := k2 l (by rw [hq]; simp)
      omega

theorem core_FnExactFirstLoading (xs : List S55) (lim : Int) (hn : xs.length ≤ 1000000) (_w : (Lit.int .i64 lim).wf = true) : ∃ r1 r2, Ev (fun k => spec_FirstLoading.f k xs lim) (r1, r2) ∧ Ev (fun k => impl_FirstLoading.f k xs lim) (r1, r2) ∧ r1.length ≤ 7 := by
  unfold spec_FirstLoading.f impl_FirstLoading.f
  rw [isLoadLimit_eq]
  simp only [Option.bind_some]
  by_cases hx : areBoxes xs = true
  · by_cases hl : 1 ≤ lim ∧ lim ≤ 10000000
    · have e : codeB xs lim = 0 := by unfold codeB; rw [if_pos hx, if_pos hl]
      have hc := l28Code_ev xs hn lim
      rw [e] at hc
      obtain ⟨r, hr, hcase⟩ := fewest_ev hx lim
      have hf := first_ev hx lim
      rcases hcase with ⟨hL, rfl⟩ | ⟨l, hb, rfl⟩
      · rw [hL] at hf
        exact ⟨[], 4, Ev.bind hc (Ev_pos rfl (Ev.bind hr (Ev_pos (by decide) (Ev.now _)))), Ev.bind (impl_AreBoxes_ev xs) (Ev_pos hx (Ev_pos (decide_eq_true hl) (Ev.bind hf (Ev_neg (by decide) (Ev.now _))))), by simp⟩
      · have hmem : l ∈ loadsM xs lim 7 xs.length [] := by obtain ⟨pre, post, he, _⟩ := hb; rw [he]; simp
        have hveh := loads_veh xs lim (most := 7) (by omega) xs.length [] Veh.nil
        have hlv := hveh l hmem
        have hul := usedM_bound hlv.1
        have hlen := ((areBoxes_iff xs).1 hx).1
        rcases pick_all (loadsM xs lim 7 xs.length []) with ⟨hL, _⟩ | ⟨m, hm, hbm⟩
        · rw [hL] at hmem
          cases hmem
        · obtain rfl := best_unique hb hbm
          rw [hm] at hf
          have hlm : l.length ≤ 7 := by have := hlv.2; simp at this; omega
          exact ⟨l, 0, Ev.bind hc (Ev_pos rfl (Ev.bind hr (Ev_neg (by simp only; omega) (Ev.now _)))), Ev.bind (impl_AreBoxes_ev xs) (Ev_pos hx (Ev_pos (decide_eq_true hl) (Ev.bind hf (Ev_pos rfl (Ev.now _))))), hlm⟩
    · have e : codeB xs lim = 2 := by unfold codeB; rw [if_pos hx, if_neg hl]
      have hc := l28Code_ev xs hn lim
      rw [e] at hc
      exact ⟨[], 2, Ev.bind hc (Ev_neg (by decide) (Ev.now _)), Ev.bind (impl_AreBoxes_ev xs) (Ev_pos hx (Ev_neg (by simpa using hl) (Ev.now _))), by simp⟩
  · have e : codeB xs lim = 1 := by unfold codeB; rw [if_neg hx]
    have hc := l28Code_ev xs hn lim
    rw [e] at hc
    exact ⟨[], 1, Ev.bind hc (Ev_neg (by decide) (Ev.now _)), Ev.bind (impl_AreBoxes_ev xs) (Ev_neg hx (Ev.now _)), by simp⟩

/-- How much room to..S leaves behind a row of n elements. -/
def room (n : Nat) : Nat := if n % 6 = 5 then 0 else if n % 3 = 0 then 1 else n
theorem room_le (n : Nat) : room n ≤ n + 1 := by unfold room; split <;> (try split) <;> omega
theorem room_eq (n : Nat) (h : n ≤ 9223372036854775807) : laws_roomBehind.f (n : Int) = some (room n : Int) := by
  unfold laws_roomBehind.f room
  rw [Int.tmod_eq_emod_of_nonneg (by omega), Int.tmod_eq_emod_of_nonneg (by omega)]
  by_cases h1 : n % 6 = 5
  · rw [if_pos (by omega), if_pos h1]; rfl
  · rw [if_neg (by omega), if_neg h1]
    by_cases h2 : n % 3 = 0
    · rw [if_pos (by omega), if_pos h2]; rfl
    · rw [if_neg (by omega), if_neg h2]
theorem take_set_far {α : Type} (xs : List α) (y : α) {n m : Nat} (h : n ≤ m) : (xs.set m y).take n = xs.take n := by
  apply List.ext_getElem?
  intro i
  by_cases hi : i < n
  · rw [List.getElem?_take_of_lt hi, List.getElem?_take_of_lt hi, List.getElem?_set_ne (by omega)]
  · rw [List.getElem?_eq_none (by simp; omega), List.getElem?_eq_none (by simp; omega)]
theorem take_set_at {α : Type} (xs : List α) (y : α) {n : Nat} (h : n < xs.length) : (xs.set n y).take (n + 1) = xs.take n ++ [y] := by
  rw [List.take_succ_eq_append_getElem (by rw [List.length_set]; exact h), take_set_far xs y (Nat.le_refl n)]
  simp
theorem rooms {n : Nat} (h : n ≤ 1000000) : wrap64 ((n : Int) + (room n : Int)) = ((n + room n : Nat) : Int) := by
  have := room_le n
  rw [w64 (by omega) (by omega)]; omega

theorem eqBoxS_loop (xs : List S55) (hn : xs.length ≤ 9000000000000000000) (d : Nat) : ∀ (k : Nat) (i : Int), 0 ≤ i → i ≤ xs.length → ((xs.length : Int) - i).toNat ≤ d → d < k → laws_eqBoxS.l0 k xs xs i = some true := by
  induction d with
  | zero =>
    intro k i h0 h1 hd hk
    obtain ⟨k, rfl⟩ : ∃ m, k = m + 1 := ⟨k - 1, by omega⟩
    simp only [laws_eqBoxS.l0]
    rw [if_neg (by omega)]
  | succ d ih =>
    intro k i h0 h1 hd hk
    obtain ⟨k, rfl⟩ : ∃ m, k = m + 1 := ⟨k - 1, by omega⟩
    simp only [laws_eqBoxS.l0]
    by_cases hlt : i < (xs.length : Int)
    · rw [if_pos hlt, if_pos h0, if_pos hlt]
      simp only [laws_eqBox.f, if_true, Option.bind_some]
      rw [w64 (by omega) (by omega)]
      exact ih k (i + 1) (by omega) (by omega) (by omega) (by omega)
    · rw [if_neg hlt]
theorem eqBoxS_refl (xs : List S55) (hn : xs.length ≤ 9000000000000000000) : Ev (fun k => laws_eqBoxS.f k xs xs) true :=
  ⟨xs.length + 1, fun k hk => by
    simp only [laws_eqBoxS.f, if_true]
    exact eqBoxS_loop xs hn xs.length k 0 (by omega) (by omega) (by omega) (by omega)⟩

theorem eqInt64S_loop (xs : List Int) (hn : xs.length ≤ 9000000000000000000) (d : Nat) : ∀ (k : Nat) (i : Int), 0 ≤ i → i ≤ xs.length → ((xs.length : Int) - i).toNat ≤ d → d < k → laws_eqInt64S.l0 k xs xs i = some true := by
  induction d with
  | zero =>
    intro k i h0 h1 hd hk
    obtain ⟨k, rfl⟩ : ∃ m, k = m + 1 := ⟨k - 1, by omega⟩
    simp only [laws_eqInt64S.l0]
    rw [if_neg (by omega)]
  | succ d ih =>
    intro k i h0 h1 hd hk
    obtain ⟨k, rfl⟩ : ∃ m, k = m + 1 := ⟨k - 1, by omega⟩
    simp only [laws_eqInt64S.l0]
    by_cases hlt : i < (xs.length : Int)
    · rw [if_pos hlt, if_pos h0, if_pos hlt]
      simp only [if_true]
      rw [w64 (by omega) (by omega)]
      exact ih k (i + 1) (by omega) (by omega) (by omega) (by omega)
    · rw [if_neg hlt]
theorem eqInt64S_refl (xs : List Int) (hn : xs.length ≤ 9000000000000000000) : Ev (fun k => laws_eqInt64S.f k xs xs) true :=
  ⟨xs.length + 1, fun k hk => by
    simp only [laws_eqInt64S.f, if_true]
    exact eqInt64S_loop xs hn xs.length k 0 (by omega) (by omega) (by omega) (by omega)⟩

theorem rdSetBoxS (xs : List S55) {i : Int} (h0 : 0 ≤ i) (h1 : i < xs.length) (v : S55) : rd_T55 (xs.set i.toNat v) i = v := by
  simp [rd_T55, List.getD_eq_getElem?_getD, List.getElem?_set_self (show i.toNat < xs.length by omega)]
theorem markBoxS_loop (d : Nat) : ∀ (x0 : List S55) (m i : Int), 0 ≤ i → i ≤ x0.length → ((x0.length : Int) - i).toNat ≤ d → 0 ≤ m → m + 2 * d ≤ 4000000000000000000 → x0.length ≤ 4000000000000000000 →
    ∃ (m' : Int) (x' : List S55), x'.length = x0.length ∧ (∀ j : Nat, j < i.toNat → x'[j]? = x0[j]?) ∧ m ≤ m' ∧ m' ≤ m + 2 * d ∧ ∀ k, d < k → laws_markBoxS.l0 k x0 m i = some (m', x') := by
  induction d with
  | zero =>
    intro x0 m i h0 h1 hd hm hm2 hn
    refine ⟨m, x0, rfl, fun _ _ => rfl, by omega, by omega, fun k hk => ?_⟩
    obtain ⟨k, rfl⟩ : ∃ m, k = m + 1 := ⟨k - 1, by omega⟩
    simp only [laws_markBoxS.l0]
    rw [if_neg (by omega)]
  | succ d ih =>
    intro x0 m i h0 h1 hd hm hm2 hn
    by_cases hlt : i < (x0.length : Int)
    · obtain ⟨m', x', hl, hx, hm1, hm3, hk⟩ := ih (x0.set i.toNat (⟨m, m + 1⟩ : S55)) (m + 2) (i + 1) (by omega) (by rw [List.length_set]; omega) (by rw [List.length_set]; omega) (by omega) (by omega) (by rw [List.length_set]; omega)
      rw [List.length_set] at hl
      refine ⟨m', x', hl, fun j hj => ?_, by omega, by omega, fun k hkd => ?_⟩
      · rw [hx j (by omega), List.getElem?_set_ne (by omega)]
      obtain ⟨k, rfl⟩ : ∃ m, k = m + 1 := ⟨k - 1, by omega⟩
      have h2 := hk k (by omega)
      have w1 : wrap64 (m + 1) = m + 1 := by rw [w64 (by omega) (by omega)] <;> omega
      have w2 : wrap64 ((m + 1) + 1) = m + 2 := by rw [w64 (by omega) (by omega)] <;> omega
      have wi : wrap64 (i + 1) = i + 1 := w64 (by omega) (by omega)
      · simp only [laws_markBoxS.l0]
        rw [if_pos hlt, if_pos h0]
        simp only [Option.bind_some, rdSetBoxS x0 h0 hlt, List.set_set, w1, w2, wi]
        exact h2
    · refine ⟨m, x0, rfl, fun _ _ => rfl, by omega, by omega, fun k hk => ?_⟩
      obtain ⟨k, rfl⟩ : ∃ m, k = m + 1 := ⟨k - 1, by omega⟩
      simp only [laws_markBoxS.l0]
      rw [if_neg hlt]
theorem markBoxS_tells (xs : List S55) (hn : xs.length ≤ 2000000) (m : Int) (h0 : 0 ≤ m) (h1 : m ≤ 1000000000000) :
    ∃ (m' : Int) (l' : List S55), Ev (fun k => laws_markBoxS.f k xs m) (m', l') ∧ m ≤ m' ∧ m' ≤ m + 2 * xs.length ∧ l'.length = xs.length := by
  obtain ⟨m', x', hl, _, h2, h3, hk⟩ := markBoxS_loop xs.length xs m 0 (by omega) (by omega) (by omega) h0 (by omega) (by omega)
  exact ⟨m', x', ⟨xs.length + 1, fun k h => hk k (by omega)⟩, h2, h3, hl⟩

theorem rdSetInt64S (xs : List Int) {i : Int} (h0 : 0 ≤ i) (h1 : i < xs.length) (v : Int) : rd (xs.set i.toNat v) i = v := by
  simp [rd, List.getD_eq_getElem?_getD, List.getElem?_set_self (show i.toNat < xs.length by omega)]
theorem markInt64S_loop (d : Nat) : ∀ (x0 : List Int) (m i : Int), 0 ≤ i → i ≤ x0.length → ((x0.length : Int) - i).toNat ≤ d → 0 ≤ m → m + 1 * d ≤ 4000000000000000000 → x0.length ≤ 4000000000000000000 →
    ∃ (m' : Int) (x' : List Int), x'.length = x0.length ∧ (∀ j : Nat, j < i.toNat → x'[j]? = x0[j]?) ∧ m ≤ m' ∧ m' ≤ m + 1 * d ∧ ∀ k, d < k → laws_markInt64S.l0 k x0 m i = some (m', x') ∧ laws_heldInt64S.l0 k x' m i = some m' := by
  induction d with
  | zero =>
    intro x0 m i h0 h1 hd hm hm2 hn
    refine ⟨m, x0, rfl, fun _ _ => rfl, by omega, by omega, fun k hk => ?_⟩
    obtain ⟨k, rfl⟩ : ∃ m, k = m + 1 := ⟨k - 1, by omega⟩
    simp only [laws_markInt64S.l0, laws_heldInt64S.l0]
    rw [if_neg (by omega), if_neg (by omega)]
    exact ⟨rfl, rfl⟩
  | succ d ih =>
    intro x0 m i h0 h1 hd hm hm2 hn
    by_cases hlt : i < (x0.length : Int)
    · obtain ⟨m', x', hl, hx, hm1, hm3, hk⟩ := ih (x0.set i.toNat m) (m + 1) (i + 1) (by omega) (by rw [List.length_set]; omega) (by rw [List.length_set]; omega) (by omega) (by omega) (by rw [List.length_set]; omega)
      rw [List.length_set] at hl
      refine ⟨m', x', hl, fun j hj => ?_, by omega, by omega, fun k hkd => ?_⟩
      · rw [hx j (by omega), List.getElem?_set_ne (by omega)]
      obtain ⟨k, rfl⟩ : ∃ m, k = m + 1 := ⟨k - 1, by omega⟩
      obtain ⟨h2, h3⟩ := hk k (by omega)
      have hr : rd x' i = m := by
        have := hx i.toNat (by omega)
        rw [List.getElem?_set_self (show i.toNat < x0.length by omega)] at this
        simp [rd, List.getD_eq_getElem?_getD, this]
      have w1 : wrap64 (m + 1) = m + 1 := by rw [w64 (by omega) (by omega)] <;> omega
      have wi : wrap64 (i + 1) = i + 1 := w64 (by omega) (by omega)
      refine ⟨?_, ?_⟩
      · simp only [laws_markInt64S.l0]
        rw [if_pos hlt, if_pos h0]
        simp only [Option.bind_some, rdSetInt64S x0 h0 hlt, List.set_set, w1, wi]
        exact h2
      · simp only [laws_heldInt64S.l0]
        rw [if_pos (by omega), if_pos h0, hr]
        simp only [w1, wi, if_true]
        exact h3
    · refine ⟨m, x0, rfl, fun _ _ => rfl, by omega, by omega, fun k hk => ?_⟩
      obtain ⟨k, rfl⟩ : ∃ m, k = m + 1 := ⟨k - 1, by omega⟩
      simp only [laws_markInt64S.l0, laws_heldInt64S.l0]
      rw [if_neg hlt, if_neg hlt]
      exact ⟨rfl, rfl⟩
theorem markInt64S_tells (xs : List Int) (hn : xs.length ≤ 2000000) (m : Int) (h0 : 0 ≤ m) (h1 : m ≤ 1000000000000) :
    ∃ (m' : Int) (l' : List Int), Ev (fun k => laws_markInt64S.f k xs m) (m', l') ∧ m ≤ m' ∧ m' ≤ m + 1 * xs.length ∧ l'.length = xs.length ∧ Ev (fun k => laws_heldInt64S.f k l' m) m' := by
  obtain ⟨m', x', hl, _, h2, h3, hk⟩ := markInt64S_loop xs.length xs m 0 (by omega) (by omega) (by omega) h0 (by omega) (by omega)
  exact ⟨m', x', ⟨xs.length + 1, fun k h => (hk k (by omega)).1⟩, h2, h3, hl, ⟨xs.length + 1, fun k h => (hk k (by omega)).2⟩⟩

theorem szBoxS_eq (l0 : List S58) (b : Int) (h : -9223372036854775808 ≤ b - (l0.length : Int)) (hb : b ≤ 1000000) : laws_szBoxS.f l0 b = some (if (l0.length : Int) ≤ b then b - (l0.length : Int) else -1) := by
  unfold laws_szBoxS.f
  rw [w64 (by omega) (by omega)]
  by_cases hl : (l0.length : Int) ≤ b
  · rw [if_neg (by omega), if_pos hl]
  · rw [if_pos (by omega), if_neg hl]

def convBoxS (x : S58) : S55 := ⟨x.f0, x.f1⟩
theorem toBoxS_l1 (l0 : List S58) (N : Nat) (hN : N ≤ 4000000) (hn : l0.length ≤ N) (d : Nat) : ∀ (k : Nat) (x5 : List S55) (i : Int), x5.length = N → (l0.length : Int) ≤ i → i ≤ N → ((N : Int) - i).toNat ≤ d → d < k →
    ∃ ext, laws_toBoxSX.l1 k l0 x5 i = some ext ∧ ext.length = N ∧ ext.take l0.length = x5.take l0.length := by
  induction d with
  | zero =>
    intro k x5 i h1 h2 h3 hd hk
    obtain ⟨k, rfl⟩ : ∃ m, k = m + 1 := ⟨k - 1, by omega⟩
    refine ⟨x5, ?_, h1, rfl⟩
    simp only [laws_toBoxSX.l1]
    rw [if_neg (by omega), if_pos (by omega), if_pos (by omega)]
  | succ d ih =>
    intro k x5 i h1 h2 h3 hd hk
    obtain ⟨k, rfl⟩ : ∃ m, k = m + 1 := ⟨k - 1, by omega⟩
    simp only [laws_toBoxSX.l1]
    by_cases hlt : i < (x5.length : Int)
    · rw [if_pos hlt]
      simp only [laws_fillerBox.f, Option.bind_some]
      rw [if_pos (show 0 ≤ i by omega), w64 (by omega) (by omega)]
      refine (ih k _ (i + 1) (by rw [List.length_set]; exact h1) (by omega) (by omega) (by omega) (by omega)).imp fun ext h => ⟨h.1, h.2.1, h.2.2.trans ?_⟩
      exact take_set_far _ _ (by omega)
    · rw [if_neg hlt, if_pos (by omega), if_pos (by omega)]
      exact ⟨x5, rfl, h1, rfl⟩
theorem toBoxS_l0 (l0 : List S58) (N : Nat) (hN : N ≤ 4000000) (hn : l0.length ≤ N) (d : Nat) : ∀ (k : Nat) (x5 : List S55) (i : Int), x5.length = N → 0 ≤ i → i ≤ l0.length → ((l0.length : Int) - i).toNat ≤ d → d + N + 1 < k → x5.take i.toNat = (l0.take i.toNat).map convBoxS →
    ∃ ext, laws_toBoxSX.l0 k l0 x5 i = some ext ∧ ext.length = N ∧ ext.take l0.length = l0.map convBoxS := by
  induction d with
  | zero =>
    intro k x5 i h1 h2 h3 hd hk hx
    obtain ⟨k, rfl⟩ : ∃ m, k = m + 1 := ⟨k - 1, by omega⟩
    simp only [laws_toBoxSX.l0]
    rw [if_neg (by omega)]
    obtain ⟨ext, h4, h5, h6⟩ := toBoxS_l1 l0 N hN hn N k x5 (l0.length : Int) h1 (by omega) (by omega) (by omega) (by omega)
    refine ⟨ext, h4, h5, h6.trans ?_⟩
    have : i.toNat = l0.length := by omega
    rw [this, List.take_length] at hx
    exact hx
  | succ d ih =>
    intro k x5 i h1 h2 h3 hd hk hx
    obtain ⟨k, rfl⟩ : ∃ m, k = m + 1 := ⟨k - 1, by omega⟩
    simp only [laws_toBoxSX.l0]
    by_cases hlt : i < (l0.length : Int)
    · rw [if_pos hlt, if_pos h2]
      simp only [laws_toBox.f, Option.bind_some]
      rw [if_pos (show i < (x5.length : Int) by omega), w64 (by omega) (by omega)]
      refine ih k _ (i + 1) (by rw [List.length_set]; exact h1) (by omega) (by omega) (by omega) (by omega) ?_
      have e : (i + 1).toNat = i.toNat + 1 := by omega
      rw [e, take_set_at _ _ (show i.toNat < x5.length by omega), hx, List.take_succ_eq_append_getElem (show i.toNat < l0.length by omega), List.map_append]
      have hr : rd_T58 l0 i = l0[i.toNat]'(by omega) := by
        simp [rd_T58, List.getD_eq_getElem?_getD, List.getElem?_eq_getElem (show i.toNat < l0.length by omega)]
      simp [hr, convBoxS]
    · rw [if_neg hlt]
      obtain ⟨ext, h4, h5, h6⟩ := toBoxS_l1 l0 N hN hn N k x5 (l0.length : Int) h1 (by omega) (by omega) (by omega) (by omega)
      refine ⟨ext, h4, h5, h6.trans ?_⟩
      have : i.toNat = l0.length := by omega
      rw [this, List.take_length] at hx
      exact hx
theorem toBoxS_false (l0 : List S58) (h : l0.length ≤ 1000000) : ∃ ext, Ev (fun k => laws_toBoxSX.f k l0 false) ext ∧ ext.length = l0.length + room l0.length ∧ ext.take l0.length = l0.map convBoxS := by
  have hr := room_le l0.length
  obtain ⟨k0, hk0⟩ : ∃ k0 : Nat, l0.length + (l0.length + room l0.length) + 1 < k0 := ⟨_, Nat.lt_succ_self _⟩
  obtain ⟨ext, h1, h2, h3⟩ := toBoxS_l0 l0 (l0.length + room l0.length) (by omega) (by omega) l0.length k0 (List.replicate (l0.length + room l0.length) z55) 0 (by simp) (by omega) (by omega) (by omega) hk0 (by simp)
  have hm := laws_toBoxSX.mono l0 false
  refine ⟨ext, Ev.of (k := k0 + 1) hm ?_, h2, h3⟩
  have e : wrap64 ((l0.length : Int) + (room l0.length : Int)) = ((l0.length + room l0.length : Nat) : Int) := by
    rw [w64 (by omega) (by omega)]; omega
  simp only [laws_toBoxSX.f, laws_toBoxSX.j0, Bool.false_eq_true, if_false]
  rw [room_eq l0.length (by omega), Option.bind_some, e, if_pos (by omega), Int.toNat_natCast, if_pos (by omega)]
  exact h1
theorem toBoxS_true (l0 : List S58) (h : l0.length ≤ 1000000) : ∃ extb, Ev (fun k => laws_toBoxSX.f k l0 true) extb ∧ l0.length ≤ extb.length ∧ extb.take l0.length = l0.map convBoxS ∧ (extb = [] → l0.length = 0) := by
  by_cases hz : l0.length = 0
  · have : l0 = [] := List.eq_nil_of_length_eq_zero hz
    subst this
    refine ⟨[], ⟨1, fun k hk => ?_⟩, by simp, by simp, fun _ => rfl⟩
    obtain ⟨k, rfl⟩ : ∃ m, k = m + 1 := ⟨k - 1, by omega⟩
    simp [laws_toBoxSX.f, laws_toBoxSX.j0]
  · obtain ⟨ext, h1, h2, h3⟩ := toBoxS_false l0 h
    refine ⟨ext, Ev.congr (fun k => ?_) h1, by omega, h3, fun e => by rw [e] at h2; simp at h2; omega⟩
    have e : ((l0.length : Int) == 0) = false := by simpa using hz
    simp only [laws_toBoxSX.f, e, Bool.false_eq_true, if_false, if_true]

theorem FnExactFirstLoading : laws_FnExactFirstLoading.Pure := by
  intro l0 a1 hnl0 wa1
  by_cases hs1 : (l0.length : Int) ≤ 1000000
  case neg =>
    exact .inl ⟨-1, by rw [szBoxS_eq _ _ (by omega) (by omega), if_neg hs1], by decide⟩
  refine .inr (?_)
  have hb0 : l0.length ≤ 1000000 := by omega
  have hm0 := room_le l0.length
  obtain ⟨ext0, e0, el0, et0⟩ := toBoxS_false l0 hb0
  obtain ⟨extb0, b0, bl0, bt0, bn0⟩ := toBoxS_true l0 hb0
  have q0 := eqBoxS_refl ext0 (by omega)
  obtain ⟨z_r1, z_r2, s1, s2, hl_z_r1⟩ := core_FnExactFirstLoading (l0.map convBoxS) a1 (by rw [List.length_map]; exact hb0) wa1
  have qq_he_gs_r1_ws_r1 := eqInt64S_refl z_r1 (by omega)
  obtain ⟨mk_0, ml_0, mm0, mp0, mu0, ml0⟩ := markBoxS_tells (l0.map convBoxS) (by (try rw [List.length_map]); omega) 101 (by omega) (by omega)
  have mv0 := mu0
  (try rw [List.length_map] at mv0)
  obtain ⟨mk_1, ml_1, mm1, mp1, mu1, ml1, mh1⟩ := markInt64S_tells z_r1 (by (try rw [List.length_map]); omega) 101 (by omega) (by omega)
  have mv1 := mu1
  (try rw [List.length_map] at mv1)
  obtain ⟨K0_, v_e0⟩ := e0
  obtain ⟨K1_, v_b0⟩ := b0
  obtain ⟨K2_, v_q0⟩ := q0
  obtain ⟨K3_, v_s1⟩ := s1
  obtain ⟨K4_, v_s2⟩ := s2
  obtain ⟨K5_, v_qq_he_gs_r1_ws_r1⟩ := qq_he_gs_r1_ws_r1
  obtain ⟨K6_, v_mm0⟩ := mm0
  obtain ⟨K7_, v_mm1⟩ := mm1
  obtain ⟨K8_, v_mh1⟩ := mh1
  refine ⟨K0_ + K1_ + K2_ + K3_ + K4_ + K5_ + K6_ + K7_ + K8_, (l0.map convBoxS), ext0, extb0, (room l0.length : Int), (1000000 - (l0.length : Int)), z_r1, z_r2, z_r1, mk_0, ml_0, mk_1, ml_1, ?_⟩
  exact { hto0 := v_e0 (K0_ + K1_ + K2_ + K3_ + K4_ + K5_ + K6_ + K7_ + K8_) (by omega), htob0 := v_b0 (K0_ + K1_ + K2_ + K3_ + K4_ + K5_ + K6_ + K7_ + K8_) (by omega), hxl0 := List.length_map .., hnb0 := bn0, hne0 := fun h => by rw [h] at el0; simp at el0; unfold room at el0; split at el0 <;> (try split at el0) <;> omega, hxe0 := by rw [List.length_map]; exact et0.symm, hxb0 := by rw [List.length_map]; exact bt0.symm, hle0 := by rw [List.length_map]; omega, hlb0 := by rw [List.length_map]; exact bl0, hrm0 := by rw [List.length_map]; exact room_eq _ (by omega), hj0 := by rw [List.length_map, el0]; exact rooms hb0, heqx0 := v_q0 (K0_ + K1_ + K2_ + K3_ + K4_ + K5_ + K6_ + K7_ + K8_) (by omega), hz1 := by rw [szBoxS_eq _ _ (by omega) (by omega), if_pos hs1], hn1 := decide_eq_false (by omega), hfspec := v_s1 (K0_ + K1_ + K2_ + K3_ + K4_ + K5_ + K6_ + K7_ + K8_) (by omega), hfimpl := v_s2 (K0_ + K1_ + K2_ + K3_ + K4_ + K5_ + K6_ + K7_ + K8_) (by omega), he_gs_r1_ws_r1 := v_qq_he_gs_r1_ws_r1 (K0_ + K1_ + K2_ + K3_ + K4_ + K5_ + K6_ + K7_ + K8_) (by omega), hm0 := v_mm0 (K0_ + K1_ + K2_ + K3_ + K4_ + K5_ + K6_ + K7_ + K8_) (by omega), hmn0 := decide_eq_false (by omega), hm1 := v_mm1 (K0_ + K1_ + K2_ + K3_ + K4_ + K5_ + K6_ + K7_ + K8_) (by omega), hmn1 := decide_eq_false (by omega), hml1 := ml1.symm, hh_ml_1 := v_mh1 (K0_ + K1_ + K2_ + K3_ + K4_ + K5_ + K6_ + K7_ + K8_) (by omega) }

end Go.Proofs.Ytjnfimhckeihhaa.Pure
