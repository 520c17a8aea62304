/- The statement over numbers and lists for FnExactLeastLimit: the reference and the program answer alike for all arguments. -/
import Derived.Test.YtjnfimhckeihhaaXFnExactLeastLimit
set_option linter.unusedVariables false
set_option linter.unusedSimpArgs false
namespace Go.Proofs.Ytjnfimhckeihhaa.Pure
open Go.RowKit Go.Proofs.Ytjnfimhckeihhaa.PFnExactLeastLimit Go.Proofs.YtjnfimhckeihhaaW.PrintWords Go.Proofs.YtjnfimhckeihhaaW.PrintLast Go.Proofs.YtjnfimhckeihhaaW.PrintMore
open Go.Proofs.YtjnfimhckeihhaaX

theorem w64 {x : Int} (h0 : -9223372036854775808 ≤ x) (h1 : x ≤ 9223372036854775807) : wrap64 x = x := by unfold wrap64; omega
theorem Ev_ite {α : Type} {c : Prop} [Decidable c] {g h : Nat → Option α} {r : α} (h1 : c → Ev g r) (h2 : ¬ c → Ev h r) : Ev (fun k => if c then g k else h k) r := by
  by_cases hc : c
  · obtain ⟨K, hK⟩ := h1 hc
    exact ⟨K, fun k hk => (if_pos hc).trans (hK k hk)⟩
  · obtain ⟨K, hK⟩ := h2 hc
    exact ⟨K, fun k hk => (if_neg hc).trans (hK k hk)⟩
theorem Ev_pos {α : Type} {c : Prop} [Decidable c] {g h : Nat → Option α} {r : α} (hc : c) (h1 : Ev g r) : Ev (fun k => if c then g k else h k) r := Ev_ite (fun _ => h1) (fun n => absurd hc n)
theorem Ev_neg {α : Type} {c : Prop} [Decidable c] {g h : Nat → Option α} {r : α} (hc : ¬ c) (h1 : Ev h r) : Ev (fun k => if c then g k else h k) r := Ev_ite (fun n => absurd n hc) (fun _ => h1)
theorem Ev_some {α : Type} {r q : α} (h : r = q) : Ev (fun _ => some r) q := h ▸ Ev.now r
theorem Ev_eq {α : Type} {g : Nat → Option α} {r q : α} (h : r = q) (k : Ev g r) : Ev g q := h ▸ k
theorem Ev_const {α : Type} {o : Option α} {r : α} (h : o = some r) : Ev (fun _ => o) r := by subst h; exact Ev.now r
theorem Ev_bindc {α β : Type} {o : Option α} {f : Nat → α → Option β} {a : α} {r : β} (h : o = some a) (k : Ev (fun n => f n a) r) : Ev (fun n => o.bind (f n)) r := by subst h; exact k
theorem Ev_unique {α : Type} {g : Nat → Option α} {r q : α} (h : Ev g r) (k : Ev g q) : r = q := by
  obtain ⟨K, h⟩ := h
  obtain ⟨L, k⟩ := k
  have h1 := h (max K L) (by omega)
  have h2 := k (max K L) (by omega)
  rw [h1] at h2
  exact Option.some.inj h2
theorem lit64 {x : Int} (h : (Lit.int .i64 x).wf = true) : -9223372036854775808 ≤ x ∧ x ≤ 9223372036854775807 := by
  have h := h
  simp [Lit.wf, IntKind.min, IntKind.max, IntKind.bits, IntKind.signed] at h
  omega
theorem mn_eq (a b : Int) : mn a b = min a b := by unfold mn; omega
theorem mx_eq (a b : Int) : mx a b = max a b := by unfold mx; omega

/-- A loop over the numbers 0 to n - 1: d rounds from i on. -/
def forM {S ρ : Type} (step : S → Int → ρ ⊕ S) (out : S → ρ) : Nat → S → Int → ρ
  | 0, s, _ => out s
  | d + 1, s, i => match step s i with
    | .inl r => r
    | .inr s' => forM step out d s' (i + 1)
theorem Ev_for {S ρ : Type} {F : Nat → S → Int → Option ρ} {step : S → Int → ρ ⊕ S} {out : S → ρ} {n : Nat} (Inv : S → Int → Prop)
    (hend : ∀ s, Inv s n → ∃ K, ∀ k, K ≤ k → F k s n = some (out s))
    (hstep : ∀ (s : S) (i : Int), 0 ≤ i → i < n → Inv s i → (∃ r, step s i = .inl r ∧ ∃ K, ∀ k, K ≤ k → F k s i = some r) ∨ (∃ s', step s i = .inr s' ∧ Inv s' (i + 1) ∧ ∃ K, ∀ k, K ≤ k → F (k + 1) s i = F k s' (i + 1))) :
    ∀ (d : Nat) (s : S) (i : Int), 0 ≤ i → i + d = n → Inv s i → Ev (fun k => F k s i) (forM step out d s i) := by
  intro d
  induction d with
  | zero =>
    intro s i h0 h1 hI
    obtain rfl : i = n := by omega
    exact hend s hI
  | succ d ih =>
    intro s i h0 h1 hI
    rcases hstep s i h0 (by omega) hI with ⟨r, hr, hK⟩ | ⟨s', hs, hI', K, hK⟩
    · simp only [forM, hr]
      exact hK
    · simp only [forM, hs]
      obtain ⟨K', h⟩ := ih s' (i + 1) (by omega) (by omega) hI'
      refine ⟨K + K' + 1, fun k hk => ?_⟩
      obtain ⟨k, rfl⟩ : ∃ m, k = m + 1 := ⟨k - 1, by omega⟩
      exact (hK k (by omega)).trans (h k (by omega))
/-- What holds at the end of a loop. -/
theorem forM_ind {S ρ : Type} {step : S → Int → ρ ⊕ S} {out : S → ρ} {n : Nat} (Inv : S → Int → Prop) (Post : ρ → Prop) (hend : ∀ s, Inv s n → Post (out s))
    (hstep : ∀ (s : S) (i : Int), 0 ≤ i → i < n → Inv s i → (∀ r, step s i = .inl r → Post r) ∧ ∀ s', step s i = .inr s' → Inv s' (i + 1)) : ∀ (d : Nat) (s : S) (i : Int), 0 ≤ i → i + d = n → Inv s i → Post (forM step out d s i) := by
  intro d
  induction d with
  | zero =>
    intro s i h0 h1 hI
    obtain rfl : i = n := by omega
    exact hend s hI
  | succ d ih =>
    intro s i h0 h1 hI
    obtain ⟨h2, h3⟩ := hstep s i h0 (by omega) hI
    simp only [forM]
    cases hs : step s i with
    | inl r => exact h2 r hs
    | inr s' => exact ih s' (i + 1) (by omega) (by omega) (h3 s' hs)

theorem Ev_succ {α : Type} {g : Nat → Option α} {r : α} (h : Ev (fun k => g (k + 1)) r) : Ev g r := Ev.step (fun _ => rfl) h
theorem Ev_for2 {S ρ : Type} {F : Nat → S → Int → Option ρ} {step : S → Int → ρ ⊕ S} {out : S → ρ} {n : Nat} (Inv : S → Int → Prop)
    (hend : ∀ s, Inv s n → Ev (fun k => F k s n) (out s))
    (hstep : ∀ (s : S) (i : Int), 0 ≤ i → i < n → Inv s i → (∃ r, step s i = .inl r ∧ Ev (fun k => F k s i) r) ∨ (∃ s', step s i = .inr s' ∧ Inv s' (i + 1) ∧ ∀ r, Ev (fun k => F k s' (i + 1)) r → Ev (fun k => F k s i) r)) :
    ∀ (d : Nat) (s : S) (i : Int), 0 ≤ i → i + d = n → Inv s i → Ev (fun k => F k s i) (forM step out d s i) := by
  intro d
  induction d with
  | zero =>
    intro s i h0 h1 hI
    obtain rfl : i = n := by omega
    exact hend s hI
  | succ d ih =>
    intro s i h0 h1 hI
    rcases hstep s i h0 (by omega) hI with ⟨r, hr, hK⟩ | ⟨s', hs, hI', hK⟩
    · simp only [forM, hr]
      exact hK
    · simp only [forM, hs]
      exact hK _ (ih s' (i + 1) (by omega) (by omega) hI')
/-- A loop over a list that only gathers: a fold. -/
theorem forM_fold {S ρ α : Type} (xs : List α) (rdx : Int → α) (hrd : ∀ (j : Nat) (h : j < xs.length), rdx j = xs[j]) (upd : S → α → S) (out : S → ρ) (d : Nat) : ∀ (s : S) (i : Nat), i + d = xs.length →
    forM (ρ := ρ) (fun s i => .inr (upd s (rdx i))) out d s i = out ((xs.drop i).foldl upd s) := by
  induction d with
  | zero =>
    intro s i hi
    rw [List.drop_eq_nil_of_le (by omega)]
    rfl
  | succ d ih =>
    intro s i hi
    rw [List.drop_eq_getElem_cons (show i < xs.length by omega)]
    simp only [forM, List.foldl_cons]
    have := ih (upd s (rdx i)) (i + 1) (by omega)
    rw [← hrd i (by omega)]
    exact this
theorem forM_fold0 {S ρ α : Type} (xs : List α) (rdx : Int → α) (hrd : ∀ (j : Nat) (h : j < xs.length), rdx j = xs[j]) (upd : S → α → S) (out : S → ρ) (s : S) :
    forM (ρ := ρ) (fun s i => .inr (upd s (rdx i))) out xs.length s 0 = out (xs.foldl upd s) := by
  have := forM_fold xs rdx hrd upd out xs.length s 0 (by omega)
  rw [List.drop_zero] at this
  exact this
/-- A loop that looks at each place, and stops at the first that fails. -/
theorem forM_all {p : Int → Bool} {b : Bool} {n : Nat} (d : Nat) : ∀ i : Int, 0 ≤ i → i + d = n → (forM (S := Unit) (ρ := Bool) (fun _ i => if p i = true then .inr () else .inl false) (fun _ => b) d () i = true ↔ b = true ∧ ∀ j : Int, i ≤ j → j < n → p j = true) := by
  induction d with
  | zero =>
    intro i h0 hi
    simp only [forM]
    exact ⟨fun h => ⟨h, fun j h1 h2 => by omega⟩, fun h => h.1⟩
  | succ d ih =>
    intro i h0 hi
    simp only [forM]
    by_cases hp : p i = true
    · rw [if_pos hp]
      refine (ih (i + 1) (by omega) (by omega)).trans ⟨fun h => ⟨h.1, fun j h1 h2 => ?_⟩, fun h => ⟨h.1, fun j h1 h2 => h.2 j (by omega) h2⟩⟩
      by_cases hj : j = i
      · rw [hj]; exact hp
      · exact h.2 j (by omega) h2
    · rw [if_neg hp]
      exact ⟨(fun h => by cases h), fun h => absurd (h.2 i (Int.le_refl _) (by omega)) hp⟩

theorem within_eq (a lo hi : Int) : impl_within.f a lo hi = some (decide (lo ≤ a ∧ a ≤ hi)) := by
  unfold impl_within.f
  by_cases h : lo ≤ a <;> simp [h]

theorem l01In_eq (a lo hi : Int) : spec_l01In.f a lo hi = some (decide (lo ≤ a ∧ a ≤ hi)) := by
  unfold spec_l01In.f
  by_cases h : a ≥ lo
  · have : lo ≤ a := h
    simp [this]
  · have : ¬ lo ≤ a := h
    simp [this]

theorem rdBox {xs : List S55} {i : Int} (h0 : 0 ≤ i) (h1 : i < xs.length) : rd_T55 xs i = xs[i.toNat]'(by omega) := by
  simp [rd_T55, List.getD_eq_getElem?_getD, List.getElem?_eq_getElem (show i.toNat < xs.length by omega)]
def okBox (xs : List S55) (i : Int) : Bool := decide ((1 ≤ (rd_T55 xs i).f0 ∧ (rd_T55 xs i).f0 ≤ 1000000) ∧ 0 ≤ (rd_T55 xs i).f1 ∧ (rd_T55 xs i).f1 ≤ 3)
def areBoxes (xs : List S55) : Bool := forM (S := Unit) (fun _ i => if okBox xs i = true then .inr () else .inl false) (fun _ => decide (xs.length ≤ 7)) xs.length () 0
theorem areBoxes_iff (xs : List S55) : areBoxes xs = true ↔ xs.length ≤ 7 ∧ ∀ i : Int, 0 ≤ i → i < xs.length → okBox xs i = true := by
  unfold areBoxes
  refine (forM_all (p := okBox xs) (n := xs.length) xs.length 0 (by omega) (by omega)).trans ?_
  rw [decide_eq_true_eq]
theorem spec_AreBoxes_ev (xs : List S55) (hn : xs.length ≤ 1000000) : Ev (fun k => spec_AreBoxes.f k xs) (areBoxes xs) := by
  unfold spec_AreBoxes.f
  refine Ev_for2 (F := fun k (_ : Unit) i => spec_AreBoxes.l0 k xs i) (n := xs.length) (fun _ _ => True)
    (fun s hI => Ev_succ (by
      simp only [spec_AreBoxes.l0]
      refine Ev_neg (by omega) (Ev_some ?_)
      rw [decide_eq_decide]
      omega))
    (fun s i h0 h1 hI => ?_) xs.length () 0 (by omega) (by omega) trivial
  by_cases hok : okBox xs i = true
  · have hk := of_decide_eq_true hok
    refine .inr ⟨(), if_pos hok, trivial, fun r hr => Ev_succ (by
      simp only [spec_AreBoxes.l0, l01In_eq, Option.bind_some, decide_eq_true_eq]
      refine Ev_pos h1 (Ev_pos h0 (Ev_pos hk.1 (Ev_pos hk.2 ?_)))
      rw [w64 (by omega) (by omega)]
      exact hr)⟩
  · refine .inl ⟨false, if_neg hok, Ev_succ (by
      simp only [spec_AreBoxes.l0, l01In_eq, Option.bind_some, decide_eq_true_eq]
      refine Ev_pos h1 (Ev_pos h0 (Ev_ite (fun ha => ?_) (fun ha => Ev.now _)))
      exact Ev_neg (fun hb => hok (decide_eq_true ⟨ha, hb⟩)) (Ev.now _))⟩
theorem impl_AreBoxes_ev (xs : List S55) : Ev (fun k => impl_AreBoxes.f k xs) (areBoxes xs) := by
  unfold impl_AreBoxes.f
  refine Ev_ite (fun h => Ev_some ?_) (fun h => ?_)
  · symm
    rw [Bool.eq_false_iff]
    exact fun h2 => by have := ((areBoxes_iff xs).1 h2).1; omega
  · unfold areBoxes
    rw [decide_eq_true (show xs.length ≤ 7 by omega)]
    refine Ev_for2 (F := fun k (_ : Unit) i => impl_AreBoxes.l0 k xs (xs.length : Int) i) (n := xs.length) (fun _ _ => True)
      (fun s hI => Ev_succ (by
        simp only [impl_AreBoxes.l0]
        exact Ev_neg (by omega) (Ev.now _)))
      (fun s i h0 h1 hI => ?_) xs.length () 0 (by omega) (by omega) trivial
    by_cases hok : okBox xs i = true
    · have hk := of_decide_eq_true hok
      refine .inr ⟨(), if_pos hok, trivial, fun r hr => Ev_succ (by
        simp only [impl_AreBoxes.l0, within_eq, Option.bind_some, decide_eq_true_eq]
        refine Ev_pos h1 (Ev_pos h0 (Ev_pos h1 (Ev_pos hk.1 (Ev_pos hk.2 ?_))))
        rw [w64 (by omega) (by omega)]
        exact hr)⟩
    · refine .inl ⟨false, if_neg hok, Ev_succ (by
        simp only [impl_AreBoxes.l0, within_eq, Option.bind_some, decide_eq_true_eq]
        refine Ev_pos h1 (Ev_pos h0 (Ev_pos h1 (Ev_ite (fun ha => ?_) (fun ha => Ev.now _))))
        exact Ev_neg (fun hb => hok (decide_eq_true ⟨ha, hb⟩)) (Ev.now _))⟩

/-- A loop that never stops before its end. -/
def foldU {S : Type} (upd : S → Int → S) : Nat → S → Int → S
  | 0, s, _ => s
  | d + 1, s, i => foldU upd d (upd s i) (i + 1)
theorem foldU_ind {S : Type} {upd : S → Int → S} {n : Int} (Inv : S → Int → Prop) (hstep : ∀ (s : S) (i : Int), 0 ≤ i → i < n → Inv s i → Inv (upd s i) (i + 1)) : ∀ (d : Nat) (s : S) (i : Int), 0 ≤ i → i + d = n → Inv s i → Inv (foldU upd d s i) n := by
  intro d
  induction d with
  | zero => intro s i h0 h1 hI; obtain rfl : i = n := by omega
            exact hI
  | succ d ih => intro s i h0 h1 hI; exact ih _ _ (by omega) (by omega) (hstep s i h0 (by omega) hI)
theorem Ev_forK {S τ : Type} {F : Nat → S → Int → Option τ} {upd : S → Int → S} {n : Int} {r : τ} (Inv : S → Int → Prop)
    (hstep : ∀ (s : S) (i : Int), 0 ≤ i → i < n → Inv s i → Inv (upd s i) (i + 1) ∧ (Ev (fun k => F k (upd s i) (i + 1)) r → Ev (fun k => F k s i) r)) :
    ∀ (d : Nat) (s : S) (i : Int), 0 ≤ i → i + d = n → Inv s i → (Inv (foldU upd d s i) n → Ev (fun k => F k (foldU upd d s i) n) r) → Ev (fun k => F k s i) r := by
  intro d
  induction d with
  | zero => intro s i h0 h1 hI h; obtain rfl : i = n := by omega
            exact h hI
  | succ d ih =>
    intro s i h0 h1 hI h
    obtain ⟨h2, h3⟩ := hstep s i h0 (by omega) hI
    exact h3 (ih _ _ (by omega) (by omega) h2 h)

theorem Ev_allK {τ : Type} {F : Nat → Int → Option τ} {p : Int → Prop} {n : Int} {r bad : τ}
    (hstep : ∀ i : Int, 0 ≤ i → i < n → (p i → Ev (fun k => F k (i + 1)) r → Ev (fun k => F k i) r) ∧ (¬ p i → r = bad → Ev (fun k => F k i) r)) :
    ∀ (d : Nat) (i : Int), 0 ≤ i → i + d = n → (¬ (∀ j : Int, i ≤ j → j < n → p j) → r = bad) → ((∀ j : Int, i ≤ j → j < n → p j) → Ev (fun k => F k n) r) → Ev (fun k => F k i) r := by
  intro d
  induction d with
  | zero => intro i h0 h1 _ h; obtain rfl : i = n := by omega
            exact h (fun j h2 h3 => by omega)
  | succ d ih =>
    intro i h0 h1 hb hg
    obtain ⟨h2, h3⟩ := hstep i h0 (by omega)
    by_cases hp : p i
    · refine h2 hp (ih (i + 1) (by omega) (by omega) (fun h => hb (fun q => h (fun j h4 h5 => q j (by omega) h5))) (fun h => hg (fun j h4 h5 => ?_)))
      by_cases hj : j = i
      · rw [hj]; exact hp
      · exact h j (by omega) h5
    · exact h3 hp (hb (fun q => hp (q i (Int.le_refl _) (by omega))))

def lone (xs : List S55) (i : Int) : Bool := ((rd_T55 xs i).f1 == 3)
/-- The grams in a vehicle, of the first boxes. -/
def sumTo (xs : List S55) (b : List Int) (u : Int) : Nat → Int
  | 0 => 0
  | i + 1 => sumTo xs b u i + if rd b (i : Int) = u then (rd_T55 xs (i : Int)).f0 else 0
/-- Numbers of vehicles. -/
def Veh (b : List Int) : Prop := ∀ v ∈ b, 0 ≤ v ∧ v ≤ 6
theorem rd_getElem {b : List Int} {i : Int} (h0 : 0 ≤ i) (h1 : i < b.length) : rd b i = b[i.toNat]'(by omega) := by
  simp [rd, List.getD_eq_getElem?_getD, List.getElem?_eq_getElem (show i.toNat < b.length by omega)]
theorem Veh.at {b : List Int} (h : Veh b) {i : Int} (h0 : 0 ≤ i) (h1 : i < b.length) : 0 ≤ rd b i ∧ rd b i ≤ 6 := by
  rw [rd_getElem h0 h1]
  exact h _ (List.getElem_mem _)
theorem box_grams {xs : List S55} (hx : areBoxes xs = true) {i : Int} (h0 : 0 ≤ i) (h1 : i < xs.length) : 1 ≤ (rd_T55 xs i).f0 ∧ (rd_T55 xs i).f0 ≤ 1000000 := (of_decide_eq_true (((areBoxes_iff xs).1 hx).2 i h0 h1)).1
theorem sumTo_bound {xs : List S55} (hx : areBoxes xs = true) (b : List Int) (u : Int) : ∀ i : Nat, i ≤ xs.length → 0 ≤ sumTo xs b u i ∧ sumTo xs b u i ≤ 1000000 * (i : Int) := by
  intro i
  induction i with
  | zero => intro _; simp [sumTo]
  | succ i ih =>
    intro h
    have h2 := ih (by omega)
    have h3 := box_grams hx (i := (i : Int)) (by omega) (by omega)
    simp only [sumTo]
    split <;> omega
/-- The last of some boxes may ride with those before it. -/
def RideP (xs : List S55) (lim : Int) (b : List Int) (l : Int) : Prop := (∀ i : Int, 0 ≤ i → i < l → rd b i = rd b l → lone xs i = lone xs l) ∧ sumTo xs b (rd b l) (l.toNat + 1) ≤ lim
/-- All ride lawfully. -/
def OkAll (xs : List S55) (lim : Int) (b : List Int) : Prop := ∀ i : Int, 0 ≤ i → i < b.length → sumTo xs b (rd b i) b.length ≤ lim ∧ ∀ j : Int, 0 ≤ j → j < i → rd b i = rd b j → lone xs i = lone xs j
noncomputable def rideB (xs : List S55) (lim : Int) (b : List Int) : Bool := open Classical in decide (RideP xs lim b ((b.length : Int) - 1))
noncomputable def okB (xs : List S55) (lim : Int) (b : List Int) : Bool := open Classical in decide (OkAll xs lim b)
theorem rideB_iff {xs : List S55} {lim : Int} {b : List Int} : rideB xs lim b = true ↔ RideP xs lim b ((b.length : Int) - 1) := by unfold rideB; exact @decide_eq_true_iff _ (Classical.propDecidable _)
theorem okB_iff {xs : List S55} {lim : Int} {b : List Int} : okB xs lim b = true ↔ OkAll xs lim b := by unfold okB; exact @decide_eq_true_iff _ (Classical.propDecidable _)
theorem toNat_succ {i : Int} (h : 0 ≤ i) : (i + 1).toNat = i.toNat + 1 := by omega

theorem rd_append {b : List Int} {v i : Int} (h0 : 0 ≤ i) (h1 : i < b.length) : rd (b ++ [v]) i = rd b i := by
  simp only [rd, List.getD_eq_getElem?_getD]
  rw [List.getElem?_append_left (by omega)]
theorem rd_last (b : List Int) (v : Int) : rd (b ++ [v]) (b.length : Int) = v := by
  simp [rd]
theorem sumTo_append (xs : List S55) (b : List Int) (v u : Int) : ∀ i : Nat, i ≤ b.length → sumTo xs (b ++ [v]) u i = sumTo xs b u i := by
  intro i
  induction i with
  | zero => intro _; rfl
  | succ i ih =>
    intro h
    simp only [sumTo]
    rw [ih (by omega), rd_append (by omega) (by omega)]
theorem sumTo_full {xs : List S55} {b : List Int} {v u : Int} : sumTo xs (b ++ [v]) u (b ++ [v]).length = sumTo xs b u b.length + if v = u then (rd_T55 xs (b.length : Int)).f0 else 0 := by
  rw [List.length_append]
  simp only [List.length_singleton, sumTo]
  rw [sumTo_append xs b v u _ (Nat.le_refl _), rd_last]
theorem last_of {b : List Int} {v : Int} : (((b ++ [v]).length : Nat) : Int) - 1 = (b.length : Int) := by
  rw [List.length_append]; simp
theorem ok_append {xs : List S55} {lim : Int} {b : List Int} {v : Int} (h : OkAll xs lim b) : OkAll xs lim (b ++ [v]) ↔ RideP xs lim (b ++ [v]) (b.length : Int) := by
  have hlen : (((b ++ [v]).length : Nat) : Int) = (b.length : Int) + 1 := by rw [List.length_append]; simp
  have hnat : (b ++ [v]).length = (b.length : Int).toNat + 1 := by rw [List.length_append]; simp
  constructor
  · intro h2
    obtain ⟨h3, h4⟩ := h2 (b.length : Int) (by omega) (by omega)
    exact ⟨fun i h5 h6 h7 => (h4 i h5 h6 h7.symm).symm, by rw [← hnat]; exact h3⟩
  · intro h2 i h5 h6
    by_cases hi : i = (b.length : Int)
    · subst hi
      exact ⟨by rw [hnat]; exact h2.2, fun j h7 h8 h9 => (h2.1 j h7 h8 h9.symm).symm⟩
    · have hib : i < b.length := by omega
      have h3 := h i h5 hib
      rw [rd_append h5 hib]
      refine ⟨?_, fun j h7 h8 h9 => ?_⟩
      · rw [sumTo_full]
        by_cases hv : v = rd b i
        · have := h2.2
          rw [← hnat, rd_last, sumTo_full, if_pos rfl] at this
          rw [if_pos hv, ← hv]
          exact this
        · rw [if_neg hv, Int.add_zero]
          exact h3.1
      · rw [rd_append h7 (by omega)] at h9
        exact h3.2 j h7 h8 h9
theorem ok_nil (xs : List S55) (lim : Int) : OkAll xs lim [] := fun i h0 h1 => by simp at h1; omega
theorem okB_append {xs : List S55} {lim : Int} {b : List Int} {v : Int} (h : OkAll xs lim b) : okB xs lim (b ++ [v]) = rideB xs lim (b ++ [v]) := by
  rw [Bool.eq_iff_iff, okB_iff, rideB_iff, last_of]
  exact ok_append h
theorem Veh.append {b : List Int} (h : Veh b) {v : Int} (hv : 0 ≤ v ∧ v ≤ 6) : Veh (b ++ [v]) := fun x hx => by
  rcases List.mem_append.1 hx with hx | hx
  · exact h x hx
  · rw [List.mem_singleton.1 hx]; exact hv
theorem Veh.nil : Veh [] := fun x hx => by cases hx

/-- How many vehicles are used. -/
def usedM (b : List Int) : Int := b.foldl (fun m v => max m (v + 1)) 0
theorem usedM_append (b : List Int) (v : Int) : usedM (b ++ [v]) = max (usedM b) (v + 1) := by simp [usedM]
theorem usedM_bound {b : List Int} (hb : Veh b) : 0 ≤ usedM b ∧ usedM b ≤ 7 := by
  unfold usedM
  have : ∀ (b : List Int) (m : Int), Veh b → 0 ≤ m → m ≤ 7 → 0 ≤ b.foldl (fun m v => max m (v + 1)) m ∧ b.foldl (fun m v => max m (v + 1)) m ≤ 7 := by
    intro b
    induction b with
    | nil => intro m _ h1 h2; exact ⟨h1, h2⟩
    | cons v b ih =>
      intro m hb h1 h2
      have := hb v (List.mem_cons_self ..)
      exact ih (max m (v + 1)) (fun x hx => hb x (List.mem_cons_of_mem _ hx)) (by omega) (by omega)
  exact this b 0 hb (by omega) (by omega)
theorem rdNat {b : List Int} (j : Nat) (h : j < b.length) : rd b (j : Int) = b[j] := by
  rw [rd_getElem (by omega) (by omega)]; rfl
theorem impl_used_ev {b : List Int} (hb : Veh b) (hl : b.length ≤ 1000000) : Ev (fun k => impl_used.f k b) (usedM b) := by
  have h := Ev_for2 (F := fun k s i => impl_used.l0 k s b (b.length : Int) i) (step := fun s i => .inr ((fun (m v : Int) => max m (v + 1)) s (rd b i))) (out := fun s => s) (n := b.length) (fun _ _ => True)
    (fun s hI => Ev_succ (by simp only [impl_used.l0]; exact Ev_neg (by omega) (Ev.now _)))
    (fun s i h0 h1 hI => .inr ⟨_, rfl, trivial, fun r hr => Ev_succ (by
      simp only [impl_used.l0]
      have := hb.at h0 h1
      refine Ev_pos h1 (Ev_pos h0 (Ev_pos h1 ?_))
      rw [w64 (x := rd b i + 1) (by omega) (by omega), w64 (by omega) (by omega), mx_eq]
      exact hr)⟩) b.length 0 0 (by omega) (by omega) trivial
  rw [forM_fold0 b (rd b) (fun j hj => rdNat j hj) (fun (m v : Int) => max m (v + 1)) (fun s => s) 0] at h
  exact h

/-- All loadings that begin with some numbers, in order. -/
noncomputable def loadsM (xs : List S55) (lim most : Int) : Nat → List Int → List (List Int)
  | 0, b => [b]
  | d + 1, b => foldU (fun s v => if rideB xs lim (b ++ [v]) = true then s ++ loadsM xs lim most d (b ++ [v]) else s) (min (usedM b + 1) most).toNat [] 0
theorem loadsM_length (xs : List S55) (lim : Int) {most : Int} (hm : 0 ≤ most ∧ most ≤ 7) : ∀ (d : Nat) (b : List Int), Veh b → (loadsM xs lim most d b).length ≤ 7 ^ d := by
  intro d
  induction d with
  | zero => intro b _; simp [loadsM]
  | succ d ih =>
    intro b hb
    have hu := usedM_bound hb
    obtain ⟨P, hP⟩ : ∃ P : Nat, P = 7 ^ d := ⟨_, rfl⟩
    have := foldU_ind (upd := fun s v => if rideB xs lim (b ++ [v]) = true then s ++ loadsM xs lim most d (b ++ [v]) else s) (n := min (usedM b + 1) most) (fun s v => (s.length : Int) ≤ (P : Int) * v) (fun s v h0 h1 hI => by
      have e : (P : Int) * (v + 1) = (P : Int) * v + P := by rw [Int.mul_add, Int.mul_one]
      rw [e]
      split
      · have := ih (b ++ [v]) (hb.append (by omega))
        rw [List.length_append]
        omega
      · omega) (min (usedM b + 1) most).toNat [] 0 (by omega) (by omega) (by simp)
    have h7 : (P : Int) * min (usedM b + 1) most ≤ (P : Int) * 7 := Int.mul_le_mul_of_nonneg_left (by omega) (by omega)
    unfold loadsM
    rw [Nat.pow_succ, ← hP]
    omega
theorem pow7 {d : Nat} (h : d ≤ 7) : 7 ^ d ≤ 823543 := by
  have : 7 ^ d ≤ 7 ^ 7 := Nat.pow_le_pow_right (by omega) h
  exact this

theorem rd_set {s : List Int} {j v u : Int} (h0 : 0 ≤ j) (h1 : j < s.length) (h2 : 0 ≤ u) : rd (s.set j.toNat v) u = if u = j then v else rd s u := by
  by_cases h : u = j
  · rw [if_pos h, h]
    simp [rd, List.getD_eq_getElem?_getD, List.getElem?_set_self (show j.toNat < s.length by omega)]
  · rw [if_neg h]
    simp only [rd, List.getD_eq_getElem?_getD]
    rw [List.getElem?_set_ne (by omega)]
theorem l28Sums_ev {xs : List S55} (hx : areBoxes xs = true) {b : List Int} (hb : Veh b) (h1 : b.length ≤ xs.length) : ∃ s, Ev (fun k => spec_l28Sums.f k xs b) s ∧ s.length = 7 ∧ ∀ u : Int, 0 ≤ u → u ≤ 6 → rd s u = sumTo xs b u b.length := by
  have hn := ((areBoxes_iff xs).1 hx).1
  have hstep : ∀ (s : List Int) (i : Int), 0 ≤ i → i < b.length → (s.length = 7 ∧ ∀ u : Int, 0 ≤ u → u ≤ 6 → rd s u = sumTo xs b u i.toNat) → ((s.set (rd b i).toNat (wrap64 (rd s (rd b i) + (rd_T55 xs i).f0))).length = 7 ∧ ∀ u : Int, 0 ≤ u → u ≤ 6 → rd (s.set (rd b i).toNat (wrap64 (rd s (rd b i) + (rd_T55 xs i).f0))) u = sumTo xs b u (i + 1).toNat) := fun s i h2 h3 hI => by
    have hv := hb.at h2 h3
    refine ⟨by rw [List.length_set]; exact hI.1, fun u h4 h5 => ?_⟩
    have hs := sumTo_bound hx b (rd b i) i.toNat (by omega)
    have hg := box_grams hx (i := i) h2 (by omega)
    rw [rd_set hv.1 (by omega) h4, toNat_succ h2]
    simp only [sumTo]
    rw [show ((i.toNat : Nat) : Int) = i by omega]
    by_cases hu : u = rd b i
    · rw [if_pos hu, if_pos hu.symm, hI.2 _ hv.1 hv.2, w64 (by omega) (by omega), hu]
    · rw [if_neg hu, if_neg (fun h => hu h.symm), Int.add_zero]
      exact hI.2 u h4 h5
  have h00 : (List.replicate 7 (0 : Int)).length = 7 ∧ ∀ u : Int, 0 ≤ u → u ≤ 6 → rd (List.replicate 7 (0 : Int)) u = sumTo xs b u (0 : Int).toNat := by
    refine ⟨rfl, fun u h4 h5 => ?_⟩
    have : u = 0 ∨ u = 1 ∨ u = 2 ∨ u = 3 ∨ u = 4 ∨ u = 5 ∨ u = 6 := by omega
    rcases this with rfl | rfl | rfl | rfl | rfl | rfl | rfl <;> rfl
  have hfin := foldU_ind (upd := fun s i => s.set (rd b i).toNat (wrap64 (rd s (rd b i) + (rd_T55 xs i).f0))) (n := b.length) (fun s i => s.length = 7 ∧ ∀ u : Int, 0 ≤ u → u ≤ 6 → rd s u = sumTo xs b u i.toNat) hstep b.length (List.replicate 7 0) 0 (by omega) (by omega) h00
  refine ⟨foldU (fun s i => s.set (rd b i).toNat (wrap64 (rd s (rd b i) + (rd_T55 xs i).f0))) b.length (List.replicate 7 0) 0, ?_, hfin.1, hfin.2⟩
  unfold spec_l28Sums.f
  refine Ev_pos (by omega) ?_
  exact Ev_forK (F := fun k s i => spec_l28Sums.l0 k xs b s i) (n := b.length) (fun s i => s.length = 7 ∧ ∀ u : Int, 0 ≤ u → u ≤ 6 → rd s u = sumTo xs b u i.toNat) (fun s i h2 h3 hI => ⟨hstep s i h2 h3 hI, fun hr => Ev_succ (by
    have hv := hb.at h2 h3
    have hl := hI.1
    simp only [spec_l28Sums.l0]
    rw [w64 (x := i + 1) (by omega) (by omega)]
    exact Ev_pos h3 (Ev_pos h2 (Ev_pos hv.1 (Ev_pos (by omega) (Ev_pos (by omega) hr)))))⟩) b.length (List.replicate 7 0) 0 (by omega) (by omega) h00 (fun _ => Ev_succ (by
    simp only [spec_l28Sums.l0]
    exact Ev_neg (by omega) (Ev.now _)))
theorem l28Is_ev {xs : List S55} (hx : areBoxes xs = true) {lim : Int} {b : List Int} (hb : Veh b) (h1 : b.length ≤ xs.length) : Ev (fun k => spec_l28Is.f k xs lim b) (okB xs lim b) := by
  have hn := ((areBoxes_iff xs).1 hx).1
  obtain ⟨s, hs, hs7, hsu⟩ := l28Sums_ev hx hb h1
  unfold spec_l28Is.f
  refine Ev.bind hs ?_
  refine Ev_allK (F := fun k i => spec_l28Is.l0 k xs lim b s i) (p := fun i => sumTo xs b (rd b i) b.length ≤ lim ∧ ∀ j : Int, 0 ≤ j → j < i → rd b i = rd b j → lone xs i = lone xs j) (n := b.length) (bad := false) (fun i h2 h3 => ?_) b.length 0 (by omega) (by omega) (fun h => by
    rw [Bool.eq_false_iff]
    exact fun h2 => h (fun j h3 h4 => okB_iff.1 h2 j h3 h4)) (fun h => Ev_succ (by
    simp only [spec_l28Is.l0]
    refine Ev_neg (by omega) (Ev_some ?_)
    symm
    exact okB_iff.2 (fun i h2 h3 => h i h2 h3)))
  have hv := hb.at h2 h3
  have hin : ∀ r, (¬ (∀ j : Int, 0 ≤ j → j < i → rd b i = rd b j → lone xs i = lone xs j) → r = false) → ((∀ j : Int, 0 ≤ j → j < i → rd b i = rd b j → lone xs i = lone xs j) → Ev (fun k => spec_l28Is.l0 k xs lim b s (i + 1)) r) → Ev (fun k => spec_l28Is.l1 k xs lim b s i 0) r := fun r hbad hgood =>
    Ev_allK (F := fun k j => spec_l28Is.l1 k xs lim b s i j) (p := fun j => rd b i = rd b j → lone xs i = lone xs j) (n := i) (bad := false) (fun j h4 h5 => ⟨fun hp hr => Ev_succ (by
      simp only [spec_l28Is.l1]
      refine Ev_pos h5 (Ev_pos h2 (Ev_pos h3 (Ev_pos h4 (Ev_pos (by omega) ?_))))
      rw [w64 (x := j + 1) (by omega) (by omega)]
      refine Ev_ite (fun hc => ?_) (fun hc => hr)
      have hq := hp hc
      unfold lone at hq
      exact Ev_pos (by omega) (Ev_pos (by omega) (Ev_neg (by rw [hq]; simp) hr))), fun hp hr => Ev_succ (by
      simp only [spec_l28Is.l1]
      have hc : rd b i = rd b j := by
        by_cases hc : rd b i = rd b j
        · exact hc
        · exact absurd (fun h => absurd h hc) hp
      have hq : ¬ lone xs i = lone xs j := fun h => hp (fun _ => h)
      unfold lone at hq
      refine Ev_pos h5 (Ev_pos h2 (Ev_pos h3 (Ev_pos h4 (Ev_pos (by omega) (Ev_pos hc (Ev_pos (by omega) (Ev_pos (by omega) ?_)))))))
      exact Ev_pos (by simpa using hq) (Ev_some hr.symm))⟩) i.toNat 0 (by omega) (by omega) hbad (fun h => Ev_succ (by
      simp only [spec_l28Is.l1]
      rw [w64 (x := i + 1) (by omega) (by omega)]
      exact Ev_neg (by omega) (hgood h)))
  refine ⟨fun hp hr => Ev_succ (by
    simp only [spec_l28Is.l0]
    refine Ev_pos h3 (Ev_pos h2 (Ev_pos hv.1 (Ev_pos (by omega) ?_)))
    rw [hsu _ hv.1 hv.2]
    exact Ev_neg (by have := hp.1; omega) (hin _ (fun h => absurd hp.2 h) (fun _ => hr))), fun hp hr => Ev_succ (by
    simp only [spec_l28Is.l0]
    refine Ev_pos h3 (Ev_pos h2 (Ev_pos hv.1 (Ev_pos (by omega) ?_)))
    rw [hsu _ hv.1 hv.2]
    refine Ev_ite (fun hc => Ev_some hr.symm) (fun hc => hin _ (fun _ => hr) (fun h => absurd ⟨by omega, h⟩ hp)))⟩

/-- The greatest of the first values, and 0. -/
def mxN (f : Int → Int) : Nat → Int
  | 0 => 0
  | j + 1 => max (mxN f j) (f (j : Int))
theorem mxN_same {f g : Int → Int} {n : Nat} (h : ∀ j : Nat, j < n → f (j : Int) = g (j : Int)) : mxN f n = mxN g n := by
  induction n with
  | zero => rfl
  | succ n ih => simp only [mxN]; rw [ih (fun j hj => h j (by omega)), h n (by omega)]
theorem mxN_one {f g : Int → Int} {v n : Nat} (hv : v < n) (h : ∀ j : Nat, j < n → j ≠ v → g (j : Int) = f (j : Int)) (hle : f (v : Int) ≤ g (v : Int)) : mxN g n = max (mxN f n) (g (v : Int)) := by
  induction n with
  | zero => omega
  | succ n ih =>
    simp only [mxN]
    by_cases hn : v = n
    · subst hn
      rw [mxN_same (f := g) (g := f) (n := v) (fun j hj => h j (by omega) (by omega))]
      omega
    · rw [ih (by omega) (fun j hj hne => h j (by omega) hne), h n (by omega) (fun q => hn q.symm)]
      omega
theorem mxN_bound {f : Int → Int} {B : Int} (hB : 0 ≤ B) {n : Nat} (h : ∀ j : Nat, j < n → f (j : Int) ≤ B) : 0 ≤ mxN f n ∧ mxN f n ≤ B := by
  induction n with
  | zero => simp only [mxN]; omega
  | succ n ih =>
    simp only [mxN]
    have h1 := ih (fun j hj => h j (by omega))
    have h2 := h n (by omega)
    omega
theorem mxN_ge {f : Int → Int} {n v : Nat} (hv : v < n) : f (v : Int) ≤ mxN f n := by
  induction n with
  | zero => omega
  | succ n ih =>
    simp only [mxN]
    by_cases hn : v = n
    · subst hn; omega
    · have := ih (by omega); omega
/-- The greatest of the seven sums, of the first boxes. -/
def maxS (xs : List S55) (b : List Int) (i : Nat) : Int := mxN (fun u => sumTo xs b u i) 7
theorem maxS_zero (xs : List S55) (b : List Int) : maxS xs b 0 = 0 := by simp [maxS, mxN, sumTo]
theorem maxS_succ {xs : List S55} (hx : areBoxes xs = true) {b : List Int} (hb : Veh b) (hl : b.length ≤ xs.length) {i : Nat} (hi : i < b.length) : maxS xs b (i + 1) = max (maxS xs b i) (sumTo xs b (rd b (i : Int)) (i + 1)) := by
  have hg := box_grams hx (i := (i : Int)) (by omega) (by omega)
  obtain ⟨h0, h6⟩ := hb.at (i := (i : Int)) (by omega) (by omega)
  obtain ⟨v, hv⟩ : ∃ v : Nat, (v : Int) = rd b (i : Int) := ⟨(rd b (i : Int)).toNat, by omega⟩
  unfold maxS
  have := mxN_one (f := fun u => sumTo xs b u i) (g := fun u => sumTo xs b u (i + 1)) (v := v) (n := 7) (by omega) (fun j hj hne => by
    simp only [sumTo]
    rw [if_neg (by omega), Int.add_zero]) (by
    simp only [sumTo]
    rw [if_pos hv.symm]
    omega)
  rw [this, hv]
theorem maxS_bound {xs : List S55} (hx : areBoxes xs = true) (b : List Int) {i : Nat} (hi : i ≤ xs.length) : 0 ≤ maxS xs b i ∧ maxS xs b i ≤ 7000000 := by
  have hn := ((areBoxes_iff xs).1 hx).1
  exact mxN_bound (by omega) (fun j hj => by have := sumTo_bound hx b (j : Int) i hi; omega)
theorem spec_peak_ev {xs : List S55} {b s : List Int} {n : Nat} (hs : s.length = 7) (h : ∀ u : Int, 0 ≤ u → u ≤ 6 → rd s u = sumTo xs b u n) : Ev (fun k => spec_l28Peak.f k s) (maxS xs b n) := by
  unfold spec_l28Peak.f
  refine Ev_forK (F := fun k m i => spec_l28Peak.l0 k s m i) (upd := fun m i => max m (rd s i)) (n := 7) (fun _ _ => True) (fun m i h0 h1 _ => ⟨trivial, fun hr => Ev_succ (by
    simp only [spec_l28Peak.l0]
    rw [w64 (by omega) (by omega), mx_eq]
    exact Ev_pos (by omega) (Ev_pos h0 hr))⟩) 7 0 0 (by omega) (by omega) trivial (fun _ => Ev_succ (by
    simp only [spec_l28Peak.l0]
    refine Ev_neg (by omega) (Ev_some ?_)
    have e : foldU (fun m i => max m (rd s i)) 7 0 0 = mxN (rd s) 7 := rfl
    rw [e]
    exact mxN_same (fun j hj => h j (by omega) (by omega))))

theorem rd_L_nat {L : List (List Int)} (j : Nat) (h : j < L.length) : rd_L3 L (j : Int) = L[j] := by
  simp [rd_L3, List.getD_eq_getElem?_getD, List.getElem?_eq_getElem h]
theorem rd_L_mem {L : List (List Int)} {i : Int} (h0 : 0 ≤ i) (h1 : i < L.length) : rd_L3 L i ∈ L := by
  have := rd_L_nat i.toNat (show i.toNat < L.length by omega)
  rw [show ((i.toNat : Nat) : Int) = i by omega] at this
  rw [this]
  exact List.getElem_mem _
theorem loads_vehs (xs : List S55) (lim : Int) {most : Int} (hm : 0 ≤ most ∧ most ≤ 7) : ∀ (d : Nat) (b : List Int), Veh b → ∀ l ∈ loadsM xs lim most d b, Veh l ∧ l.length = b.length + d := by
  intro d
  induction d with
  | zero => intro b hb l hl; simp [loadsM] at hl; rw [hl]; exact ⟨hb, rfl⟩
  | succ d ih =>
    intro b hb l hl
    have hub := usedM_bound hb
    unfold loadsM at hl
    have := foldU_ind (upd := fun s v => if rideB xs lim (b ++ [v]) = true then s ++ loadsM xs lim most d (b ++ [v]) else s) (n := min (usedM b + 1) most) (fun s _ => ∀ l ∈ s, Veh l ∧ l.length = b.length + (d + 1)) (fun s v h0 h1 hI l hl => by
      split at hl
      · rcases List.mem_append.1 hl with hl | hl
        · exact hI l hl
        · have := ih (b ++ [v]) (hb.append (by omega)) l hl
          rw [List.length_append] at this
          simp at this
          exact ⟨this.1, by omega⟩
      · exact hI l hl) (min (usedM b + 1) most).toNat [] 0 (by omega) (by omega) (fun l hl => by cases hl)
    exact this l hl

/-- The least of the peaks, -1 where there is none. -/
def leastS (xs : List S55) (L : List (List Int)) (m i : Int) : Int := if m < 0 then maxS xs (rd_L3 L i) xs.length else if maxS xs (rd_L3 L i) xs.length < m then maxS xs (rd_L3 L i) xs.length else m
noncomputable def leastM (xs : List S55) (lim most : Int) : Int := foldU (leastS xs (loadsM xs lim most xs.length [])) (loadsM xs lim most xs.length []).length (-1) 0

theorem impl_peak_loop {xs : List S55} (hx : areBoxes xs = true) {b : List Int} (hb : Veh b) (hl : b.length ≤ xs.length) : ∀ (d i : Nat) (s : List Int), i + d = b.length → s.length = 7 → (∀ u : Int, 0 ≤ u → u ≤ 6 → rd s u = sumTo xs b u i) → Ev (fun k => impl_peakOf.l0 k xs b s (maxS xs b i) (i : Int)) (maxS xs b b.length) := by
  have hn := ((areBoxes_iff xs).1 hx).1
  intro d
  induction d with
  | zero =>
    intro i s hi hs h
    obtain rfl : i = b.length := by omega
    exact Ev_succ (by
      simp only [impl_peakOf.l0]
      exact Ev_neg (by omega) (Ev.now _))
  | succ d ih =>
    intro i s hi hs h
    obtain ⟨h0, h6⟩ := hb.at (i := (i : Int)) (by omega) (by omega)
    have hg := box_grams hx (i := (i : Int)) (by omega) (by omega)
    have hb1 := sumTo_bound hx b (rd b (i : Int)) i (by omega)
    have e : sumTo xs b (rd b (i : Int)) (i + 1) = sumTo xs b (rd b (i : Int)) i + (rd_T55 xs (i : Int)).f0 := by simp [sumTo]
    have h2 := ih (i + 1) (s.set (rd b (i : Int)).toNat (sumTo xs b (rd b (i : Int)) (i + 1))) (by omega) (by rw [List.length_set]; exact hs) (fun u hu0 hu6 => by
      rw [rd_set h0 (by omega) hu0]
      by_cases hu : u = rd b (i : Int)
      · rw [if_pos hu, hu]
      · rw [if_neg hu, h u hu0 hu6]
        simp only [sumTo]
        rw [if_neg (fun q => hu q.symm), Int.add_zero])
    rw [maxS_succ hx hb hl (show i < b.length by omega)] at h2
    refine Ev_succ (by
      simp only [impl_peakOf.l0]
      refine Ev_pos (by omega) (Ev_pos (by omega) (Ev_pos h0 (Ev_pos (by omega) (Ev_pos (by omega) ?_))))
      rw [h _ h0 h6, ← e, w64 (x := sumTo xs b (rd b (i : Int)) (i + 1)) (by omega) (by omega), w64 (x := (i : Int) + 1) (by omega) (by omega), mx_eq]
      exact h2)
theorem impl_peakOf_ev {xs : List S55} (hx : areBoxes xs = true) {b : List Int} (hb : Veh b) (hl : b.length ≤ xs.length) : Ev (fun k => impl_peakOf.f k xs b) (maxS xs b b.length) := by
  unfold impl_peakOf.f
  have h := impl_peak_loop hx hb hl b.length 0 (List.replicate 7 0) (by omega) rfl (fun u h4 h5 => by
    have : u = 0 ∨ u = 1 ∨ u = 2 ∨ u = 3 ∨ u = 4 ∨ u = 5 ∨ u = 6 := by omega
    rcases this with rfl | rfl | rfl | rfl | rfl | rfl | rfl <;> rfl)
  rw [maxS_zero] at h
  exact h

theorem l01Own_eq {b : List Int} (h : b.length ≤ 1000000) : spec_l01Own.f b = some b := by
  unfold spec_l01Own.f
  rw [Option.bind_some, if_pos (by simp; omega), List.nil_append]
theorem spec_all_ev {xs : List S55} (hx : areBoxes xs = true) (lim : Int) {most : Int} (hm : 0 ≤ most ∧ most ≤ 7) : ∀ (d : Nat) (b : List Int), Veh b → OkAll xs lim b → b.length + d = xs.length → Ev (fun k => spec_l28All.f k xs lim most b (usedM b)) (loadsM xs lim most d b) := by
  have hn := ((areBoxes_iff xs).1 hx).1
  intro d
  induction d with
  | zero =>
    intro b hb hok hl
    refine Ev_succ (by
      simp only [spec_l28All.f]
      exact Ev_pos (by omega) (Ev.now _))
  | succ d ih =>
    intro b hb hok hl
    have hu := usedM_bound hb
    have hlen : ∀ v : Int, 0 ≤ v → v < 7 → (loadsM xs lim most d (b ++ [v])).length ≤ 823543 := fun v h0 h1 => Nat.le_trans (loadsM_length xs lim hm d _ (hb.append (by omega))) (pow7 (by omega))
    refine Ev_succ (by
      simp only [spec_l28All.f]
      refine Ev_neg (by omega) ?_
      unfold loadsM
      refine Ev_forK (F := fun k s v => spec_l28All.l0 k xs lim most b (usedM b) s v) (upd := fun s v => if rideB xs lim (b ++ [v]) = true then s ++ loadsM xs lim most d (b ++ [v]) else s) (n := min (usedM b + 1) most) (fun s v => (s.length : Int) ≤ 1000000 * v) (fun s v h0 h1 hI => ⟨?_, fun hr => ?_⟩) (min (usedM b + 1) most).toNat [] 0 (by omega) (by omega) (by simp) (fun hI => ?_)
      · have := hlen v h0 (by omega)
        split
        · rw [List.length_append]; omega
        · omega
      · have hv := hlen v h0 (by omega)
        refine Ev_succ (by
          simp only [spec_l28All.l0]
          refine Ev_pos (by omega) (Ev_succ (by
            rw [decide_eq_true (show v < most by omega)]
            simp only [spec_l28All.j1, if_true]
            refine Ev_bindc (l01Own_eq (by omega)) (Ev_pos (by omega) (Ev_bindc rfl (Ev.bind (l28Is_ev hx (hb.append (by omega)) (by rw [List.length_append]; simp; omega)) ?_)))
            rw [okB_append hok]
            have hw : wrap64 (v + 1) = v + 1 := w64 (by omega) (by omega)
            refine Ev_ite (fun hc => ?_) (fun hc => ?_)
            · rw [if_pos hc] at hr
              have hok2 : OkAll xs lim (b ++ [v]) := okB_iff.1 ((okB_append hok).trans hc)
              have := ih (b ++ [v]) (hb.append (by omega)) hok2 (by rw [List.length_append]; simp; omega)
              rw [usedM_append] at this
              rw [hw, mx_eq]
              exact Ev.bind this (Ev_pos (by omega) hr)
            · rw [if_neg hc] at hr
              rw [hw]
              exact hr)))
      · refine Ev_succ (by
          simp only [spec_l28All.l0]
          refine Ev_ite (fun hc => Ev_succ (by
            rw [decide_eq_false (show ¬ min (usedM b + 1) most < most by omega)]
            simp only [spec_l28All.j1, Bool.false_eq_true, if_false]
            exact Ev.now _)) (fun hc => Ev_succ (by
            simp only [spec_l28All.j1, Bool.false_eq_true, if_false]
            exact Ev.now _))))

theorem impl_mayRide_ev {xs : List S55} (hx : areBoxes xs = true) {lim : Int} {b : List Int} (h0 : 0 < b.length) (h1 : b.length ≤ xs.length) : Ev (fun k => impl_mayRide.f k xs lim b) (rideB xs lim b) := by
  have hn := ((areBoxes_iff xs).1 hx).1
  unfold impl_mayRide.f
  rw [w64 (x := (b.length : Int) - 1) (by omega) (by omega)]
  refine Ev_pos (by omega) (Ev_pos (by omega) ?_)
  obtain ⟨l, hl⟩ : ∃ l : Int, l = (b.length : Int) - 1 := ⟨_, rfl⟩
  rw [← hl]
  have hg := box_grams hx (i := l) (by omega) (by omega)
  have hloop := Ev_allK (F := fun k i => impl_mayRide.l0 k xs lim b l ((rd_T55 xs l).f0 + sumTo xs b (rd b l) i.toNat) i) (p := fun i => rd b i = rd b l → lone xs i = lone xs l) (n := l) (r := rideB xs lim b) (bad := false) (fun i h2 h3 => by
    have hs := sumTo_bound hx b (rd b l) i.toNat (by omega)
    have hgi := box_grams hx (i := i) h2 (by omega)
    have hnext : sumTo xs b (rd b l) (i + 1).toNat = sumTo xs b (rd b l) i.toNat + if rd b i = rd b l then (rd_T55 xs i).f0 else 0 := by
      rw [toNat_succ h2]
      simp only [sumTo]
      rw [show ((i.toNat : Nat) : Int) = i by omega]
    refine ⟨fun hp hr => Ev_succ (by
      simp only [impl_mayRide.l0]
      refine Ev_pos h3 (Ev_pos h2 (Ev_pos (by omega) (Ev_pos (by omega) (Ev_pos (by omega) ?_))))
      rw [w64 (x := i + 1) (by omega) (by omega)]
      rw [hnext] at hr
      refine Ev_ite (fun hc => ?_) (fun hc => ?_)
      · rw [if_pos hc] at hr
        have hq := hp hc
        unfold lone at hq
        refine Ev_pos (by omega) (Ev_pos (by omega) (Ev_neg (by rw [hq]; simp) ?_))
        rw [w64 (by omega) (by omega), Int.add_assoc]
        exact hr
      · rw [if_neg hc, Int.add_zero] at hr
        exact hr), fun hp hr => Ev_succ (by
      simp only [impl_mayRide.l0]
      have hc : rd b i = rd b l := by
        by_cases hc : rd b i = rd b l
        · exact hc
        · exact absurd (fun h => absurd h hc) hp
      have hq : ¬ lone xs i = lone xs l := fun h => hp (fun _ => h)
      unfold lone at hq
      refine Ev_pos h3 (Ev_pos h2 (Ev_pos (by omega) (Ev_pos (by omega) (Ev_pos (by omega) (Ev_pos hc (Ev_pos (by omega) (Ev_pos (by omega) ?_)))))))
      exact Ev_pos (by simpa using hq) (Ev_some hr.symm))⟩) l.toNat 0 (by omega) (by omega) (fun h => by
    rw [Bool.eq_false_iff]
    exact fun h2 => h (fun j h3 h4 => (rideB_iff.1 h2).1 j h3 (by omega) |> fun q => by rw [← hl] at q; exact q)) (fun h => Ev_succ (by
    simp only [impl_mayRide.l0]
    refine Ev_neg (by omega) (Ev_some ?_)
    have e : sumTo xs b (rd b l) (l.toNat + 1) = (rd_T55 xs l).f0 + sumTo xs b (rd b l) l.toNat := by
      simp only [sumTo]
      rw [show ((l.toNat : Nat) : Int) = l by omega, if_pos rfl, Int.add_comm]
    rw [Bool.eq_iff_iff, decide_eq_true_eq, rideB_iff, ← hl, ← e]
    exact ⟨fun q => ⟨h, q⟩, fun q => q.2⟩))
  refine Ev.congr (fun k => ?_) hloop
  simp [sumTo]

theorem copyList_eq {b : List Int} (h : b.length ≤ 1000000) : impl_copyList.f b = some b := by
  unfold impl_copyList.f
  rw [Option.bind_some, if_pos (by simp; omega), List.nil_append]
theorem impl_loads_ev {xs : List S55} (hx : areBoxes xs = true) (lim : Int) {most : Int} (hm : 0 ≤ most ∧ most ≤ 7) : ∀ (d : Nat) (b : List Int), Veh b → b.length + d = xs.length → Ev (fun k => impl_loadings.f k xs lim most b) (loadsM xs lim most d b) := by
  have hn := ((areBoxes_iff xs).1 hx).1
  intro d
  induction d with
  | zero =>
    intro b hb hl
    refine Ev_succ (by
      simp only [impl_loadings.f]
      exact Ev_pos (by omega) (Ev.now _))
  | succ d ih =>
    intro b hb hl
    have hu := usedM_bound hb
    have hlen : ∀ v : Int, 0 ≤ v → v < 7 → (loadsM xs lim most d (b ++ [v])).length ≤ 823543 := fun v h0 h1 => Nat.le_trans (loadsM_length xs lim hm d _ (hb.append (by omega))) (pow7 (by omega))
    refine Ev_succ (by
      simp only [impl_loadings.f]
      refine Ev_neg (by omega) ?_
      unfold loadsM
      refine Ev_forK (F := fun k s v => impl_loadings.l0 k xs lim most b s v) (upd := fun s v => if rideB xs lim (b ++ [v]) = true then s ++ loadsM xs lim most d (b ++ [v]) else s) (n := min (usedM b + 1) most) (fun s v => (s.length : Int) ≤ 1000000 * v) (fun s v h0 h1 hI => ⟨?_, fun hr => ?_⟩) (min (usedM b + 1) most).toNat [] 0 (by omega) (by omega) (by simp) (fun hI => ?_)
      · have := hlen v h0 (by omega)
        split
        · rw [List.length_append]; omega
        · omega
      · have hv := hlen v h0 (by omega)
        refine Ev_succ (by
          simp only [impl_loadings.l0]
          refine Ev.bind (impl_used_ev hb (by omega)) (Ev_pos (by omega) (Ev_succ (by
            rw [decide_eq_true (show v < most by omega)]
            simp only [impl_loadings.j1, if_true]
            refine Ev_bindc (copyList_eq (by omega)) (Ev_pos (by omega) (Ev_bindc rfl (Ev.bind (impl_mayRide_ev hx (by rw [List.length_append]; simp) (by rw [List.length_append]; simp; omega)) ?_)))
            rw [w64 (x := v + 1) (by omega) (by omega)]
            refine Ev_ite (fun hc => ?_) (fun hc => ?_)
            · rw [if_pos hc] at hr
              exact Ev.bind (ih (b ++ [v]) (hb.append (by omega)) (by rw [List.length_append]; simp; omega)) (Ev_pos (by omega) hr)
            · rw [if_neg hc] at hr
              exact hr))))
      · refine Ev_succ (by
          simp only [impl_loadings.l0]
          refine Ev.bind (impl_used_ev hb (by omega)) (Ev_ite (fun hc => Ev_succ (by
            rw [decide_eq_false (show ¬ min (usedM b + 1) most < most by omega)]
            simp only [impl_loadings.j1, Bool.false_eq_true, if_false]
            exact Ev.now _)) (fun hc => Ev_succ (by
            simp only [impl_loadings.j1, Bool.false_eq_true, if_false]
            exact Ev.now _)))))

theorem spec_least_ev {xs : List S55} (hx : areBoxes xs = true) (lim : Int) {most : Int} (hm : 0 ≤ most ∧ most ≤ 7) : Ev (fun k => spec_l28Least.f k xs lim most) (leastM xs lim most) := by
  have hn := ((areBoxes_iff xs).1 hx).1
  have hlen := Nat.le_trans (loadsM_length xs lim hm xs.length [] Veh.nil) (pow7 hn)
  have hveh := loads_vehs xs lim hm xs.length [] Veh.nil
  unfold spec_l28Least.f leastM
  refine Ev.bind (spec_all_ev hx lim hm xs.length [] Veh.nil (ok_nil xs lim) (by simp)) ?_
  obtain ⟨L, hL⟩ : ∃ L, L = loadsM xs lim most xs.length [] := ⟨_, rfl⟩
  rw [← hL] at hlen hveh ⊢
  refine Ev_forK (F := fun k m i => spec_l28Least.l0 k xs L m i) (upd := leastS xs L) (n := L.length) (fun _ _ => True) (fun m i h0 h1 _ => ⟨trivial, fun hr => Ev_succ (by
    obtain ⟨hv, hl⟩ := hveh _ (rd_L_mem h0 h1)
    simp at hl
    obtain ⟨s, hs, hs7, hsu⟩ := l28Sums_ev hx hv (by omega)
    rw [hl] at hsu
    simp only [spec_l28Least.l0]
    refine Ev_pos h1 (Ev_pos h0 (Ev.bind hs (Ev.bind (spec_peak_ev hs7 hsu) ?_)))
    rw [w64 (by omega) (by omega)]
    unfold leastS at hr
    refine Ev_ite (fun hc => by rw [if_pos hc] at hr; exact hr) (fun hc => ?_)
    rw [if_neg hc] at hr
    exact Ev_ite (fun hq => by rw [if_pos hq] at hr; exact hr) (fun hq => by rw [if_neg hq] at hr; exact hr))⟩) L.length (-1) 0 (by omega) (by omega) trivial (fun _ => Ev_succ (by
    simp only [spec_l28Least.l0]
    exact Ev_neg (by omega) (Ev.now _)))
theorem impl_least_ev {xs : List S55} (hx : areBoxes xs = true) (lim : Int) {most : Int} (hm : 0 ≤ most ∧ most ≤ 7) : Ev (fun k => impl_leastPeak.f k xs lim most) (leastM xs lim most) := by
  have hn := ((areBoxes_iff xs).1 hx).1
  have hlen := Nat.le_trans (loadsM_length xs lim hm xs.length [] Veh.nil) (pow7 hn)
  have hveh := loads_vehs xs lim hm xs.length [] Veh.nil
  unfold impl_leastPeak.f leastM
  refine Ev.bind (impl_loads_ev hx lim hm xs.length [] Veh.nil (by simp)) ?_
  obtain ⟨L, hL⟩ : ∃ L, L = loadsM xs lim most xs.length [] := ⟨_, rfl⟩
  rw [← hL] at hlen hveh ⊢
  refine Ev_forK (F := fun k m i => impl_leastPeak.l0 k xs m L (L.length : Int) i) (upd := leastS xs L) (n := L.length) (fun _ _ => True) (fun m i h0 h1 _ => ⟨trivial, fun hr => Ev_succ (by
    obtain ⟨hv, hl⟩ := hveh _ (rd_L_mem h0 h1)
    simp at hl
    have hp := impl_peakOf_ev hx hv (by omega)
    rw [hl] at hp
    simp only [impl_leastPeak.l0]
    refine Ev_pos h1 (Ev_pos h0 (Ev_pos h1 (Ev.bind hp ?_)))
    rw [w64 (by omega) (by omega)]
    unfold leastS at hr
    refine Ev_ite (fun hc => by rw [if_pos hc] at hr; exact hr) (fun hc => ?_)
    rw [if_neg hc] at hr
    exact Ev_ite (fun hq => by rw [if_pos hq] at hr; exact hr) (fun hq => by rw [if_neg hq] at hr; exact hr))⟩) L.length (-1) 0 (by omega) (by omega) trivial (fun _ => Ev_succ (by
    simp only [impl_leastPeak.l0]
    exact Ev_neg (by omega) (Ev.now _)))

def codeB (xs : List S55) (lim : Int) : Int := if areBoxes xs = true then (if 1 ≤ lim ∧ lim ≤ 10000000 then 0 else 2) else 1
theorem codeB_0 {xs : List S55} {lim : Int} (h : codeB xs lim = 0) : areBoxes xs = true ∧ 1 ≤ lim ∧ lim ≤ 10000000 := by
  unfold codeB at h
  by_cases h1 : areBoxes xs = true
  · rw [if_pos h1] at h
    by_cases h2 : 1 ≤ lim ∧ lim ≤ 10000000
    · exact ⟨h1, h2⟩
    · rw [if_neg h2] at h; exact absurd h (by decide)
  · rw [if_neg h1] at h; exact absurd h (by decide)
theorem l28Code_ev (xs : List S55) (hn : xs.length ≤ 1000000) (lim : Int) : Ev (fun k => spec_l28Code.f k xs lim) (codeB xs lim) := by
  unfold spec_l28Code.f codeB
  refine Ev.bind (spec_AreBoxes_ev xs hn) (Ev_ite (fun h => ?_) (fun h => by rw [if_neg h]; exact Ev.now _))
  rw [if_pos h, l01In_eq]
  simp only [Option.bind_some, decide_eq_true_eq]
  exact Ev_ite (fun h => by rw [if_pos h]; exact Ev.now _) (fun h => by rw [if_neg h]; exact Ev.now _)

theorem isMost_eq (a : Int) : impl_isMost.f a = some (decide (1 ≤ a ∧ a ≤ 7)) := by unfold impl_isMost.f; rw [within_eq]; rfl

noncomputable def leastLimitM (xs : List S55) (most : Int) : Int × Int := if areBoxes xs = true then (if 1 ≤ most ∧ most ≤ 7 then (if leastM xs 10000000 most < 0 then (0, 4) else (max 1 (leastM xs 10000000 most), 0)) else (0, 2)) else (0, 1)
theorem codeB_one (xs : List S55) : codeB xs 1 = if areBoxes xs = true then 0 else 1 := by
  unfold codeB
  by_cases h : areBoxes xs = true
  · rw [if_pos h, if_pos h, if_pos (by decide)]
  · rw [if_neg h, if_neg h]
theorem spec_LeastLimit_ev (xs : List S55) (hn : xs.length ≤ 1000000) (most : Int) : Ev (fun k => spec_LeastLimit.f k xs most) (leastLimitM xs most) := by
  unfold spec_LeastLimit.f leastLimitM
  have hc := l28Code_ev xs hn 1
  rw [codeB_one] at hc
  rw [l01In_eq]
  simp only [Option.bind_some]
  by_cases hx : areBoxes xs = true
  · rw [if_pos hx] at hc ⊢
    refine Ev.bind hc (Ev_pos rfl ?_)
    by_cases hm : 1 ≤ most ∧ most ≤ 7
    · rw [if_pos hm, decide_eq_true hm]
      refine Ev_succ (by
        simp only [spec_LeastLimit.j0, Bool.not_true, Bool.false_eq_true, if_false]
        refine Ev_succ (by
          simp only [spec_LeastLimit.j1]
          refine Ev_pos (by simp) (Ev.bind (spec_least_ev hx 10000000 (by omega)) ?_)
          rw [mx_eq]
          exact Ev_ite (fun q => by rw [if_pos q]; exact Ev.now _) (fun q => by rw [if_neg q]; exact Ev.now _)))
    · rw [if_neg hm, decide_eq_false hm]
      refine Ev_succ (by
        simp only [spec_LeastLimit.j0, Bool.not_false, if_true]
        refine Ev_succ (by
          simp only [spec_LeastLimit.j1]
          exact Ev_neg (by decide) (Ev.now _)))
  · rw [if_neg hx] at hc ⊢
    refine Ev.bind hc (Ev_neg (by decide) (Ev_succ (by
      simp only [spec_LeastLimit.j0, Bool.false_eq_true, if_false]
      refine Ev_succ (by
        simp only [spec_LeastLimit.j1]
        exact Ev_neg (by decide) (Ev.now _)))))
theorem impl_LeastLimit_ev (xs : List S55) (most : Int) : Ev (fun k => impl_LeastLimit.f k xs most) (leastLimitM xs most) := by
  unfold impl_LeastLimit.f leastLimitM
  refine Ev.bind (impl_AreBoxes_ev xs) (Ev_ite (fun hx => ?_) (fun hx => by rw [if_neg hx]; exact Ev.now _))
  rw [isMost_eq, if_pos hx]
  simp only [Option.bind_some, decide_eq_true_eq]
  refine Ev_ite (fun hm => ?_) (fun hm => by rw [if_neg hm]; exact Ev.now _)
  rw [if_pos hm]
  refine Ev.bind (impl_least_ev hx 10000000 (by omega)) ?_
  rw [mx_eq]
  exact Ev_ite (fun q => by rw [if_pos q]; exact Ev.now _) (fun q => by rw [if_neg q]; exact Ev.now _)
theorem core_FnExactLeastLimit (xs : List S55) (most : Int) (hn : xs.length ≤ 1000000) (_w2 : (Lit.int .i64 most).wf = true) : ∃ r1 r2, Ev (fun k => spec_LeastLimit.f k xs most) (r1, r2) ∧ Ev (fun k => impl_LeastLimit.f k xs most) (r1, r2) :=
  ⟨_, _, spec_LeastLimit_ev xs hn most, impl_LeastLimit_ev xs most⟩

/-- How much room to..S leaves behind a row of n elements. -/
def room (n : Nat) : Nat := if n % 6 = 5 then 0 else if n % 3 = 0 then 1 else n
theorem room_le (n : Nat) : room n ≤ n + 1 := by unfold room; split <;> (try split) <;> omega
theorem room_eq (n : Nat) (h : n ≤ 9223372036854775807) : laws_roomBehind.f (n : Int) = some (room n : Int) := by
  unfold laws_roomBehind.f room
  rw [Int.tmod_eq_emod_of_nonneg (by omega), Int.tmod_eq_emod_of_nonneg (by omega)]
  by_cases h1 : n % 6 = 5
  · rw [if_pos (by omega), if_pos h1]; rfl
  · rw [if_neg (by omega), if_neg h1]
    by_cases h2 : n % 3 = 0
    · rw [if_pos (by omega), if_pos h2]; rfl
    · rw [if_neg (by omega), if_neg h2]
theorem take_set_far {α : Type} (xs : List α) (y : α) {n m : Nat} (h : n ≤ m) : (xs.set m y).take n = xs.take n := by
  apply List.ext_getElem?
  intro i
  by_cases hi : i < n
  · rw [List.getElem?_take_of_lt hi, List.getElem?_take_of_lt hi, List.getElem?_set_ne (by omega)]
  · rw [List.getElem?_eq_none (by simp; omega), List.getElem?_eq_none (by simp; omega)]
theorem take_set_at {α : Type} (xs : List α) (y : α) {n : Nat} (h : n < xs.length) : (xs.set n y).take (n + 1) = xs.take n ++ [y] := by
  rw [List.take_succ_eq_append_getElem (by rw [List.length_set]; exact h), take_set_far xs y (Nat.le_refl n)]
  simp
theorem rooms {n : Nat} (h : n ≤ 1000000) : wrap64 ((n : Int) + (room n : Int)) = ((n + room n : Nat) : Int) := by
  have := room_le n
  rw [w64 (by omega) (by omega)]; omega

theorem eqBoxS_loop (xs : List S55) (hn : xs.length ≤ 9000000000000000000) (d : Nat) : ∀ (k : Nat) (i : Int), 0 ≤ i → i ≤ xs.length → ((xs.length : Int) - i).toNat ≤ d → d < k → laws_eqBoxS.l0 k xs xs i = some true := by
  induction d with
  | zero =>
    intro k i h0 h1 hd hk
    obtain ⟨k, rfl⟩ : ∃ m, k = m + 1 := ⟨k - 1, by omega⟩
    simp only [laws_eqBoxS.l0]
    rw [if_neg (by omega)]
  | succ d ih =>
    intro k i h0 h1 hd hk
    obtain ⟨k, rfl⟩ : ∃ m, k = m + 1 := ⟨k - 1, by omega⟩
    simp only [laws_eqBoxS.l0]
    by_cases hlt : i < (xs.length : Int)
    · rw [if_pos hlt, if_pos h0, if_pos hlt]
      simp only [laws_eqBox.f, if_true, Option.bind_some]
      rw [w64 (by omega) (by omega)]
      exact ih k (i + 1) (by omega) (by omega) (by omega) (by omega)
    · rw [if_neg hlt]
theorem eqBoxS_refl (xs : List S55) (hn : xs.length ≤ 9000000000000000000) : Ev (fun k => laws_eqBoxS.f k xs xs) true :=
  ⟨xs.length + 1, fun k hk => by
    simp only [laws_eqBoxS.f, if_true]
    exact eqBoxS_loop xs hn xs.length k 0 (by omega) (by omega) (by omega) (by omega)⟩

theorem szBoxS_eq (l0 : List S58) (b : Int) (h : -9223372036854775808 ≤ b - (l0.length : Int)) (hb : b ≤ 1000000) : laws_szBoxS.f l0 b = some (if (l0.length : Int) ≤ b then b - (l0.length : Int) else -1) := by
  unfold laws_szBoxS.f
  rw [w64 (by omega) (by omega)]
  by_cases hl : (l0.length : Int) ≤ b
  · rw [if_neg (by omega), if_pos hl]
  · rw [if_pos (by omega), if_neg hl]

def convBoxS (x : S58) : S55 := ⟨x.f0, x.f1⟩
theorem toBoxS_l1 (l0 : List S58) (N : Nat) (hN : N ≤ 4000000) (hn : l0.length ≤ N) (d : Nat) : ∀ (k : Nat) (x5 : List S55) (i : Int), x5.length = N → (l0.length : Int) ≤ i → i ≤ N → ((N : Int) - i).toNat ≤ d → d < k →
    ∃ ext, laws_toBoxSX.l1 k l0 x5 i = some ext ∧ ext.length = N ∧ ext.take l0.length = x5.take l0.length := by
  induction d with
  | zero =>
    intro k x5 i h1 h2 h3 hd hk
    obtain ⟨k, rfl⟩ : ∃ m, k = m + 1 := ⟨k - 1, by omega⟩
    refine ⟨x5, ?_, h1, rfl⟩
    simp only [laws_toBoxSX.l1]
    rw [if_neg (by omega), if_pos (by omega), if_pos (by omega)]
  | succ d ih =>
    intro k x5 i h1 h2 h3 hd hk
    obtain ⟨k, rfl⟩ : ∃ m, k = m + 1 := ⟨k - 1, by omega⟩
    simp only [laws_toBoxSX.l1]
    by_cases hlt : i < (x5.length : Int)
    · rw [if_pos hlt]
      simp only [laws_fillerBox.f, Option.bind_some]
      rw [if_pos (show 0 ≤ i by omega), w64 (by omega) (by omega)]
      refine (ih k _ (i + 1) (by rw [List.length_set]; exact h1) (by omega) (by omega) (by omega) (by omega)).imp fun ext h => ⟨h.1, h.2.1, h.2.2.trans ?_⟩
      exact take_set_far _ _ (by omega)
    · rw [if_neg hlt, if_pos (by omega), if_pos (by omega)]
      exact ⟨x5, rfl, h1, rfl⟩
theorem toBoxS_l0 (l0 : List S58) (N : Nat) (hN : N ≤ 4000000) (hn : l0.length ≤ N) (d : Nat) : ∀ (k : Nat) (x5 : List S55) (i : Int), x5.length = N → 0 ≤ i → i ≤ l0.length → ((l0.length : Int) - i).toNat ≤ d → d + N + 1 < k → x5.take i.toNat = (l0.take i.toNat).map convBoxS →
    ∃ ext, laws_toBoxSX.l0 k l0 x5 i = some ext ∧ ext.length = N ∧ ext.take l0.length = l0.map convBoxS := by
  induction d with
  | zero =>
    intro k x5 i h1 h2 h3 hd hk hx
    obtain ⟨k, rfl⟩ : ∃ m, k = m + 1 := ⟨k - 1, by omega⟩
    simp only [laws_toBoxSX.l0]
    rw [if_neg (by omega)]
    obtain ⟨ext, h4, h5, h6⟩ := toBoxS_l1 l0 N hN hn N k x5 (l0.length : Int) h1 (by omega) (by omega) (by omega) (by omega)
    refine ⟨ext, h4, h5, h6.trans ?_⟩
    have : i.toNat = l0.length := by omega
    rw [this, List.take_length] at hx
    exact hx
  | succ d ih =>
    intro k x5 i h1 h2 h3 hd hk hx
    obtain ⟨k, rfl⟩ : ∃ m, k = m + 1 := ⟨k - 1, by omega⟩
    simp only [laws_toBoxSX.l0]
    by_cases hlt : i < (l0.length : Int)
    · rw [if_pos hlt, if_pos h2]
      simp only [laws_toBox.f, Option.bind_some]
      rw [if_pos (show i < (x5.length : Int) by omega), w64 (by omega) (by omega)]
      refine ih k _ (i + 1) (by rw [List.length_set]; exact h1) (by omega) (by omega) (by omega) (by omega) ?_
      have e : (i + 1).toNat = i.toNat + 1 := by omega
      rw [e, take_set_at _ _ (show i.toNat < x5.length by omega), hx, List.take_succ_eq_append_getElem (show i.toNat < l0.length by omega), List.map_append]
      have hr : rd_T58 l0 i = l0[i.toNat]'(by omega) := by
        simp [rd_T58, List.getD_eq_getElem?_getD, List.getElem?_eq_getElem (show i.toNat < l0.length by omega)]
      simp [hr, convBoxS]
    · rw [if_neg hlt]
      obtain ⟨ext, h4, h5, h6⟩ := toBoxS_l1 l0 N hN hn N k x5 (l0.length : Int) h1 (by omega) (by omega) (by omega) (by omega)
      refine ⟨ext, h4, h5, h6.trans ?_⟩
      have : i.toNat = l0.length := by omega
      rw [this, List.take_length] at hx
      exact hx
theorem toBoxS_false (l0 : List S58) (h : l0.length ≤ 1000000) : ∃ ext, Ev (fun k => laws_toBoxSX.f k l0 false) ext ∧ ext.length = l0.length + room l0.length ∧ ext.take l0.length = l0.map convBoxS := by
  have hr := room_le l0.length
  obtain ⟨k0, hk0⟩ : ∃ k0 : Nat, l0.length + (l0.length + room l0.length) + 1 < k0 := ⟨_, Nat.lt_succ_self _⟩
  obtain ⟨ext, h1, h2, h3⟩ := toBoxS_l0 l0 (l0.length + room l0.length) (by omega) (by omega) l0.length k0 (List.replicate (l0.length + room l0.length) z55) 0 (by simp) (by omega) (by omega) (by omega) hk0 (by simp)
  have hm := laws_toBoxSX.mono l0 false
  refine ⟨ext, Ev.of (k := k0 + 1) hm ?_, h2, h3⟩
  have e : wrap64 ((l0.length : Int) + (room l0.length : Int)) = ((l0.length + room l0.length : Nat) : Int) := by
    rw [w64 (by omega) (by omega)]; omega
  simp only [laws_toBoxSX.f, laws_toBoxSX.j0, Bool.false_eq_true, if_false]
  rw [room_eq l0.length (by omega), Option.bind_some, e, if_pos (by omega), Int.toNat_natCast, if_pos (by omega)]
  exact h1
theorem toBoxS_true (l0 : List S58) (h : l0.length ≤ 1000000) : ∃ extb, Ev (fun k => laws_toBoxSX.f k l0 true) extb ∧ l0.length ≤ extb.length ∧ extb.take l0.length = l0.map convBoxS ∧ (extb = [] → l0.length = 0) := by
  by_cases hz : l0.length = 0
  · have : l0 = [] := List.eq_nil_of_length_eq_zero hz
    subst this
    refine ⟨[], ⟨1, fun k hk => ?_⟩, by simp, by simp, fun _ => rfl⟩
    obtain ⟨k, rfl⟩ : ∃ m, k = m + 1 := ⟨k - 1, by omega⟩
    simp [laws_toBoxSX.f, laws_toBoxSX.j0]
  · obtain ⟨ext, h1, h2, h3⟩ := toBoxS_false l0 h
    refine ⟨ext, Ev.congr (fun k => ?_) h1, by omega, h3, fun e => by rw [e] at h2; simp at h2; omega⟩
    have e : ((l0.length : Int) == 0) = false := by simpa using hz
    simp only [laws_toBoxSX.f, e, Bool.false_eq_true, if_false, if_true]

theorem FnExactLeastLimit : laws_FnExactLeastLimit.Pure := by
  intro l0 a1 hnl0 wa1
  by_cases hs1 : (l0.length : Int) ≤ 1000000
  case neg =>
    exact .inl ⟨-1, by rw [szBoxS_eq _ _ (by omega) (by omega), if_neg hs1], by decide⟩
  refine .inr (?_)
  have hb0 : l0.length ≤ 1000000 := by omega
  have hm0 := room_le l0.length
  obtain ⟨ext0, e0, el0, et0⟩ := toBoxS_false l0 hb0
  obtain ⟨extb0, b0, bl0, bt0, bn0⟩ := toBoxS_true l0 hb0
  have q0 := eqBoxS_refl ext0 (by omega)
  obtain ⟨z_r1, z_r2, s1, s2⟩ := core_FnExactLeastLimit (l0.map convBoxS) a1 (by rw [List.length_map]; exact hb0) wa1
  obtain ⟨K0_, v_e0⟩ := e0
  obtain ⟨K1_, v_b0⟩ := b0
  obtain ⟨K2_, v_q0⟩ := q0
  obtain ⟨K3_, v_s1⟩ := s1
  obtain ⟨K4_, v_s2⟩ := s2
  refine ⟨K0_ + K1_ + K2_ + K3_ + K4_, (l0.map convBoxS), ext0, extb0, (room l0.length : Int), (1000000 - (l0.length : Int)), z_r1, z_r2, ?_⟩
  exact { hto0 := v_e0 (K0_ + K1_ + K2_ + K3_ + K4_) (by omega), htob0 := v_b0 (K0_ + K1_ + K2_ + K3_ + K4_) (by omega), hxl0 := List.length_map .., hnb0 := bn0, hne0 := fun h => by rw [h] at el0; simp at el0; unfold room at el0; split at el0 <;> (try split at el0) <;> omega, hxe0 := by rw [List.length_map]; exact et0.symm, hxb0 := by rw [List.length_map]; exact bt0.symm, hle0 := by rw [List.length_map]; omega, hlb0 := by rw [List.length_map]; exact bl0, hrm0 := by rw [List.length_map]; exact room_eq _ (by omega), hj0 := by rw [List.length_map, el0]; exact rooms hb0, heqx0 := v_q0 (K0_ + K1_ + K2_ + K3_ + K4_) (by omega), hz1 := by rw [szBoxS_eq _ _ (by omega) (by omega), if_pos hs1], hn1 := decide_eq_false (by omega), hfspec := v_s1 (K0_ + K1_ + K2_ + K3_ + K4_) (by omega), hfimpl := v_s2 (K0_ + K1_ + K2_ + K3_ + K4_) (by omega) }

end Go.Proofs.Ytjnfimhckeihhaa.Pure
