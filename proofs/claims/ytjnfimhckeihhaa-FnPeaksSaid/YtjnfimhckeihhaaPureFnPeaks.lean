/- The statement over numbers and lists for FnPeaks: the reference and the program answer alike for all arguments. -/
import Derived.Test.YtjnfimhckeihhaaQFnPeaksx10
set_option linter.unusedVariables false
set_option linter.unusedSimpArgs false
namespace Go.Proofs.Ytjnfimhckeihhaa.Pure
open Go.RowKit Go.Proofs.Ytjnfimhckeihhaa.PFnPeaks Go.Proofs.YtjnfimhckeihhaaW.PrintWords Go.Proofs.YtjnfimhckeihhaaW.PrintLast Go.Proofs.YtjnfimhckeihhaaW.PrintMore


theorem w64 {x : Int} (h0 : -9223372036854775808 ≤ x) (h1 : x ≤ 9223372036854775807) : wrap64 x = x := by unfold wrap64; omega
theorem Ev_ite {α : Type} {c : Prop} [Decidable c] {g h : Nat → Option α} {r : α} (h1 : c → Ev g r) (h2 : ¬ c → Ev h r) : Ev (fun k => if c then g k else h k) r := by
  by_cases hc : c
  · obtain ⟨K, hK⟩ := h1 hc
    exact ⟨K, fun k hk => (if_pos hc).trans (hK k hk)⟩
  · obtain ⟨K, hK⟩ := h2 hc
    exact ⟨K, fun k hk => (if_neg hc).trans (hK k hk)⟩
theorem Ev_pos {α : Type} {c : Prop} [Decidable c] {g h : Nat → Option α} {r : α} (hc : c) (h1 : Ev g r) : Ev (fun k => if c then g k else h k) r := Ev_ite (fun _ => h1) (fun n => absurd hc n)
theorem Ev_neg {α : Type} {c : Prop} [Decidable c] {g h : Nat → Option α} {r : α} (hc : ¬ c) (h1 : Ev h r) : Ev (fun k => if c then g k else h k) r := Ev_ite (fun n => absurd n hc) (fun _ => h1)
theorem Ev_some {α : Type} {r q : α} (h : r = q) : Ev (fun _ => some r) q := h ▸ Ev.now r
theorem Ev_eq {α : Type} {g : Nat → Option α} {r q : α} (h : r = q) (k : Ev g r) : Ev g q := h ▸ k
theorem Ev_const {α : Type} {o : Option α} {r : α} (h : o = some r) : Ev (fun _ => o) r := by subst h; exact Ev.now r
theorem Ev_bindc {α β : Type} {o : Option α} {f : Nat → α → Option β} {a : α} {r : β} (h : o = some a) (k : Ev (fun n => f n a) r) : Ev (fun n => o.bind (f n)) r := by subst h; exact k
theorem Ev_unique {α : Type} {g : Nat → Option α} {r q : α} (h : Ev g r) (k : Ev g q) : r = q := by
  obtain ⟨K, h⟩ := h
  obtain ⟨L, k⟩ := k
  have h1 := h (max K L) (by omega)
  have h2 := k (max K L) (by omega)
  rw [h1] at h2
  exact Option.some.inj h2
theorem lit64 {x : Int} (h : (Lit.int .i64 x).wf = true) : -9223372036854775808 ≤ x ∧ x ≤ 9223372036854775807 := by
  have h := h
  simp [Lit.wf, IntKind.min, IntKind.max, IntKind.bits, IntKind.signed] at h
  omega
theorem mn_eq (a b : Int) : mn a b = min a b := by unfold mn; omega
theorem mx_eq (a b : Int) : mx a b = max a b := by unfold mx; omega

/-- A loop over the numbers 0 to n - 1: d rounds from i on. -/
def forM {S ρ : Type} (step : S → Int → ρ ⊕ S) (out : S → ρ) : Nat → S → Int → ρ
  | 0, s, _ => out s
  | d + 1, s, i => match step s i with
    | .inl r => r
    | .inr s' => forM step out d s' (i + 1)
theorem Ev_for {S ρ : Type} {F : Nat → S → Int → Option ρ} {step : S → Int → ρ ⊕ S} {out : S → ρ} {n : Nat} (Inv : S → Int → Prop)
    (hend : ∀ s, Inv s n → ∃ K, ∀ k, K ≤ k → F k s n = some (out s))
    (hstep : ∀ (s : S) (i : Int), 0 ≤ i → i < n → Inv s i → (∃ r, step s i = .inl r ∧ ∃ K, ∀ k, K ≤ k → F k s i = some r) ∨ (∃ s', step s i = .inr s' ∧ Inv s' (i + 1) ∧ ∃ K, ∀ k, K ≤ k → F (k + 1) s i = F k s' (i + 1))) :
    ∀ (d : Nat) (s : S) (i : Int), 0 ≤ i → i + d = n → Inv s i → Ev (fun k => F k s i) (forM step out d s i) := by
  intro d
  induction d with
  | zero =>
    intro s i h0 h1 hI
    obtain rfl : i = n := by omega
    exact hend s hI
  | succ d ih =>
    intro s i h0 h1 hI
    rcases hstep s i h0 (by omega) hI with ⟨r, hr, hK⟩ | ⟨s', hs, hI', K, hK⟩
    · simp only [forM, hr]
      exact hK
    · simp only [forM, hs]
      obtain ⟨K', h⟩ := ih s' (i + 1) (by omega) (by omega) hI'
      refine ⟨K + K' + 1, fun k hk => ?_⟩
      obtain ⟨k, rfl⟩ : ∃ m, k = m + 1 := ⟨k - 1, by omega⟩
      exact (hK k (by omega)).trans (h k (by omega))
/-- What holds at the end of a loop. -/
theorem forM_ind {S ρ : Type} {step : S → Int → ρ ⊕ S} {out : S → ρ} {n : Nat} (Inv : S → Int → Prop) (Post : ρ → Prop) (hend : ∀ s, Inv s n → Post (out s))
    (hstep : ∀ (s : S) (i : Int), 0 ≤ i → i < n → Inv s i → (∀ r, step s i = .inl r → Post r) ∧ ∀ s', step s i = .inr s' → Inv s' (i + 1)) : ∀ (d : Nat) (s : S) (i : Int), 0 ≤ i → i + d = n → Inv s i → Post (forM step out d s i) := by
  intro d
  induction d with
  | zero =>
    intro s i h0 h1 hI
    obtain rfl : i = n := by omega
    exact hend s hI
  | succ d ih =>
    intro s i h0 h1 hI
    obtain ⟨h2, h3⟩ := hstep s i h0 (by omega) hI
    simp only [forM]
    cases hs : step s i with
    | inl r => exact h2 r hs
    | inr s' => exact ih s' (i + 1) (by omega) (by omega) (h3 s' hs)

theorem Ev_succ {α : Type} {g : Nat → Option α} {r : α} (h : Ev (fun k => g (k + 1)) r) : Ev g r := Ev.step (fun _ => rfl) h
theorem Ev_for2 {S ρ : Type} {F : Nat → S → Int → Option ρ} {step : S → Int → ρ ⊕ S} {out : S → ρ} {n : Nat} (Inv : S → Int → Prop)
    (hend : ∀ s, Inv s n → Ev (fun k => F k s n) (out s))
    (hstep : ∀ (s : S) (i : Int), 0 ≤ i → i < n → Inv s i → (∃ r, step s i = .inl r ∧ Ev (fun k => F k s i) r) ∨ (∃ s', step s i = .inr s' ∧ Inv s' (i + 1) ∧ ∀ r, Ev (fun k => F k s' (i + 1)) r → Ev (fun k => F k s i) r)) :
    ∀ (d : Nat) (s : S) (i : Int), 0 ≤ i → i + d = n → Inv s i → Ev (fun k => F k s i) (forM step out d s i) := by
  intro d
  induction d with
  | zero =>
    intro s i h0 h1 hI
    obtain rfl : i = n := by omega
    exact hend s hI
  | succ d ih =>
    intro s i h0 h1 hI
    rcases hstep s i h0 (by omega) hI with ⟨r, hr, hK⟩ | ⟨s', hs, hI', hK⟩
    · simp only [forM, hr]
      exact hK
    · simp only [forM, hs]
      exact hK _ (ih s' (i + 1) (by omega) (by omega) hI')
/-- A loop over a list that only gathers: a fold. -/
theorem forM_fold {S ρ α : Type} (xs : List α) (rdx : Int → α) (hrd : ∀ (j : Nat) (h : j < xs.length), rdx j = xs[j]) (upd : S → α → S) (out : S → ρ) (d : Nat) : ∀ (s : S) (i : Nat), i + d = xs.length →
    forM (ρ := ρ) (fun s i => .inr (upd s (rdx i))) out d s i = out ((xs.drop i).foldl upd s) := by
  induction d with
  | zero =>
    intro s i hi
    rw [List.drop_eq_nil_of_le (by omega)]
    rfl
  | succ d ih =>
    intro s i hi
    rw [List.drop_eq_getElem_cons (show i < xs.length by omega)]
    simp only [forM, List.foldl_cons]
    have := ih (upd s (rdx i)) (i + 1) (by omega)
    rw [← hrd i (by omega)]
    exact this
theorem forM_fold0 {S ρ α : Type} (xs : List α) (rdx : Int → α) (hrd : ∀ (j : Nat) (h : j < xs.length), rdx j = xs[j]) (upd : S → α → S) (out : S → ρ) (s : S) :
    forM (ρ := ρ) (fun s i => .inr (upd s (rdx i))) out xs.length s 0 = out (xs.foldl upd s) := by
  have := forM_fold xs rdx hrd upd out xs.length s 0 (by omega)
  rw [List.drop_zero] at this
  exact this
/-- A loop that looks at each place, and stops at the first that fails. -/
theorem forM_all {p : Int → Bool} {b : Bool} {n : Nat} (d : Nat) : ∀ i : Int, 0 ≤ i → i + d = n → (forM (S := Unit) (ρ := Bool) (fun _ i => if p i = true then .inr () else .inl false) (fun _ => b) d () i = true ↔ b = true ∧ ∀ j : Int, i ≤ j → j < n → p j = true) := by
  induction d with
  | zero =>
    intro i h0 hi
    simp only [forM]
    exact ⟨fun h => ⟨h, fun j h1 h2 => by omega⟩, fun h => h.1⟩
  | succ d ih =>
    intro i h0 hi
    simp only [forM]
    by_cases hp : p i = true
    · rw [if_pos hp]
      refine (ih (i + 1) (by omega) (by omega)).trans ⟨fun h => ⟨h.1, fun j h1 h2 => ?_⟩, fun h => ⟨h.1, fun j h1 h2 => h.2 j (by omega) h2⟩⟩
      by_cases hj : j = i
      · rw [hj]; exact hp
      · exact h.2 j (by omega) h2
    · rw [if_neg hp]
      exact ⟨(fun h => by cases h), fun h => absurd (h.2 i (Int.le_refl _) (by omega)) hp⟩

theorem within_eq (a lo hi : Int) : impl_within.f a lo hi = some (decide (lo ≤ a ∧ a ≤ hi)) := by
  unfold impl_within.f
  by_cases h : lo ≤ a <;> simp [h]

theorem l01In_eq (a lo hi : Int) : spec_l01In.f a lo hi = some (decide (lo ≤ a ∧ a ≤ hi)) := by
  unfold spec_l01In.f
  by_cases h : a ≥ lo
  · have : lo ≤ a := h
    simp [this]
  · have : ¬ lo ≤ a := h
    simp [this]

theorem rdBox {xs : List S55} {i : Int} (h0 : 0 ≤ i) (h1 : i < xs.length) : rd_T55 xs i = xs[i.toNat]'(by omega) := by
  simp [rd_T55, List.getD_eq_getElem?_getD, List.getElem?_eq_getElem (show i.toNat < xs.length by omega)]
def okBox (xs : List S55) (i : Int) : Bool := decide ((1 ≤ (rd_T55 xs i).f0 ∧ (rd_T55 xs i).f0 ≤ 1000000) ∧ 0 ≤ (rd_T55 xs i).f1 ∧ (rd_T55 xs i).f1 ≤ 3)
def areBoxes (xs : List S55) : Bool := forM (S := Unit) (fun _ i => if okBox xs i = true then .inr () else .inl false) (fun _ => decide (xs.length ≤ 7)) xs.length () 0
theorem areBoxes_iff (xs : List S55) : areBoxes xs = true ↔ xs.length ≤ 7 ∧ ∀ i : Int, 0 ≤ i → i < xs.length → okBox xs i = true := by
  unfold areBoxes
  refine (forM_all (p := okBox xs) (n := xs.length) xs.length 0 (by omega) (by omega)).trans ?_
  rw [decide_eq_true_eq]
theorem spec_AreBoxes_ev (xs : List S55) (hn : xs.length ≤ 1000000) : Ev (fun k => spec_AreBoxes.f k xs) (areBoxes xs) := by
  unfold spec_AreBoxes.f
  refine Ev_for2 (F := fun k (_ : Unit) i => spec_AreBoxes.l0 k xs i) (n := xs.length) (fun _ _ => True)
    (fun s hI => Ev_succ (by
      simp only [spec_AreBoxes.l0]
      refine Ev_neg (by omega) (Ev_some ?_)
      rw [decide_eq_decide]
      omega))
    (fun s i h0 h1 hI => ?_) xs.length () 0 (by omega) (by omega) trivial
  by_cases hok : okBox xs i = true
  · have hk := of_decide_eq_true hok
    refine .inr ⟨(), if_pos hok, trivial, fun r hr => Ev_succ (by
      simp only [spec_AreBoxes.l0, l01In_eq, Option.bind_some, decide_eq_true_eq]
      refine Ev_pos h1 (Ev_pos h0 (Ev_pos hk.1 (Ev_pos hk.2 ?_)))
      rw [w64 (by omega) (by omega)]
      exact hr)⟩
  · refine .inl ⟨false, if_neg hok, Ev_succ (by
      simp only [spec_AreBoxes.l0, l01In_eq, Option.bind_some, decide_eq_true_eq]
      refine Ev_pos h1 (Ev_pos h0 (Ev_ite (fun ha => ?_) (fun ha => Ev.now _)))
      exact Ev_neg (fun hb => hok (decide_eq_true ⟨ha, hb⟩)) (Ev.now _))⟩
theorem impl_AreBoxes_ev (xs : List S55) : Ev (fun k => impl_AreBoxes.f k xs) (areBoxes xs) := by
  unfold impl_AreBoxes.f
  refine Ev_ite (fun h => Ev_some ?_) (fun h => ?_)
  · symm
    rw [Bool.eq_false_iff]
    exact fun h2 => by have := ((areBoxes_iff xs).1 h2).1; omega
  · unfold areBoxes
    rw [decide_eq_true (show xs.length ≤ 7 by omega)]
    refine Ev_for2 (F := fun k (_ : Unit) i => impl_AreBoxes.l0 k xs (xs.length : Int) i) (n := xs.length) (fun _ _ => True)
      (fun s hI => Ev_succ (by
        simp only [impl_AreBoxes.l0]
        exact Ev_neg (by omega) (Ev.now _)))
      (fun s i h0 h1 hI => ?_) xs.length () 0 (by omega) (by omega) trivial
    by_cases hok : okBox xs i = true
    · have hk := of_decide_eq_true hok
      refine .inr ⟨(), if_pos hok, trivial, fun r hr => Ev_succ (by
        simp only [impl_AreBoxes.l0, within_eq, Option.bind_some, decide_eq_true_eq]
        refine Ev_pos h1 (Ev_pos h0 (Ev_pos h1 (Ev_pos hk.1 (Ev_pos hk.2 ?_))))
        rw [w64 (by omega) (by omega)]
        exact hr)⟩
    · refine .inl ⟨false, if_neg hok, Ev_succ (by
        simp only [impl_AreBoxes.l0, within_eq, Option.bind_some, decide_eq_true_eq]
        refine Ev_pos h1 (Ev_pos h0 (Ev_pos h1 (Ev_ite (fun ha => ?_) (fun ha => Ev.now _))))
        exact Ev_neg (fun hb => hok (decide_eq_true ⟨ha, hb⟩)) (Ev.now _))⟩

/-- A loop that never stops before its end. -/
def foldU {S : Type} (upd : S → Int → S) : Nat → S → Int → S
  | 0, s, _ => s
  | d + 1, s, i => foldU upd d (upd s i) (i + 1)
theorem foldU_ind {S : Type} {upd : S → Int → S} {n : Int} (Inv : S → Int → Prop) (hstep : ∀ (s : S) (i : Int), 0 ≤ i → i < n → Inv s i → Inv (upd s i) (i + 1)) : ∀ (d : Nat) (s : S) (i : Int), 0 ≤ i → i + d = n → Inv s i → Inv (foldU upd d s i) n := by
  intro d
  induction d with
  | zero => intro s i h0 h1 hI; obtain rfl : i = n := by omega
            exact hI
  | succ d ih => intro s i h0 h1 hI; exact ih _ _ (by omega) (by omega) (hstep s i h0 (by omega) hI)
theorem Ev_forK {S τ : Type} {F : Nat → S → Int → Option τ} {upd : S → Int → S} {n : Int} {r : τ} (Inv : S → Int → Prop)
    (hstep : ∀ (s : S) (i : Int), 0 ≤ i → i < n → Inv s i → Inv (upd s i) (i + 1) ∧ (Ev (fun k => F k (upd s i) (i + 1)) r → Ev (fun k => F k s i) r)) :
    ∀ (d : Nat) (s : S) (i : Int), 0 ≤ i → i + d = n → Inv s i → (Inv (foldU upd d s i) n → Ev (fun k => F k (foldU upd d s i) n) r) → Ev (fun k => F k s i) r := by
  intro d
  induction d with
  | zero => intro s i h0 h1 hI h; obtain rfl : i = n := by omega
            exact h hI
  | succ d ih =>
    intro s i h0 h1 hI h
    obtain ⟨h2, h3⟩ := hstep s i h0 (by omega) hI
    exact h3 (ih _ _ (by omega) (by omega) h2 h)

theorem Ev_allK {τ : Type} {F : Nat → Int → Option τ} {p : Int → Prop} {n : Int} {r bad : τ}
    (hstep : ∀ i : Int, 0 ≤ i → i < n → (p i → Ev (fun k => F k (i + 1)) r → Ev (fun k => F k i) r) ∧ (¬ p i → r = bad → Ev (fun k => F k i) r)) :
    ∀ (d : Nat) (i : Int), 0 ≤ i → i + d = n → (¬ (∀ j : Int, i ≤ j → j < n → p j) → r = bad) → ((∀ j : Int, i ≤ j → j < n → p j) → Ev (fun k => F k n) r) → Ev (fun k => F k i) r := by
  intro d
  induction d with
  | zero => intro i h0 h1 _ h; obtain rfl : i = n := by omega
            exact h (fun j h2 h3 => by omega)
  | succ d ih =>
    intro i h0 h1 hb hg
    obtain ⟨h2, h3⟩ := hstep i h0 (by omega)
    by_cases hp : p i
    · refine h2 hp (ih (i + 1) (by omega) (by omega) (fun h => hb (fun q => h (fun j h4 h5 => q j (by omega) h5))) (fun h => hg (fun j h4 h5 => ?_)))
      by_cases hj : j = i
      · rw [hj]; exact hp
      · exact h j (by omega) h5
    · exact h3 hp (hb (fun q => hp (q i (Int.le_refl _) (by omega))))

def lone (xs : List S55) (i : Int) : Bool := ((rd_T55 xs i).f1 == 3)
/-- The grams in a vehicle, of the first boxes. -/
def sumTo (xs : List S55) (b : List Int) (u : Int) : Nat → Int
  | 0 => 0
  | i + 1 => sumTo xs b u i + if rd b (i : Int) = u then (rd_T55 xs (i : Int)).f0 else 0
/-- Numbers of vehicles. -/
def Veh (b : List Int) : Prop := ∀ v ∈ b, 0 ≤ v ∧ v ≤ 6
theorem rd_getElem {b : List Int} {i : Int} (h0 : 0 ≤ i) (h1 : i < b.length) : rd b i = b[i.toNat]'(by omega) := by
  simp [rd, List.getD_eq_getElem?_getD, List.getElem?_eq_getElem (show i.toNat < b.length by omega)]
theorem Veh.at {b : List Int} (h : Veh b) {i : Int} (h0 : 0 ≤ i) (h1 : i < b.length) : 0 ≤ rd b i ∧ rd b i ≤ 6 := by
  rw [rd_getElem h0 h1]
  exact h _ (List.getElem_mem _)
theorem box_grams {xs : List S55} (hx : areBoxes xs = true) {i : Int} (h0 : 0 ≤ i) (h1 : i < xs.length) : 1 ≤ (rd_T55 xs i).f0 ∧ (rd_T55 xs i).f0 ≤ 1000000 := (of_decide_eq_true (((areBoxes_iff xs).1 hx).2 i h0 h1)).1
theorem sumTo_bound {xs : List S55} (hx : areBoxes xs = true) (b : List Int) (u : Int) : ∀ i : Nat, i ≤ xs.length → 0 ≤ sumTo xs b u i ∧ sumTo xs b u i ≤ 1000000 * (i : Int) := by
  intro i
  induction i with
  | zero => intro _; simp [sumTo]
  | succ i ih =>
    intro h
    have h2 := ih (by omega)
    have h3 := box_grams hx (i := (i : Int)) (by omega) (by omega)
    simp only [sumTo]
    split <;> omega
/-- The last of some boxes may ride with those before it. -/
def RideP (xs : List S55) (lim : Int) (b : List Int) (l : Int) : Prop := (∀ i : Int, 0 ≤ i → i < l → rd b i = rd b l → lone xs i = lone xs l) ∧ sumTo xs b (rd b l) (l.toNat + 1) ≤ lim
/-- All ride lawfully. -/
def OkAll (xs : List S55) (lim : Int) (b : List Int) : Prop := ∀ i : Int, 0 ≤ i → i < b.length → sumTo xs b (rd b i) b.length ≤ lim ∧ ∀ j : Int, 0 ≤ j → j < i → rd b i = rd b j → lone xs i = lone xs j
noncomputable def rideB (xs : List S55) (lim : Int) (b : List Int) : Bool := open Classical in decide (RideP xs lim b ((b.length : Int) - 1))
noncomputable def okB (xs : List S55) (lim : Int) (b : List Int) : Bool := open Classical in decide (OkAll xs lim b)
theorem rideB_iff {xs : List S55} {lim : Int} {b : List Int} : rideB xs lim b = true ↔ RideP xs lim b ((b.length : Int) - 1) := by unfold rideB; exact @decide_eq_true_iff _ (Classical.propDecidable _)
theorem okB_iff {xs : List S55} {lim : Int} {b : List Int} : okB xs lim b = true ↔ OkAll xs lim b := by unfold okB; exact @decide_eq_true_iff _ (Classical.propDecidable _)
theorem toNat_succ {i : Int} (h : 0 ≤ i) : (i + 1).toNat = i.toNat + 1 := by omega

theorem rd_set {s : List Int} {j v u : Int} (h0 : 0 ≤ j) (h1 : j < s.length) (h2 : 0 ≤ u) : rd (s.set j.toNat v) u = if u = j then v else rd s u := by
  by_cases h : u = j
  · rw [if_pos h, h]
    simp [rd, List.getD_eq_getElem?_getD, List.getElem?_set_self (show j.toNat < s.length by omega)]
  · rw [if_neg h]
    simp only [rd, List.getD_eq_getElem?_getD]
    rw [List.getElem?_set_ne (by omega)]
theorem l28Sums_ev {xs : List S55} (hx : areBoxes xs = true) {b : List Int} (hb : Veh b) (h1 : b.length ≤ xs.length) : ∃ s, Ev (fun k => spec_l28Sums.f k xs b) s ∧ s.length = 7 ∧ ∀ u : Int, 0 ≤ u → u ≤ 6 → rd s u = sumTo xs b u b.length := by
  have hn := ((areBoxes_iff xs).1 hx).1
  have hstep : ∀ (s : List Int) (i : Int), 0 ≤ i → i < b.length → (s.length = 7 ∧ ∀ u : Int, 0 ≤ u → u ≤ 6 → rd s u = sumTo xs b u i.toNat) → ((s.set (rd b i).toNat (wrap64 (rd s (rd b i) + (rd_T55 xs i).f0))).length = 7 ∧ ∀ u : Int, 0 ≤ u → u ≤ 6 → rd (s.set (rd b i).toNat (wrap64 (rd s (rd b i) + (rd_T55 xs i).f0))) u = sumTo xs b u (i + 1).toNat) := fun s i h2 h3 hI => by
    have hv := hb.at h2 h3
    refine ⟨by rw [List.length_set]; exact hI.1, fun u h4 h5 => ?_⟩
    have hs := sumTo_bound hx b (rd b i) i.toNat (by omega)
    have hg := box_grams hx (i := i) h2 (by omega)
    rw [rd_set hv.1 (by omega) h4, toNat_succ h2]
    simp only [sumTo]
    rw [show ((i.toNat : Nat) : Int) = i by omega]
    by_cases hu : u = rd b i
    · rw [if_pos hu, if_pos hu.symm, hI.2 _ hv.1 hv.2, w64 (by omega) (by omega), hu]
    · rw [if_neg hu, if_neg (fun h => hu h.symm), Int.add_zero]
      exact hI.2 u h4 h5
  have h00 : (List.replicate 7 (0 : Int)).length = 7 ∧ ∀ u : Int, 0 ≤ u → u ≤ 6 → rd (List.replicate 7 (0 : Int)) u = sumTo xs b u (0 : Int).toNat := by
    refine ⟨rfl, fun u h4 h5 => ?_⟩
    have : u = 0 ∨ u = 1 ∨ u = 2 ∨ u = 3 ∨ u = 4 ∨ u = 5 ∨ u = 6 := by omega
    rcases this with rfl | rfl | rfl | rfl | rfl | rfl | rfl <;> rfl
  have hfin := foldU_ind (upd := fun s i => s.set (rd b i).toNat (wrap64 (rd s (rd b i) + (rd_T55 xs i).f0))) (n := b.length) (fun s i => s.length = 7 ∧ ∀ u : Int, 0 ≤ u → u ≤ 6 → rd s u = sumTo xs b u i.toNat) hstep b.length (List.replicate 7 0) 0 (by omega) (by omega) h00
  refine ⟨foldU (fun s i => s.set (rd b i).toNat (wrap64 (rd s (rd b i) + (rd_T55 xs i).f0))) b.length (List.replicate 7 0) 0, ?_, hfin.1, hfin.2⟩
  unfold spec_l28Sums.f
  refine Ev_pos (by omega) ?_
  exact Ev_forK (F := fun k s i => spec_l28Sums.l0 k xs b s i) (n := b.length) (fun s i => s.length = 7 ∧ ∀ u : Int, 0 ≤ u → u ≤ 6 → rd s u = sumTo xs b u i.toNat) (fun s i h2 h3 hI => ⟨hstep s i h2 h3 hI, fun hr => Ev_succ (by
    have hv := hb.at h2 h3
    have hl := hI.1
    simp only [spec_l28Sums.l0]
    rw [w64 (x := i + 1) (by omega) (by omega)]
    exact Ev_pos h3 (Ev_pos h2 (Ev_pos hv.1 (Ev_pos (by omega) (Ev_pos (by omega) hr)))))⟩) b.length (List.replicate 7 0) 0 (by omega) (by omega) h00 (fun _ => Ev_succ (by
    simp only [spec_l28Sums.l0]
    exact Ev_neg (by omega) (Ev.now _)))
theorem l28Is_ev {xs : List S55} (hx : areBoxes xs = true) {lim : Int} {b : List Int} (hb : Veh b) (h1 : b.length ≤ xs.length) : Ev (fun k => spec_l28Is.f k xs lim b) (okB xs lim b) := by
  have hn := ((areBoxes_iff xs).1 hx).1
  obtain ⟨s, hs, hs7, hsu⟩ := l28Sums_ev hx hb h1
  unfold spec_l28Is.f
  refine Ev.bind hs ?_
  refine Ev_allK (F := fun k i => spec_l28Is.l0 k xs lim b s i) (p := fun i => sumTo xs b (rd b i) b.length ≤ lim ∧ ∀ j : Int, 0 ≤ j → j < i → rd b i = rd b j → lone xs i = lone xs j) (n := b.length) (bad := false) (fun i h2 h3 => ?_) b.length 0 (by omega) (by omega) (fun h => by
    rw [Bool.eq_false_iff]
    exact fun h2 => h (fun j h3 h4 => okB_iff.1 h2 j h3 h4)) (fun h => Ev_succ (by
    simp only [spec_l28Is.l0]
    refine Ev_neg (by omega) (Ev_some ?_)
    symm
    exact okB_iff.2 (fun i h2 h3 => h i h2 h3)))
  have hv := hb.at h2 h3
  have hin : ∀ r, (¬ (∀ j : Int, 0 ≤ j → j < i → rd b i = rd b j → lone xs i = lone xs j) → r = false) → ((∀ j : Int, 0 ≤ j → j < i → rd b i = rd b j → lone xs i = lone xs j) → Ev (fun k => spec_l28Is.l0 k xs lim b s (i + 1)) r) → Ev (fun k => spec_l28Is.l1 k xs lim b s i 0) r := fun r hbad hgood =>
    Ev_allK (F := fun k j => spec_l28Is.l1 k xs lim b s i j) (p := fun j => rd b i = rd b j → lone xs i = lone xs j) (n := i) (bad := false) (fun j h4 h5 => ⟨fun hp hr => Ev_succ (by
      simp only [spec_l28Is.l1]
      refine Ev_pos h5 (Ev_pos h2 (Ev_pos h3 (Ev_pos h4 (Ev_pos (by omega) ?_))))
      rw [w64 (x := j + 1) (by omega) (by omega)]
      refine Ev_ite (fun hc => ?_) (fun hc => hr)
      have hq := hp hc
      unfold lone at hq
      exact Ev_pos (by omega) (Ev_pos (by omega) (Ev_neg (by rw [hq]; simp) hr))), fun hp hr => Ev_succ (by
      simp only [spec_l28Is.l1]
      have hc : rd b i = rd b j := by
        by_cases hc : rd b i = rd b j
        · exact hc
        · exact absurd (fun h => absurd h hc) hp
      have hq : ¬ lone xs i = lone xs j := fun h => hp (fun _ => h)
      unfold lone at hq
      refine Ev_pos h5 (Ev_pos h2 (Ev_pos h3 (Ev_pos h4 (Ev_pos (by omega) (Ev_pos hc (Ev_pos (by omega) (Ev_pos (by omega) ?_)))))))
      exact Ev_pos (by simpa using hq) (Ev_some hr.symm))⟩) i.toNat 0 (by omega) (by omega) hbad (fun h => Ev_succ (by
      simp only [spec_l28Is.l1]
      rw [w64 (x := i + 1) (by omega) (by omega)]
      exact Ev_neg (by omega) (hgood h)))
  refine ⟨fun hp hr => Ev_succ (by
    simp only [spec_l28Is.l0]
    refine Ev_pos h3 (Ev_pos h2 (Ev_pos hv.1 (Ev_pos (by omega) ?_)))
    rw [hsu _ hv.1 hv.2]
    exact Ev_neg (by have := hp.1; omega) (hin _ (fun h => absurd hp.2 h) (fun _ => hr))), fun hp hr => Ev_succ (by
    simp only [spec_l28Is.l0]
    refine Ev_pos h3 (Ev_pos h2 (Ev_pos hv.1 (Ev_pos (by omega) ?_)))
    rw [hsu _ hv.1 hv.2]
    refine Ev_ite (fun hc => Ev_some hr.symm) (fun hc => hin _ (fun _ => hr) (fun h => absurd ⟨by omega, h⟩ hp)))⟩

theorem impl_mayRide_ev {xs : List S55} (hx : areBoxes xs = true) {lim : Int} {b : List Int} (h0 : 0 < b.length) (h1 : b.length ≤ xs.length) : Ev (fun k => impl_mayRide.f k xs lim b) (rideB xs lim b) := by
  have hn := ((areBoxes_iff xs).1 hx).1
  unfold impl_mayRide.f
  rw [w64 (x := (b.length : Int) - 1) (by omega) (by omega)]
  refine Ev_pos (by omega) (Ev_pos (by omega) ?_)
  obtain ⟨l, hl⟩ : ∃ l : Int, l = (b.length : Int) - 1 := ⟨_, rfl⟩
  rw [← hl]
  have hg := box_grams hx (i := l) (by omega) (by omega)
  have hloop := Ev_allK (F := fun k i => impl_mayRide.l0 k xs lim b l ((rd_T55 xs l).f0 + sumTo xs b (rd b l) i.toNat) i) (p := fun i => rd b i = rd b l → lone xs i = lone xs l) (n := l) (r := rideB xs lim b) (bad := false) (fun i h2 h3 => by
    have hs := sumTo_bound hx b (rd b l) i.toNat (by omega)
    have hgi := box_grams hx (i := i) h2 (by omega)
    have hnext : sumTo xs b (rd b l) (i + 1).toNat = sumTo xs b (rd b l) i.toNat + if rd b i = rd b l then (rd_T55 xs i).f0 else 0 := by
      rw [toNat_succ h2]
      simp only [sumTo]
      rw [show ((i.toNat : Nat) : Int) = i by omega]
    refine ⟨fun hp hr => Ev_succ (by
      simp only [impl_mayRide.l0]
      refine Ev_pos h3 (Ev_pos h2 (Ev_pos (by omega) (Ev_pos (by omega) (Ev_pos (by omega) ?_))))
      rw [w64 (x := i + 1) (by omega) (by omega)]
      rw [hnext] at hr
      refine Ev_ite (fun hc => ?_) (fun hc => ?_)
      · rw [if_pos hc] at hr
        have hq := hp hc
        unfold lone at hq
        refine Ev_pos (by omega) (Ev_pos (by omega) (Ev_neg (by rw [hq]; simp) ?_))
        rw [w64 (by omega) (by omega), Int.add_assoc]
        exact hr
      · rw [if_neg hc, Int.add_zero] at hr
        exact hr), fun hp hr => Ev_succ (by
      simp only [impl_mayRide.l0]
      have hc : rd b i = rd b l := by
        by_cases hc : rd b i = rd b l
        · exact hc
        · exact absurd (fun h => absurd h hc) hp
      have hq : ¬ lone xs i = lone xs l := fun h => hp (fun _ => h)
      unfold lone at hq
      refine Ev_pos h3 (Ev_pos h2 (Ev_pos (by omega) (Ev_pos (by omega) (Ev_pos (by omega) (Ev_pos hc (Ev_pos (by omega) (Ev_pos (by omega) ?_)))))))
      exact Ev_pos (by simpa using hq) (Ev_some hr.symm))⟩) l.toNat 0 (by omega) (by omega) (fun h => by
    rw [Bool.eq_false_iff]
    exact fun h2 => h (fun j h3 h4 => (rideB_iff.1 h2).1 j h3 (by omega) |> fun q => by rw [← hl] at q; exact q)) (fun h => Ev_succ (by
    simp only [impl_mayRide.l0]
    refine Ev_neg (by omega) (Ev_some ?_)
    have e : sumTo xs b (rd b l) (l.toNat + 1) = (rd_T55 xs l).f0 + sumTo xs b (rd b l) l.toNat := by
      simp only [sumTo]
      rw [show ((l.toNat : Nat) : Int) = l by omega, if_pos rfl, Int.add_comm]
    rw [Bool.eq_iff_iff, decide_eq_true_eq, rideB_iff, ← hl, ← e]
    exact ⟨fun q => ⟨h, q⟩, fun q => q.2⟩))
  refine Ev.congr (fun k => ?_) hloop
  simp [sumTo]

theorem rd_append {b : List Int} {v i : Int} (h0 : 0 ≤ i) (h1 : i < b.length) : rd (b ++ [v]) i = rd b i := by
  simp only [rd, List.getD_eq_getElem?_getD]
  rw [List.getElem?_append_left (by omega)]
theorem rd_last (b : List Int) (v : Int) : rd (b ++ [v]) (b.length : Int) = v := by
  simp [rd]
theorem sumTo_append (xs : List S55) (b : List Int) (v u : Int) : ∀ i : Nat, i ≤ b.length → sumTo xs (b ++ [v]) u i = sumTo xs b u i := by
  intro i
  induction i with
  | zero => intro _; rfl
  | succ i ih =>
    intro h
    simp only [sumTo]
    rw [ih (by omega), rd_append (by omega) (by omega)]
theorem sumTo_full {xs : List S55} {b : List Int} {v u : Int} : sumTo xs (b ++ [v]) u (b ++ [v]).length = sumTo xs b u b.length + if v = u then (rd_T55 xs (b.length : Int)).f0 else 0 := by
  rw [List.length_append]
  simp only [List.length_singleton, sumTo]
  rw [sumTo_append xs b v u _ (Nat.le_refl _), rd_last]
theorem last_of {b : List Int} {v : Int} : (((b ++ [v]).length : Nat) : Int) - 1 = (b.length : Int) := by
  rw [List.length_append]; simp
theorem ok_append {xs : List S55} {lim : Int} {b : List Int} {v : Int} (h : OkAll xs lim b) : OkAll xs lim (b ++ [v]) ↔ RideP xs lim (b ++ [v]) (b.length : Int) := by
  have hlen : (((b ++ [v]).length : Nat) : Int) = (b.length : Int) + 1 := by rw [List.length_append]; simp
  have hnat : (b ++ [v]).length = (b.length : Int).toNat + 1 := by rw [List.length_append]; simp
  constructor
  · intro h2
    obtain ⟨h3, h4⟩ := h2 (b.length : Int) (by omega) (by omega)
    exact ⟨fun i h5 h6 h7 => (h4 i h5 h6 h7.symm).symm, by rw [← hnat]; exact h3⟩
  · intro h2 i h5 h6
    by_cases hi : i = (b.length : Int)
    · subst hi
      exact ⟨by rw [hnat]; exact h2.2, fun j h7 h8 h9 => (h2.1 j h7 h8 h9.symm).symm⟩
    · have hib : i < b.length := by omega
      have h3 := h i h5 hib
      rw [rd_append h5 hib]
      refine ⟨?_, fun j h7 h8 h9 => ?_⟩
      · rw [sumTo_full]
        by_cases hv : v = rd b i
        · have := h2.2
          rw [← hnat, rd_last, sumTo_full, if_pos rfl] at this
          rw [if_pos hv, ← hv]
          exact this
        · rw [if_neg hv, Int.add_zero]
          exact h3.1
      · rw [rd_append h7 (by omega)] at h9
        exact h3.2 j h7 h8 h9
theorem ok_nil (xs : List S55) (lim : Int) : OkAll xs lim [] := fun i h0 h1 => by simp at h1; omega
theorem okB_append {xs : List S55} {lim : Int} {b : List Int} {v : Int} (h : OkAll xs lim b) : okB xs lim (b ++ [v]) = rideB xs lim (b ++ [v]) := by
  rw [Bool.eq_iff_iff, okB_iff, rideB_iff, last_of]
  exact ok_append h
theorem Veh.append {b : List Int} (h : Veh b) {v : Int} (hv : 0 ≤ v ∧ v ≤ 6) : Veh (b ++ [v]) := fun x hx => by
  rcases List.mem_append.1 hx with hx | hx
  · exact h x hx
  · rw [List.mem_singleton.1 hx]; exact hv
theorem Veh.nil : Veh [] := fun x hx => by cases hx

def codeB (xs : List S55) (lim : Int) : Int := if areBoxes xs = true then (if 1 ≤ lim ∧ lim ≤ 10000000 then 0 else 2) else 1
theorem codeB_0 {xs : List S55} {lim : Int} (h : codeB xs lim = 0) : areBoxes xs = true ∧ 1 ≤ lim ∧ lim ≤ 10000000 := by
  unfold codeB at h
  by_cases h1 : areBoxes xs = true
  · rw [if_pos h1] at h
    by_cases h2 : 1 ≤ lim ∧ lim ≤ 10000000
    · exact ⟨h1, h2⟩
    · rw [if_neg h2] at h; exact absurd h (by decide)
  · rw [if_neg h1] at h; exact absurd h (by decide)
theorem l28Code_ev (xs : List S55) (hn : xs.length ≤ 1000000) (lim : Int) : Ev (fun k => spec_l28Code.f k xs lim) (codeB xs lim) := by
  unfold spec_l28Code.f codeB
  refine Ev.bind (spec_AreBoxes_ev xs hn) (Ev_ite (fun h => ?_) (fun h => by rw [if_neg h]; exact Ev.now _))
  rw [if_pos h, l01In_eq]
  simp only [Option.bind_some, decide_eq_true_eq]
  exact Ev_ite (fun h => by rw [if_pos h]; exact Ev.now _) (fun h => by rw [if_neg h]; exact Ev.now _)

theorem isLoadLimit_eq (a : Int) : impl_isLoadLimit.f a = some (decide (1 ≤ a ∧ a ≤ 10000000)) := by unfold impl_isLoadLimit.f; rw [within_eq]; rfl

theorem rd_take {b : List Int} {m : Nat} {i : Int} (h0 : 0 ≤ i) (h1 : i < m) : rd (b.take m) i = rd b i := by
  simp only [rd, List.getD_eq_getElem?_getD]
  rw [List.getElem?_take_of_lt (by omega)]
theorem sumTo_take (xs : List S55) (b : List Int) (m : Nat) (u : Int) : ∀ i : Nat, i ≤ m → sumTo xs (b.take m) u i = sumTo xs b u i := by
  intro i
  induction i with
  | zero => intro _; rfl
  | succ i ih =>
    intro h
    simp only [sumTo]
    rw [ih (by omega), rd_take (by omega) (by omega)]
theorem sumTo_mono {xs : List S55} (hx : areBoxes xs = true) (b : List Int) (u : Int) (i : Nat) : ∀ j : Nat, i ≤ j → j ≤ xs.length → sumTo xs b u i ≤ sumTo xs b u j := by
  intro j
  induction j with
  | zero => intro h _; rw [show i = 0 by omega]; omega
  | succ j ih =>
    intro h h2
    by_cases hj : i = j + 1
    · rw [hj]; omega
    · have h3 := ih (by omega) (by omega)
      have h4 := box_grams hx (i := (j : Int)) (by omega) (by omega)
      simp only [sumTo]
      split <;> omega
theorem ok_iff_rides {xs : List S55} (hx : areBoxes xs = true) {lim : Int} {b : List Int} (hl : b.length ≤ xs.length) : OkAll xs lim b ↔ ∀ i : Int, 0 ≤ i → i < b.length → rideB xs lim (b.take (i + 1).toNat) = true := by
  have hr : ∀ i : Int, 0 ≤ i → i < b.length → (rideB xs lim (b.take (i + 1).toNat) = true ↔ RideP xs lim (b.take (i + 1).toNat) i) := fun i h0 h1 => by
    rw [rideB_iff]
    have : (((b.take (i + 1).toNat).length : Nat) : Int) - 1 = i := by rw [List.length_take]; omega
    rw [this]
  constructor
  · intro h i h0 h1
    refine (hr i h0 h1).2 ⟨fun j h2 h3 h4 => ?_, ?_⟩
    · rw [rd_take h2 (by omega), rd_take h0 (by omega)] at h4
      exact ((h i h0 h1).2 j h2 h3 h4.symm).symm
    · rw [rd_take h0 (by omega), sumTo_take xs b _ _ _ (by omega)]
      exact Int.le_trans (sumTo_mono hx b _ _ b.length (by omega) hl) (h i h0 h1).1
  · intro h
    have hm : ∀ m : Nat, m ≤ b.length → OkAll xs lim (b.take m) := by
      intro m
      induction m with
      | zero => intro _; rw [List.take_zero]; exact ok_nil xs lim
      | succ m ih =>
        intro h2
        have h3 := h (m : Int) (by omega) (by omega)
        rw [show ((m : Int) + 1).toNat = m + 1 by omega] at h3
        have e : b.take (m + 1) = b.take m ++ [b[m]'(by omega)] := by rw [List.take_succ_eq_append_getElem (by omega)]
        rw [e] at h3 ⊢
        rw [rideB_iff, last_of] at h3
        exact (ok_append (ih (by omega))).2 h3
    have := hm b.length (Nat.le_refl _)
    rw [List.take_length] at this
    exact this
theorem veh_iff {b : List Int} : Veh b ↔ ∀ i : Int, 0 ≤ i → i < b.length → 0 ≤ rd b i ∧ rd b i ≤ 6 := by
  constructor
  · intro h i h0 h1; exact h.at h0 h1
  · intro h v hv
    obtain ⟨j, hj⟩ := List.mem_iff_getElem?.1 hv
    obtain ⟨hl, he⟩ := List.getElem?_eq_some_iff.1 hj
    have := h (j : Int) (by omega) (by omega)
    rw [rd_getElem (by omega) (by omega)] at this
    have e : b[((j : Int)).toNat]'(by omega) = v := by rw [← he]; congr 1
    rw [e] at this
    exact this
instance instVeh (b : List Int) : Decidable (Veh b) := by unfold Veh; infer_instance
def codeN (xs : List S55) (lim : Int) (b : List Int) : Int := if codeB xs lim = 0 then (if Veh b ∧ b.length = xs.length then 0 else 2) else codeB xs lim
theorem l28Numbers_ev (xs : List S55) (hn : xs.length ≤ 1000000) (lim : Int) (b : List Int) (hb : b.length ≤ 1000000) : Ev (fun k => spec_l28Numbers.f k xs lim b) (codeN xs lim b) := by
  unfold spec_l28Numbers.f codeN
  refine Ev.bind (l28Code_ev xs hn lim) (Ev_ite (fun h => ?_) (fun h => by rw [if_neg h]; exact Ev.now _))
  rw [if_pos h]
  refine Ev_allK (F := fun k i => spec_l28Numbers.l0 k xs b i) (p := fun i => 0 ≤ rd b i ∧ rd b i ≤ 6) (n := b.length) (bad := 2) (fun i h0 h1 => ⟨fun hp hr => Ev_succ (by
    simp only [spec_l28Numbers.l0, l01In_eq, Option.bind_some, decide_eq_true_eq]
    rw [w64 (by omega) (by omega)]
    exact Ev_pos h1 (Ev_pos h0 (Ev_pos hp hr))), fun hp hr => Ev_succ (by
    simp only [spec_l28Numbers.l0, l01In_eq, Option.bind_some, decide_eq_true_eq]
    exact Ev_pos h1 (Ev_pos h0 (Ev_neg hp (Ev_some hr.symm))))⟩) b.length 0 (by omega) (by omega) (fun hno => if_neg (fun q => hno (veh_iff.1 q.1))) (fun hv => Ev_succ (by
    simp only [spec_l28Numbers.l0]
    refine Ev_neg (by omega) (Ev_ite (fun hc => ?_) (fun hc => ?_))
    · rw [if_pos ⟨veh_iff.2 hv, by omega⟩]; exact Ev.now _
    · rw [if_neg (fun q => hc (by omega))]; exact Ev.now _))
theorem areVehicles_ev (xs : List S55) (b : List Int) (hb : b.length ≤ 1000000) : Ev (fun k => impl_areVehicles.f k xs b) (decide (Veh b ∧ b.length = xs.length)) := by
  unfold impl_areVehicles.f
  have hall : Ev (fun k => impl_allWithin.f k b 0 6) (decide (Veh b)) := by
    unfold impl_allWithin.f
    refine Ev_allK (F := fun k i => impl_allWithin.l0 k 0 6 b (b.length : Int) i) (p := fun i => 0 ≤ rd b i ∧ rd b i ≤ 6) (n := b.length) (bad := false) (fun i h0 h1 => ⟨fun hp hr => Ev_succ (by
      simp only [impl_allWithin.l0, within_eq, Option.bind_some, decide_eq_true_eq]
      rw [w64 (by omega) (by omega)]
      exact Ev_pos h1 (Ev_pos h0 (Ev_pos h1 (Ev_pos hp hr)))), fun hp hr => Ev_succ (by
      simp only [impl_allWithin.l0, within_eq, Option.bind_some, decide_eq_true_eq]
      exact Ev_pos h1 (Ev_pos h0 (Ev_pos h1 (Ev_neg hp (Ev_some hr.symm)))))⟩) b.length 0 (by omega) (by omega) (fun hno => decide_eq_false (fun q => hno (veh_iff.1 q))) (fun hv => Ev_succ (by
      simp only [impl_allWithin.l0]
      exact Ev_neg (by omega) (Ev_some (decide_eq_true (veh_iff.2 hv)).symm)))
  refine Ev_ite (fun h => Ev.bind hall (Ev_some ?_)) (fun h => Ev_some (decide_eq_false (fun q => h (by omega))).symm)
  by_cases hv : Veh b
  · rw [decide_eq_true hv, decide_eq_true (show Veh b ∧ b.length = xs.length from ⟨hv, by omega⟩)]
  · rw [decide_eq_false hv, decide_eq_false (fun q => hv q.1)]
theorem impl_isLoading_ev {xs : List S55} (hx : areBoxes xs = true) (lim : Int) {b : List Int} (hl : b.length = xs.length) : Ev (fun k => impl_isLoading.f k xs lim b) (okB xs lim b) := by
  have hn := ((areBoxes_iff xs).1 hx).1
  have hiff := ok_iff_rides hx (lim := lim) (b := b) (by omega)
  unfold impl_isLoading.f
  refine Ev_allK (F := fun k i => impl_isLoading.l0 k xs lim b (b.length : Int) i) (p := fun i => rideB xs lim (b.take (i + 1).toNat) = true) (n := b.length) (bad := false) (fun i h0 h1 => ?_) b.length 0 (by omega) (by omega) (fun hno => ?_) (fun hv => Ev_succ (by
    simp only [impl_isLoading.l0]
    exact Ev_neg (by omega) (Ev_some (okB_iff.2 (hiff.2 hv)).symm)))
  · have hr := impl_mayRide_ev hx (lim := lim) (b := b.take (i + 1).toNat) (by rw [List.length_take]; omega) (by rw [List.length_take]; omega)
    refine ⟨fun hp he => Ev_succ (by
      simp only [impl_isLoading.l0]
      rw [w64 (by omega) (by omega)]
      exact Ev_pos h1 (Ev_pos (by omega) (Ev_pos (by omega) (Ev.bind hr (Ev_pos hp he))))), fun hp he => Ev_succ (by
      simp only [impl_isLoading.l0]
      rw [w64 (by omega) (by omega)]
      exact Ev_pos h1 (Ev_pos (by omega) (Ev_pos (by omega) (Ev.bind hr (Ev_neg hp (Ev_some he.symm))))))⟩
  · rw [Bool.eq_false_iff]
    exact fun h => hno (hiff.1 (okB_iff.1 h))
noncomputable def isLoadingM (xs : List S55) (lim : Int) (b : List Int) : Bool × Int := if codeN xs lim b = 0 then (okB xs lim b, 0) else (false, codeN xs lim b)
theorem codeN_0 {xs : List S55} {lim : Int} {b : List Int} (h : codeN xs lim b = 0) : codeB xs lim = 0 ∧ Veh b ∧ b.length = xs.length := by
  unfold codeN at h
  by_cases h1 : codeB xs lim = 0
  · rw [if_pos h1] at h
    by_cases h2 : Veh b ∧ b.length = xs.length
    · exact ⟨h1, h2⟩
    · rw [if_neg h2] at h; exact absurd h (by decide)
  · rw [if_neg h1] at h; exact absurd h h1
theorem impl_IsLoading_ev (xs : List S55) (lim : Int) (b : List Int) (hb : b.length ≤ 1000000) : Ev (fun k => impl_IsLoading.f k xs lim b) (isLoadingM xs lim b) := by
  unfold impl_IsLoading.f isLoadingM codeN codeB
  rw [isLoadLimit_eq]
  simp only [Option.bind_some]
  refine Ev.bind (impl_AreBoxes_ev xs) (Ev_ite (fun hx => ?_) (fun hx => ?_))
  · rw [if_pos hx]
    refine Ev_ite (fun hl => ?_) (fun hl => ?_)
    · rw [if_pos (of_decide_eq_true hl), if_pos rfl]
      refine Ev.bind (areVehicles_ev xs b hb) (Ev_ite (fun hv => ?_) (fun hv => ?_))
      · have hv' := of_decide_eq_true hv
        rw [if_pos hv', if_pos rfl]
        exact Ev.bind (impl_isLoading_ev hx lim hv'.2) (Ev.now _)
      · have hv' : ¬ (Veh b ∧ b.length = xs.length) := fun q => hv (decide_eq_true q)
        rw [if_neg hv', if_neg (by decide)]
        exact Ev.now _
    · have hl' : ¬ (1 ≤ lim ∧ lim ≤ 10000000) := fun q => hl (decide_eq_true q)
      rw [if_neg hl', if_neg (show ¬ ((2 : Int) = 0) by decide), if_neg (show ¬ ((2 : Int) = 0) by decide)]
      exact Ev.now _
  · rw [if_neg hx, if_neg (show ¬ ((1 : Int) = 0) by decide), if_neg (show ¬ ((1 : Int) = 0) by decide)]
    exact Ev.now _

/-- How many vehicles are used. -/
def usedM (b : List Int) : Int := b.foldl (fun m v => max m (v + 1)) 0
theorem usedM_append (b : List Int) (v : Int) : usedM (b ++ [v]) = max (usedM b) (v + 1) := by simp [usedM]
theorem usedM_bound {b : List Int} (hb : Veh b) : 0 ≤ usedM b ∧ usedM b ≤ 7 := by
  unfold usedM
  have : ∀ (b : List Int) (m : Int), Veh b → 0 ≤ m → m ≤ 7 → 0 ≤ b.foldl (fun m v => max m (v + 1)) m ∧ b.foldl (fun m v => max m (v + 1)) m ≤ 7 := by
    intro b
    induction b with
    | nil => intro m _ h1 h2; exact ⟨h1, h2⟩
    | cons v b ih =>
      intro m hb h1 h2
      have := hb v (List.mem_cons_self ..)
      exact ih (max m (v + 1)) (fun x hx => hb x (List.mem_cons_of_mem _ hx)) (by omega) (by omega)
  exact this b 0 hb (by omega) (by omega)
theorem rdNat {b : List Int} (j : Nat) (h : j < b.length) : rd b (j : Int) = b[j] := by
  rw [rd_getElem (by omega) (by omega)]; rfl
theorem impl_used_ev {b : List Int} (hb : Veh b) (hl : b.length ≤ 1000000) : Ev (fun k => impl_used.f k b) (usedM b) := by
  have h := Ev_for2 (F := fun k s i => impl_used.l0 k s b (b.length : Int) i) (step := fun s i => .inr ((fun (m v : Int) => max m (v + 1)) s (rd b i))) (out := fun s => s) (n := b.length) (fun _ _ => True)
    (fun s hI => Ev_succ (by simp only [impl_used.l0]; exact Ev_neg (by omega) (Ev.now _)))
    (fun s i h0 h1 hI => .inr ⟨_, rfl, trivial, fun r hr => Ev_succ (by
      simp only [impl_used.l0]
      have := hb.at h0 h1
      refine Ev_pos h1 (Ev_pos h0 (Ev_pos h1 ?_))
      rw [w64 (x := rd b i + 1) (by omega) (by omega), w64 (by omega) (by omega), mx_eq]
      exact hr)⟩) b.length 0 0 (by omega) (by omega) trivial
  rw [forM_fold0 b (rd b) (fun j hj => rdNat j hj) (fun (m v : Int) => max m (v + 1)) (fun s => s) 0] at h
  exact h

/-- All loadings that begin with some numbers, in order. -/
noncomputable def loadsM (xs : List S55) (lim most : Int) : Nat → List Int → List (List Int)
  | 0, b => [b]
  | d + 1, b => foldU (fun s v => if rideB xs lim (b ++ [v]) = true then s ++ loadsM xs lim most d (b ++ [v]) else s) (min (usedM b + 1) most).toNat [] 0
theorem loadsM_length (xs : List S55) (lim : Int) {most : Int} (hm : 0 ≤ most ∧ most ≤ 7) : ∀ (d : Nat) (b : List Int), Veh b → (loadsM xs lim most d b).length ≤ 7 ^ d := by
  intro d
  induction d with
  | zero => intro b _; simp [loadsM]
  | succ d ih =>
    intro b hb
    have hu := usedM_bound hb
    obtain ⟨P, hP⟩ : ∃ P : Nat, P = 7 ^ d := ⟨_, rfl⟩
    have := foldU_ind (upd := fun s v => if rideB xs lim (b ++ [v]) = true then s ++ loadsM xs lim most d (b ++ [v]) else s) (n := min (usedM b + 1) most) (fun s v => (s.length : Int) ≤ (P : Int) * v) (fun s v h0 h1 hI => by
      have e : (P : Int) * (v + 1) = (P : Int) * v + P := by rw [Int.mul_add, Int.mul_one]
      rw [e]
      split
      · have := ih (b ++ [v]) (hb.append (by omega))
        rw [List.length_append]
        omega
      · omega) (min (usedM b + 1) most).toNat [] 0 (by omega) (by omega) (by simp)
    have h7 : (P : Int) * min (usedM b + 1) most ≤ (P : Int) * 7 := Int.mul_le_mul_of_nonneg_left (by omega) (by omega)
    unfold loadsM
    rw [Nat.pow_succ, ← hP]
    omega
theorem pow7 {d : Nat} (h : d ≤ 7) : 7 ^ d ≤ 823543 := by
  have : 7 ^ d ≤ 7 ^ 7 := Nat.pow_le_pow_right (by omega) h
  exact this

/-- A loading begins with the numbers that it was made from, each new vehicle is the next, and all ride lawfully. -/
theorem loads_canon (xs : List S55) (lim : Int) {most : Int} (hm : 0 ≤ most ∧ most ≤ 7) : ∀ (d : Nat) (b : List Int), Veh b → OkAll xs lim b → ∀ l ∈ loadsM xs lim most d b, OkAll xs lim l ∧ l.take b.length = b ∧ l.length = b.length + d ∧ ∀ i : Nat, b.length ≤ i → i < l.length → rd l (i : Int) ≤ usedM (l.take i) := by
  intro d
  induction d with
  | zero =>
    intro b hb hok l hl
    simp [loadsM] at hl
    subst hl
    exact ⟨hok, List.take_length, rfl, fun i h1 h2 => by omega⟩
  | succ d ih =>
    intro b hb hok l hl
    have hub := usedM_bound hb
    unfold loadsM at hl
    have := foldU_ind (upd := fun s v => if rideB xs lim (b ++ [v]) = true then s ++ loadsM xs lim most d (b ++ [v]) else s) (n := min (usedM b + 1) most) (fun s _ => ∀ l ∈ s, OkAll xs lim l ∧ l.take b.length = b ∧ l.length = b.length + (d + 1) ∧ ∀ i : Nat, b.length ≤ i → i < l.length → rd l (i : Int) ≤ usedM (l.take i)) (fun s v h0 h1 hI l hl => by
      split at hl
      · rename_i hc
        rcases List.mem_append.1 hl with hl | hl
        · exact hI l hl
        · have hok2 : OkAll xs lim (b ++ [v]) := okB_iff.1 ((okB_append hok).trans hc)
          obtain ⟨g1, g2, g3, g4⟩ := ih (b ++ [v]) (hb.append (by omega)) hok2 l hl
          have hbl : (b ++ [v]).length = b.length + 1 := by rw [List.length_append]; rfl
          rw [hbl] at g2 g3 g4
          have ht : l.take b.length = b := by
            have := congrArg (List.take b.length) g2
            rw [List.take_take, show min b.length (b.length + 1) = b.length by omega, List.take_left] at this
            exact this
          refine ⟨g1, ht, by omega, fun i h2 h3 => ?_⟩
          by_cases hi : i = b.length
          · subst hi
            rw [ht, ← rd_take (b := l) (m := b.length + 1) (by omega) (by omega), g2, rd_last]
            omega
          · exact g4 i (by omega) h3
      · exact hI l hl) (min (usedM b + 1) most).toNat [] 0 (by omega) (by omega) (fun l hl => by cases hl)
    exact this l hl

/-- The first of those with the fewest vehicles. -/
def Best (L : List (List Int)) (l : List Int) : Prop := ∃ pre post, L = pre ++ l :: post ∧ (∀ x ∈ pre, usedM l < usedM x) ∧ ∀ x ∈ post, usedM l ≤ usedM x
def pickU (s : List Int × Bool) (l : List Int) : List Int × Bool := if s.2 = true then (if usedM l < usedM s.1 then (l, true) else s) else (l, true)
theorem pick_best (M : List (List Int)) : ∀ (L : List (List Int)) (l : List Int), Best L l → ∃ m, M.foldl pickU (l, true) = (m, true) ∧ Best (L ++ M) m := by
  induction M with
  | nil => intro L l h; exact ⟨l, rfl, by rw [List.append_nil]; exact h⟩
  | cons x M ih =>
    intro L l h
    obtain ⟨pre, post, he, h1, h2⟩ := h
    simp only [List.foldl_cons]
    by_cases hx : usedM x < usedM l
    · have e : pickU (l, true) x = (x, true) := by unfold pickU; rw [if_pos rfl, if_pos hx]
      rw [e]
      have hb : Best (L ++ [x]) x := ⟨L, [], rfl, fun y hy => by
        rw [he] at hy
        rcases List.mem_append.1 hy with hy | hy
        · have := h1 y hy; omega
        · rcases List.mem_cons.1 hy with hy | hy
          · rw [hy]; exact hx
          · have := h2 y hy; omega, fun y hy => by cases hy⟩
      obtain ⟨m, hm, hb2⟩ := ih (L ++ [x]) x hb
      exact ⟨m, hm, by rw [List.append_assoc] at hb2; exact hb2⟩
    · have e : pickU (l, true) x = (l, true) := by unfold pickU; rw [if_pos rfl, if_neg hx]
      rw [e]
      have hb : Best (L ++ [x]) l := ⟨pre, post ++ [x], by rw [he]; simp, h1, fun y hy => by
        rcases List.mem_append.1 hy with hy | hy
        · exact h2 y hy
        · rw [List.mem_singleton.1 hy]; omega⟩
      obtain ⟨m, hm, hb2⟩ := ih (L ++ [x]) l hb
      exact ⟨m, hm, by rw [List.append_assoc] at hb2; exact hb2⟩
theorem pick_all (L : List (List Int)) : (L = [] ∧ L.foldl pickU ([], false) = ([], false)) ∨ ∃ m, L.foldl pickU ([], false) = (m, true) ∧ Best L m := by
  cases L with
  | nil => exact .inl ⟨rfl, rfl⟩
  | cons x M =>
    refine .inr ?_
    have hb : Best [x] x := ⟨[], [], rfl, (fun y hy => by cases hy), (fun y hy => by cases hy)⟩
    exact pick_best M [x] x hb
/-- The loadings with at most m vehicles are those among all. -/
theorem foldU_congr {S : Type} {f g : S → Int → S} {n : Int} (h : ∀ (s : S) (i : Int), 0 ≤ i → i < n → f s i = g s i) : ∀ (d : Nat) (s : S) (i : Int), 0 ≤ i → i + d = n → foldU f d s i = foldU g d s i := by
  intro d
  induction d with
  | zero => intro s i _ _; rfl
  | succ d ih =>
    intro s i h0 h1
    simp only [foldU]
    rw [h s i h0 (by omega)]
    exact ih _ _ (by omega) (by omega)
theorem foldU_add {S : Type} {f : S → Int → S} : ∀ (a b : Nat) (s : S) (i : Int), foldU f (a + b) s i = foldU f b (foldU f a s i) (i + a) := by
  intro a
  induction a with
  | zero => intro b s i; simp [foldU]
  | succ a ih =>
    intro b s i
    rw [show a + 1 + b = (a + b) + 1 by omega]
    simp only [foldU]
    rw [ih b (f s i) (i + 1)]
    congr 1
    omega
theorem loads_used {xs : List S55} {lim most : Int} : ∀ (d : Nat) (b : List Int), ∀ l ∈ loadsM xs lim most d b, usedM b ≤ usedM l := by
  intro d
  induction d with
  | zero => intro b l hl; simp [loadsM] at hl; rw [hl]; omega
  | succ d ih =>
    intro b l hl
    unfold loadsM at hl
    by_cases hm : 0 ≤ min (usedM b + 1) most
    · have := foldU_ind (upd := fun s v => if rideB xs lim (b ++ [v]) = true then s ++ loadsM xs lim most d (b ++ [v]) else s) (n := min (usedM b + 1) most) (fun s _ => ∀ l ∈ s, usedM b ≤ usedM l) (fun s v _ _ hI l hl => by
        split at hl
        · rcases List.mem_append.1 hl with hl | hl
          · exact hI l hl
          · have := ih (b ++ [v]) l hl
            rw [usedM_append] at this
            omega
        · exact hI l hl) (min (usedM b + 1) most).toNat [] 0 (by omega) (by omega) (fun l hl => by cases hl)
      exact this l hl
    · rw [show (min (usedM b + 1) most).toNat = 0 by omega] at hl
      simp [foldU] at hl
theorem filter_none {α : Type} {p : α → Bool} {L : List α} (h : ∀ x ∈ L, p x = false) : L.filter p = [] := by
  rw [List.filter_eq_nil_iff]
  exact fun x hx => by rw [h x hx]; decide
theorem loads_filter (xs : List S55) (lim : Int) {m : Int} (hm : 0 ≤ m ∧ m ≤ 7) : ∀ (d : Nat) (b : List Int), Veh b → usedM b ≤ m → loadsM xs lim m d b = (loadsM xs lim 7 d b).filter fun l => decide (usedM l ≤ m) := by
  intro d
  induction d with
  | zero => intro b _ hu; simp [loadsM, hu]
  | succ d ih =>
    intro b hb hu
    have hub := usedM_bound hb
    unfold loadsM
    -- the rounds up to m
    have h1 : ∀ (c : Nat) (s t : List (List Int)) (i : Int), 0 ≤ i → i + c = min (usedM b + 1) m → s = t.filter (fun l => decide (usedM l ≤ m)) → foldU (fun s v => if rideB xs lim (b ++ [v]) = true then s ++ loadsM xs lim m d (b ++ [v]) else s) c s i = (foldU (fun s v => if rideB xs lim (b ++ [v]) = true then s ++ loadsM xs lim 7 d (b ++ [v]) else s) c t i).filter fun l => decide (usedM l ≤ m) := by
      intro c
      induction c with
      | zero => intro s t i _ _ hs; exact hs
      | succ c ihc =>
        intro s t i h0 hc hs
        simp only [foldU]
        refine ihc _ _ (i + 1) (by omega) (by omega) ?_
        split
        · rw [List.filter_append, ← hs, ih (b ++ [i]) (hb.append (by omega)) (by rw [usedM_append]; omega)]
        · exact hs
    -- the rounds behind
    have h2 : ∀ (c : Nat) (t : List (List Int)) (i : Int), m ≤ i → (foldU (fun s v => if rideB xs lim (b ++ [v]) = true then s ++ loadsM xs lim 7 d (b ++ [v]) else s) c t i).filter (fun l => decide (usedM l ≤ m)) = t.filter fun l => decide (usedM l ≤ m) := by
      intro c
      induction c with
      | zero => intro t i _; rfl
      | succ c ihc =>
        intro t i hi
        simp only [foldU]
        rw [ihc _ (i + 1) (by omega)]
        split
        · rw [List.filter_append, filter_none (L := loadsM xs lim 7 d (b ++ [i])) (fun l hl => by
            have := loads_used d (b ++ [i]) l hl
            rw [usedM_append] at this
            simp only [decide_eq_false_iff_not]
            omega), List.append_nil]
        · rfl
    obtain ⟨a, ha⟩ : ∃ a : Nat, a = (min (usedM b + 1) m).toNat := ⟨_, rfl⟩
    obtain ⟨c, hc⟩ : ∃ c : Nat, (min (usedM b + 1) 7).toNat = a + c := ⟨(min (usedM b + 1) 7).toNat - a, by omega⟩
    rw [hc, ← ha, foldU_add]
    by_cases hz : c = 0
    · rw [hz]
      exact h1 a [] [] 0 (by omega) (by omega) rfl
    · rw [h2 c _ _ (by omega)]
      exact h1 a [] [] 0 (by omega) (by omega) rfl

theorem usedM_take_le (l : List Int) (i : Nat) : usedM (l.take i) ≤ usedM l := by
  have : ∀ (b : List Int) (m n : Int), m ≤ n → m ≤ b.foldl (fun m v => max m (v + 1)) n := by
    intro b
    induction b with
    | nil => intro m n h; exact h
    | cons v b ih => intro m n h; simp only [List.foldl_cons]; exact ih m _ (by omega)
  have e : usedM l = (l.drop i).foldl (fun m v => max m (v + 1)) (usedM (l.take i)) := by
    unfold usedM
    rw [← List.foldl_append, List.take_append_drop]
  rw [e]
  exact this _ _ _ (Int.le_refl _)
theorem foldU_mem {α : Type} {c : Int → Bool} {f : Int → List α} {n : Int} (hn : 0 ≤ n) {v : Int} (h0 : 0 ≤ v) (h1 : v < n) (hc : c v = true) {x : α} (hx : x ∈ f v) : x ∈ foldU (fun s v => if c v = true then s ++ f v else s) n.toNat [] 0 := by
  have := foldU_ind (upd := fun s v => if c v = true then s ++ f v else s) (n := n) (fun s i => ∀ v : Int, 0 ≤ v → v < i → c v = true → ∀ x ∈ f v, x ∈ s) (fun s i g0 g1 hI v k0 k1 kc x kx => by
    by_cases hv : v = i
    · subst hv
      rw [if_pos kc]
      exact List.mem_append.2 (.inr kx)
    · have := hI v k0 (by omega) kc x kx
      split
      · exact List.mem_append.2 (.inl this)
      · exact this) n.toNat [] 0 (by omega) (by omega) (fun v k0 k1 => by omega)
  exact this v h0 h1 hc x hx
theorem mem_loads {xs : List S55} (hx : areBoxes xs = true) (lim : Int) {most : Int} (hm : 0 ≤ most ∧ most ≤ 7) (l : List Int) (hv : Veh l) (hll : l.length = xs.length) (hcan : ∀ i : Nat, i < l.length → rd l (i : Int) ≤ usedM (l.take i)) (hu : usedM l ≤ most) (hok : OkAll xs lim l) : ∀ (d : Nat) (b : List Int), Veh b → OkAll xs lim b → l.length = b.length + d → l.take b.length = b → l ∈ loadsM xs lim most d b := by
  intro d
  induction d with
  | zero =>
    intro b hb hbo hl ht
    rw [List.take_of_length_le (by omega)] at ht
    rw [ht]
    simp [loadsM]
  | succ d ih =>
    intro b hb hbo hl ht
    have hub := usedM_bound hb
    have hv1 := hv.at (i := (b.length : Int)) (by omega) (by omega)
    have ht2 : l.take (b.length + 1) = b ++ [rd l (b.length : Int)] := by
      rw [List.take_succ_eq_append_getElem (show b.length < l.length by omega), ht, rdNat b.length (by omega)]
    have hc := hcan b.length (by omega)
    rw [ht] at hc
    have hmu := usedM_take_le l (b.length + 1)
    rw [ht2, usedM_append] at hmu
    have hr := (ok_iff_rides hx (by omega)).1 hok (b.length : Int) (by omega) (by omega)
    rw [toNat_succ (by omega), show ((b.length : Int)).toNat = b.length by omega, ht2] at hr
    unfold loadsM
    refine foldU_mem (c := fun v => rideB xs lim (b ++ [v])) (f := fun v => loadsM xs lim most d (b ++ [v])) (by omega) (v := rd l (b.length : Int)) hv1.1 (by omega) hr ?_
    refine ih _ (hb.append hv1) (okB_iff.1 ((okB_append hbo).trans hr)) (by rw [List.length_append]; simp; omega) ?_
    rw [List.length_append]
    exact ht2

/-- The greatest of the first values, and 0. -/
def mxN (f : Int → Int) : Nat → Int
  | 0 => 0
  | j + 1 => max (mxN f j) (f (j : Int))
theorem mxN_same {f g : Int → Int} {n : Nat} (h : ∀ j : Nat, j < n → f (j : Int) = g (j : Int)) : mxN f n = mxN g n := by
  induction n with
  | zero => rfl
  | succ n ih => simp only [mxN]; rw [ih (fun j hj => h j (by omega)), h n (by omega)]
theorem mxN_one {f g : Int → Int} {v n : Nat} (hv : v < n) (h : ∀ j : Nat, j < n → j ≠ v → g (j : Int) = f (j : Int)) (hle : f (v : Int) ≤ g (v : Int)) : mxN g n = max (mxN f n) (g (v : Int)) := by
  induction n with
  | zero => omega
  | succ n ih =>
    simp only [mxN]
    by_cases hn : v = n
    · subst hn
      rw [mxN_same (f := g) (g := f) (n := v) (fun j hj => h j (by omega) (by omega))]
      omega
    · rw [ih (by omega) (fun j hj hne => h j (by omega) hne), h n (by omega) (fun q => hn q.symm)]
      omega
theorem mxN_bound {f : Int → Int} {B : Int} (hB : 0 ≤ B) {n : Nat} (h : ∀ j : Nat, j < n → f (j : Int) ≤ B) : 0 ≤ mxN f n ∧ mxN f n ≤ B := by
  induction n with
  | zero => simp only [mxN]; omega
  | succ n ih =>
    simp only [mxN]
    have h1 := ih (fun j hj => h j (by omega))
    have h2 := h n (by omega)
    omega
theorem mxN_ge {f : Int → Int} {n v : Nat} (hv : v < n) : f (v : Int) ≤ mxN f n := by
  induction n with
  | zero => omega
  | succ n ih =>
    simp only [mxN]
    by_cases hn : v = n
    · subst hn; omega
    · have := ih (by omega); omega
/-- The greatest of the seven sums, of the first boxes. -/
def maxS (xs : List S55) (b : List Int) (i : Nat) : Int := mxN (fun u => sumTo xs b u i) 7
theorem maxS_zero (xs : List S55) (b : List Int) : maxS xs b 0 = 0 := by simp [maxS, mxN, sumTo]
theorem maxS_succ {xs : List S55} (hx : areBoxes xs = true) {b : List Int} (hb : Veh b) (hl : b.length ≤ xs.length) {i : Nat} (hi : i < b.length) : maxS xs b (i + 1) = max (maxS xs b i) (sumTo xs b (rd b (i : Int)) (i + 1)) := by
  have hg := box_grams hx (i := (i : Int)) (by omega) (by omega)
  obtain ⟨h0, h6⟩ := hb.at (i := (i : Int)) (by omega) (by omega)
  obtain ⟨v, hv⟩ : ∃ v : Nat, (v : Int) = rd b (i : Int) := ⟨(rd b (i : Int)).toNat, by omega⟩
  unfold maxS
  have := mxN_one (f := fun u => sumTo xs b u i) (g := fun u => sumTo xs b u (i + 1)) (v := v) (n := 7) (by omega) (fun j hj hne => by
    simp only [sumTo]
    rw [if_neg (by omega), Int.add_zero]) (by
    simp only [sumTo]
    rw [if_pos hv.symm]
    omega)
  rw [this, hv]
theorem maxS_bound {xs : List S55} (hx : areBoxes xs = true) (b : List Int) {i : Nat} (hi : i ≤ xs.length) : 0 ≤ maxS xs b i ∧ maxS xs b i ≤ 7000000 := by
  have hn := ((areBoxes_iff xs).1 hx).1
  exact mxN_bound (by omega) (fun j hj => by have := sumTo_bound hx b (j : Int) i hi; omega)
theorem spec_peak_ev {xs : List S55} {b s : List Int} {n : Nat} (hs : s.length = 7) (h : ∀ u : Int, 0 ≤ u → u ≤ 6 → rd s u = sumTo xs b u n) : Ev (fun k => spec_l28Peak.f k s) (maxS xs b n) := by
  unfold spec_l28Peak.f
  refine Ev_forK (F := fun k m i => spec_l28Peak.l0 k s m i) (upd := fun m i => max m (rd s i)) (n := 7) (fun _ _ => True) (fun m i h0 h1 _ => ⟨trivial, fun hr => Ev_succ (by
    simp only [spec_l28Peak.l0]
    rw [w64 (by omega) (by omega), mx_eq]
    exact Ev_pos (by omega) (Ev_pos h0 hr))⟩) 7 0 0 (by omega) (by omega) trivial (fun _ => Ev_succ (by
    simp only [spec_l28Peak.l0]
    refine Ev_neg (by omega) (Ev_some ?_)
    have e : foldU (fun m i => max m (rd s i)) 7 0 0 = mxN (rd s) 7 := rfl
    rw [e]
    exact mxN_same (fun j hj => h j (by omega) (by omega))))

theorem rd_L_nat {L : List (List Int)} (j : Nat) (h : j < L.length) : rd_L2 L (j : Int) = L[j] := by
  simp [rd_L2, List.getD_eq_getElem?_getD, List.getElem?_eq_getElem h]
theorem rd_L_mem {L : List (List Int)} {i : Int} (h0 : 0 ≤ i) (h1 : i < L.length) : rd_L2 L i ∈ L := by
  have := rd_L_nat i.toNat (show i.toNat < L.length by omega)
  rw [show ((i.toNat : Nat) : Int) = i by omega] at this
  rw [this]
  exact List.getElem_mem _
theorem loads_vehs (xs : List S55) (lim : Int) {most : Int} (hm : 0 ≤ most ∧ most ≤ 7) : ∀ (d : Nat) (b : List Int), Veh b → ∀ l ∈ loadsM xs lim most d b, Veh l ∧ l.length = b.length + d := by
  intro d
  induction d with
  | zero => intro b hb l hl; simp [loadsM] at hl; rw [hl]; exact ⟨hb, rfl⟩
  | succ d ih =>
    intro b hb l hl
    have hub := usedM_bound hb
    unfold loadsM at hl
    have := foldU_ind (upd := fun s v => if rideB xs lim (b ++ [v]) = true then s ++ loadsM xs lim most d (b ++ [v]) else s) (n := min (usedM b + 1) most) (fun s _ => ∀ l ∈ s, Veh l ∧ l.length = b.length + (d + 1)) (fun s v h0 h1 hI l hl => by
      split at hl
      · rcases List.mem_append.1 hl with hl | hl
        · exact hI l hl
        · have := ih (b ++ [v]) (hb.append (by omega)) l hl
          rw [List.length_append] at this
          simp at this
          exact ⟨this.1, by omega⟩
      · exact hI l hl) (min (usedM b + 1) most).toNat [] 0 (by omega) (by omega) (fun l hl => by cases hl)
    exact this l hl

/-- The least of the peaks, -1 where there is none. -/
def leastS (xs : List S55) (L : List (List Int)) (m i : Int) : Int := if m < 0 then maxS xs (rd_L2 L i) xs.length else if maxS xs (rd_L2 L i) xs.length < m then maxS xs (rd_L2 L i) xs.length else m
noncomputable def leastM (xs : List S55) (lim most : Int) : Int := foldU (leastS xs (loadsM xs lim most xs.length [])) (loadsM xs lim most xs.length []).length (-1) 0

theorem sumTo_unused {xs : List S55} {b : List Int} {u : Int} : ∀ n : Nat, (∀ i : Nat, i < n → ¬ rd b (i : Int) = u) → sumTo xs b u n = 0 := by
  intro n
  induction n with
  | zero => intro _; rfl
  | succ n ih => intro h; simp only [sumTo]; rw [ih (fun i hi => h i (by omega)), if_neg (h n (by omega))]; rfl
theorem maxS_le {xs : List S55} {lim : Int} (hl : 0 ≤ lim) {b : List Int} (h : OkAll xs lim b) : maxS xs b b.length ≤ lim := by
  refine (mxN_bound hl (fun j hj => ?_)).2
  by_cases he : ∃ i : Nat, i < b.length ∧ rd b (i : Int) = (j : Int)
  · obtain ⟨i, h1, h2⟩ := he
    have := (h (i : Int) (by omega) (by omega)).1
    rw [h2] at this
    exact this
  · rw [sumTo_unused b.length (fun i hi q => he ⟨i, hi, q⟩)]
    exact hl
theorem ok_of_max {xs : List S55} {lim lim' : Int} {b : List Int} (hv : Veh b) (h : OkAll xs lim b) (hm : maxS xs b b.length ≤ lim') : OkAll xs lim' b := fun i h0 h1 => by
  obtain ⟨g0, g6⟩ := hv.at h0 h1
  refine ⟨?_, (h i h0 h1).2⟩
  have := mxN_ge (f := fun u => sumTo xs b u b.length) (n := 7) (v := (rd b i).toNat) (by omega)
  simp only [show (((rd b i).toNat : Nat) : Int) = rd b i by omega] at this
  unfold maxS at hm
  omega
/-- What is known of a loading. -/
theorem load_facts {xs : List S55} {lim most : Int} (hm : 0 ≤ most ∧ most ≤ 7) {l : List Int} (h : l ∈ loadsM xs lim most xs.length []) : Veh l ∧ l.length = xs.length ∧ OkAll xs lim l ∧ usedM l ≤ most ∧ ∀ i : Nat, i < l.length → rd l (i : Int) ≤ usedM (l.take i) := by
  obtain ⟨h1, h2⟩ := loads_vehs xs lim hm xs.length [] Veh.nil l h
  obtain ⟨h3, _, _, h4⟩ := loads_canon xs lim hm xs.length [] Veh.nil (ok_nil xs lim) l h
  rw [loads_filter xs lim hm xs.length [] Veh.nil (by simp [usedM]; omega)] at h
  exact ⟨h1, by simpa using h2, h3, of_decide_eq_true (List.mem_filter.1 h).2, fun i hi => h4 i (by simp) hi⟩
theorem load_turn {xs : List S55} (hx : areBoxes xs = true) {lim most lim' most' : Int} (hm : 0 ≤ most ∧ most ≤ 7) (hm' : 0 ≤ most' ∧ most' ≤ 7) {l : List Int} (h : l ∈ loadsM xs lim most xs.length []) (hp : maxS xs l xs.length ≤ lim') (hu : usedM l ≤ most') : l ∈ loadsM xs lim' most' xs.length [] := by
  obtain ⟨h1, h2, h3, h4, h5⟩ := load_facts hm h
  exact mem_loads hx lim' hm' l h1 h2 h5 hu (ok_of_max h1 h3 (by rw [h2]; exact hp)) xs.length [] Veh.nil (ok_nil xs lim') (by simp [h2]) (by simp)
theorem leastM_tells (xs : List S55) (lim most : Int) (hx : areBoxes xs = true) : (loadsM xs lim most xs.length [] = [] ∧ leastM xs lim most = -1) ∨ (0 ≤ leastM xs lim most ∧ (∃ l ∈ loadsM xs lim most xs.length [], leastM xs lim most = maxS xs l xs.length) ∧ ∀ l ∈ loadsM xs lim most xs.length [], leastM xs lim most ≤ maxS xs l xs.length) := by
  unfold leastM
  obtain ⟨L, hL⟩ : ∃ L, L = loadsM xs lim most xs.length [] := ⟨_, rfl⟩
  rw [← hL]
  have := foldU_ind (upd := leastS xs L) (n := L.length) (fun m i => (i = 0 ∧ m = -1) ∨ (0 < i ∧ 0 ≤ m ∧ (∃ j : Int, 0 ≤ j ∧ j < i ∧ m = maxS xs (rd_L2 L j) xs.length) ∧ ∀ j : Int, 0 ≤ j → j < i → m ≤ maxS xs (rd_L2 L j) xs.length)) (fun m i h0 h1 hI => by
    have hb := maxS_bound hx (rd_L2 L i) (i := xs.length) (Nat.le_refl _)
    refine .inr ⟨by omega, ?_⟩
    unfold leastS
    rcases hI with ⟨h2, h3⟩ | ⟨h2, h3, ⟨j, h4, h5, h6⟩, h7⟩
    · rw [if_pos (by omega)]
      refine ⟨hb.1, ⟨i, h0, by omega, rfl⟩, fun j' h8 h9 => ?_⟩
      have : j' = i := by omega
      rw [this]
      exact Int.le_refl _
    · rw [if_neg (by omega)]
      by_cases hc : maxS xs (rd_L2 L i) xs.length < m
      · rw [if_pos hc]
        refine ⟨hb.1, ⟨i, h0, by omega, rfl⟩, fun j' h8 h9 => ?_⟩
        by_cases hj : j' = i
        · rw [hj]; exact Int.le_refl _
        · have := h7 j' h8 (by omega); omega
      · rw [if_neg hc]
        refine ⟨h3, ⟨j, h4, by omega, h6⟩, fun j' h8 h9 => ?_⟩
        by_cases hj : j' = i
        · rw [hj]; omega
        · exact h7 j' h8 (by omega)) L.length (-1) 0 (by omega) (by omega) (.inl ⟨rfl, rfl⟩)
  rcases this with ⟨h1, h2⟩ | ⟨h1, h2, ⟨j, h3, h4, h5⟩, h6⟩
  · exact .inl ⟨List.eq_nil_of_length_eq_zero (by omega), h2⟩
  · refine .inr ⟨h2, ⟨_, rd_L_mem h3 h4, h5⟩, fun l hl => ?_⟩
    obtain ⟨j', hj⟩ := List.mem_iff_getElem?.1 hl
    obtain ⟨hlt, he⟩ := List.getElem?_eq_some_iff.1 hj
    have := h6 (j' : Int) (by omega) (by omega)
    rw [rd_L_nat j' hlt, he] at this
    exact this

theorem copyList_eq {b : List Int} (h : b.length ≤ 1000000) : impl_copyList.f b = some b := by
  unfold impl_copyList.f
  rw [Option.bind_some, if_pos (by simp; omega), List.nil_append]
theorem impl_loads_ev {xs : List S55} (hx : areBoxes xs = true) (lim : Int) {most : Int} (hm : 0 ≤ most ∧ most ≤ 7) : ∀ (d : Nat) (b : List Int), Veh b → b.length + d = xs.length → Ev (fun k => impl_loadings.f k xs lim most b) (loadsM xs lim most d b) := by
  have hn := ((areBoxes_iff xs).1 hx).1
  intro d
  induction d with
  | zero =>
    intro b hb hl
    refine Ev_succ (by
      simp only [impl_loadings.f]
      exact Ev_pos (by omega) (Ev.now _))
  | succ d ih =>
    intro b hb hl
    have hu := usedM_bound hb
    have hlen : ∀ v : Int, 0 ≤ v → v < 7 → (loadsM xs lim most d (b ++ [v])).length ≤ 823543 := fun v h0 h1 => Nat.le_trans (loadsM_length xs lim hm d _ (hb.append (by omega))) (pow7 (by omega))
    refine Ev_succ (by
      simp only [impl_loadings.f]
      refine Ev_neg (by omega) ?_
      unfold loadsM
      refine Ev_forK (F := fun k s v => impl_loadings.l0 k xs lim most b s v) (upd := fun s v => if rideB xs lim (b ++ [v]) = true then s ++ loadsM xs lim most d (b ++ [v]) else s) (n := min (usedM b + 1) most) (fun s v => (s.length : Int) ≤ 1000000 * v) (fun s v h0 h1 hI => ⟨?_, fun hr => ?_⟩) (min (usedM b + 1) most).toNat [] 0 (by omega) (by omega) (by simp) (fun hI => ?_)
      · have := hlen v h0 (by omega)
        split
        · rw [List.length_append]; omega
        · omega
      · have hv := hlen v h0 (by omega)
        refine Ev_succ (by
          simp only [impl_loadings.l0]
          refine Ev.bind (impl_used_ev hb (by omega)) (Ev_pos (by omega) (Ev_succ (by
            rw [decide_eq_true (show v < most by omega)]
            simp only [impl_loadings.j1, if_true]
            refine Ev_bindc (copyList_eq (by omega)) (Ev_pos (by omega) (Ev_bindc rfl (Ev.bind (impl_mayRide_ev hx (by rw [List.length_append]; simp) (by rw [List.length_append]; simp; omega)) ?_)))
            rw [w64 (x := v + 1) (by omega) (by omega)]
            refine Ev_ite (fun hc => ?_) (fun hc => ?_)
            · rw [if_pos hc] at hr
              exact Ev.bind (ih (b ++ [v]) (hb.append (by omega)) (by rw [List.length_append]; simp; omega)) (Ev_pos (by omega) hr)
            · rw [if_neg hc] at hr
              exact hr))))
      · refine Ev_succ (by
          simp only [impl_loadings.l0]
          refine Ev.bind (impl_used_ev hb (by omega)) (Ev_ite (fun hc => Ev_succ (by
            rw [decide_eq_false (show ¬ min (usedM b + 1) most < most by omega)]
            simp only [impl_loadings.j1, Bool.false_eq_true, if_false]
            exact Ev.now _)) (fun hc => Ev_succ (by
            simp only [impl_loadings.j1, Bool.false_eq_true, if_false]
            exact Ev.now _)))))

theorem rd_L2_nat {L : List (List Int)} (j : Nat) (h : j < L.length) : rd_L2 L (j : Int) = L[j] := by
  simp [rd_L2, List.getD_eq_getElem?_getD, List.getElem?_eq_getElem h]
theorem loads_veh (xs : List S55) (lim : Int) {most : Int} (hm : 0 ≤ most ∧ most ≤ 7) : ∀ (d : Nat) (b : List Int), Veh b → ∀ l ∈ loadsM xs lim most d b, Veh l ∧ l.length = b.length + d := by
  intro d
  induction d with
  | zero => intro b hb l hl; simp [loadsM] at hl; rw [hl]; exact ⟨hb, rfl⟩
  | succ d ih =>
    intro b hb l hl
    have hub := usedM_bound hb
    unfold loadsM at hl
    have := foldU_ind (upd := fun s v => if rideB xs lim (b ++ [v]) = true then s ++ loadsM xs lim most d (b ++ [v]) else s) (n := min (usedM b + 1) most) (fun s _ => ∀ l ∈ s, Veh l ∧ l.length = b.length + (d + 1)) (fun s v h0 h1 hI l hl => by
      split at hl
      · rcases List.mem_append.1 hl with hl | hl
        · exact hI l hl
        · have := ih (b ++ [v]) (hb.append (by omega)) l hl
          rw [List.length_append] at this
          simp at this
          exact ⟨this.1, by omega⟩
      · exact hI l hl) (min (usedM b + 1) most).toNat [] 0 (by omega) (by omega) (fun l hl => by cases hl)
    exact this l hl
theorem first_ev {xs : List S55} (hx : areBoxes xs = true) (lim : Int) : Ev (fun k => impl_firstLoading.f k xs lim) ((loadsM xs lim 7 xs.length []).foldl pickU ([], false)) := by
  have hn := ((areBoxes_iff xs).1 hx).1
  have hlen := Nat.le_trans (loadsM_length xs lim (most := 7) (by omega) xs.length [] Veh.nil) (pow7 hn)
  have hveh := loads_veh xs lim (most := 7) (by omega) xs.length [] Veh.nil
  unfold impl_firstLoading.f
  refine Ev.bind (impl_loads_ev hx lim (by omega) xs.length [] Veh.nil (by simp)) ?_
  obtain ⟨L, hL⟩ : ∃ L, L = loadsM xs lim 7 xs.length [] := ⟨_, rfl⟩
  rw [← hL] at hlen hveh ⊢
  have hat : ∀ i : Int, 0 ≤ i → i < L.length → rd_L2 L i ∈ L := fun i h0 h1 => by
    have := rd_L2_nat i.toNat (show i.toNat < L.length by omega)
    rw [show ((i.toNat : Nat) : Int) = i by omega] at this
    rw [this]
    exact List.getElem_mem _
  have h := Ev_for2 (F := fun k (s : List Int × Bool) i => impl_firstLoading.l0 k s.1 s.2 L (L.length : Int) i) (step := fun s i => .inr (pickU s (rd_L2 L i))) (out := fun s => s) (n := L.length) (fun s _ => Veh s.1 ∧ s.1.length ≤ 7)
    (fun s hI => Ev_succ (by simp only [impl_firstLoading.l0]; exact Ev_neg (by omega) (Ev.now _)))
    (fun s i h0 h1 hI => .inr ⟨_, rfl, by
      have := hveh _ (hat i h0 h1)
      simp at this
      unfold pickU
      repeat' split
      · exact ⟨this.1, by simp only; omega⟩
      · exact hI
      · exact ⟨this.1, by simp only; omega⟩, fun r hr => Ev_succ (by
      have hv := hveh _ (hat i h0 h1)
      simp at hv
      simp only [impl_firstLoading.l0]
      refine Ev_pos h1 (Ev_pos h0 (Ev_pos h1 ?_))
      rw [w64 (by omega) (by omega)]
      unfold pickU at hr
      refine Ev_ite (fun hc => ?_) (fun hc => by rw [if_neg hc] at hr; exact hr)
      rw [if_pos hc] at hr
      refine Ev.bind (impl_used_ev hv.1 (by omega)) (Ev.bind (impl_used_ev hI.1 (by omega)) (Ev_ite (fun hq => by rw [if_pos hq] at hr; exact hr) (fun hq => by rw [if_neg hq] at hr; exact hr))))⟩) L.length ([], false) 0 (by omega) (by omega) ⟨Veh.nil, by simp⟩
  rw [forM_fold0 L (rd_L2 L) (fun j hj => rd_L2_nat j hj) pickU (fun s => s) ([], false)] at h
  exact h

theorem few_tells (xs : List S55) (lim : Int) : ∃ n c, Ev (fun k => impl_FewestVehicles.f k xs lim) (n, c) ∧ (areBoxes xs = true → 1 ≤ lim ∧ lim ≤ 10000000 → (loadsM xs lim 7 xs.length [] = [] ∧ c = 4) ∨ (c = 0 ∧ (∃ l ∈ loadsM xs lim 7 xs.length [], usedM l = n) ∧ ∀ l ∈ loadsM xs lim 7 xs.length [], n ≤ usedM l)) := by
  unfold impl_FewestVehicles.f
  rw [isLoadLimit_eq]
  simp only [Option.bind_some]
  by_cases hx : areBoxes xs = true
  · by_cases hl : 1 ≤ lim ∧ lim ≤ 10000000
    · have hf := first_ev hx lim
      have hlen := ((areBoxes_iff xs).1 hx).1
      rcases pick_all (loadsM xs lim 7 xs.length []) with ⟨hL, hp⟩ | ⟨m, hm, hbm⟩
      · rw [hp] at hf
        exact ⟨0, 4, Ev.bind (impl_AreBoxes_ev xs) (Ev_pos hx (Ev_pos (decide_eq_true hl) (Ev.bind hf (Ev_neg (by decide) (Ev.now _))))), fun _ _ => .inl ⟨hL, rfl⟩⟩
      · rw [hm] at hf
        obtain ⟨pre, post, he, h1, h2⟩ := hbm
        have hmem : m ∈ loadsM xs lim 7 xs.length [] := by rw [he]; simp
        have hmv := loads_veh xs lim (most := 7) (by omega) xs.length [] Veh.nil m hmem
        have hlm : m.length ≤ 7 := by have := hmv.2; simp at this; omega
        refine ⟨usedM m, 0, Ev.bind (impl_AreBoxes_ev xs) (Ev_pos hx (Ev_pos (decide_eq_true hl) (Ev.bind hf (Ev_pos rfl (Ev.bind (impl_used_ev hmv.1 (by simp only; omega)) (Ev.now _)))))), fun _ _ => .inr ⟨rfl, ⟨m, hmem, rfl⟩, fun x hx => ?_⟩⟩
        rw [he] at hx
        rcases List.mem_append.1 hx with hx | hx
        · have := h1 x hx; omega
        · rcases List.mem_cons.1 hx with hx | hx
          · rw [hx]; omega
          · exact h2 x hx
    · exact ⟨0, 2, Ev.bind (impl_AreBoxes_ev xs) (Ev_pos hx (Ev_neg (by simpa using hl) (Ev.now _))), fun _ h => absurd h hl⟩
  · exact ⟨0, 1, Ev.bind (impl_AreBoxes_ev xs) (Ev_neg hx (Ev.now _)), fun h => absurd h hx⟩

theorem impl_peak_loop {xs : List S55} (hx : areBoxes xs = true) {b : List Int} (hb : Veh b) (hl : b.length ≤ xs.length) : ∀ (d i : Nat) (s : List Int), i + d = b.length → s.length = 7 → (∀ u : Int, 0 ≤ u → u ≤ 6 → rd s u = sumTo xs b u i) → Ev (fun k => impl_peakOf.l0 k xs b s (maxS xs b i) (i : Int)) (maxS xs b b.length) := by
  have hn := ((areBoxes_iff xs).1 hx).1
  intro d
  induction d with
  | zero =>
    intro i s hi hs h
    obtain rfl : i = b.length := by omega
    exact Ev_succ (by
      simp only [impl_peakOf.l0]
      exact Ev_neg (by omega) (Ev.now _))
  | succ d ih =>
    intro i s hi hs h
    obtain ⟨h0, h6⟩ := hb.at (i := (i : Int)) (by omega) (by omega)
    have hg := box_grams hx (i := (i : Int)) (by omega) (by omega)
    have hb1 := sumTo_bound hx b (rd b (i : Int)) i (by omega)
    have e : sumTo xs b (rd b (i : Int)) (i + 1) = sumTo xs b (rd b (i : Int)) i + (rd_T55 xs (i : Int)).f0 := by simp [sumTo]
    have h2 := ih (i + 1) (s.set (rd b (i : Int)).toNat (sumTo xs b (rd b (i : Int)) (i + 1))) (by omega) (by rw [List.length_set]; exact hs) (fun u hu0 hu6 => by
      rw [rd_set h0 (by omega) hu0]
      by_cases hu : u = rd b (i : Int)
      · rw [if_pos hu, hu]
      · rw [if_neg hu, h u hu0 hu6]
        simp only [sumTo]
        rw [if_neg (fun q => hu q.symm), Int.add_zero])
    rw [maxS_succ hx hb hl (show i < b.length by omega)] at h2
    refine Ev_succ (by
      simp only [impl_peakOf.l0]
      refine Ev_pos (by omega) (Ev_pos (by omega) (Ev_pos h0 (Ev_pos (by omega) (Ev_pos (by omega) ?_))))
      rw [h _ h0 h6, ← e, w64 (x := sumTo xs b (rd b (i : Int)) (i + 1)) (by omega) (by omega), w64 (x := (i : Int) + 1) (by omega) (by omega), mx_eq]
      exact h2)
theorem impl_peakOf_ev {xs : List S55} (hx : areBoxes xs = true) {b : List Int} (hb : Veh b) (hl : b.length ≤ xs.length) : Ev (fun k => impl_peakOf.f k xs b) (maxS xs b b.length) := by
  unfold impl_peakOf.f
  have h := impl_peak_loop hx hb hl b.length 0 (List.replicate 7 0) (by omega) rfl (fun u h4 h5 => by
    have : u = 0 ∨ u = 1 ∨ u = 2 ∨ u = 3 ∨ u = 4 ∨ u = 5 ∨ u = 6 := by omega
    rcases this with rfl | rfl | rfl | rfl | rfl | rfl | rfl <;> rfl)
  rw [maxS_zero] at h
  exact h

noncomputable def peakOfM (xs : List S55) (lim : Int) (b : List Int) : Int × Int := if (isLoadingM xs lim b).2 = 0 then (if (isLoadingM xs lim b).1 = true then (maxS xs b b.length, 0) else (0, 5)) else (0, (isLoadingM xs lim b).2)
theorem isLoadingM_0 {xs : List S55} {lim : Int} {b : List Int} (h : (isLoadingM xs lim b).2 = 0) : areBoxes xs = true ∧ (1 ≤ lim ∧ lim ≤ 10000000) ∧ Veh b ∧ b.length = xs.length ∧ codeN xs lim b = 0 ∧ (isLoadingM xs lim b).1 = okB xs lim b := by
  unfold isLoadingM at h ⊢
  by_cases hc : codeN xs lim b = 0
  · obtain ⟨h1, h2, h3⟩ := codeN_0 hc
    obtain ⟨h4, h5⟩ := codeB_0 h1
    rw [if_pos hc]
    exact ⟨h4, h5, h2, h3, hc, rfl⟩
  · rw [if_neg hc] at h
    exact absurd h hc
theorem impl_PeakOf_ev (xs : List S55) (lim : Int) (b : List Int) (hb : b.length ≤ 1000000) : Ev (fun k => impl_PeakOf.f k xs lim b) (peakOfM xs lim b) := by
  unfold impl_PeakOf.f peakOfM
  refine Ev.bind (impl_IsLoading_ev xs lim b hb) (Ev_ite (fun h => ?_) (fun h => by rw [if_neg h]; exact Ev.now _))
  rw [if_pos h]
  obtain ⟨hx, _, hv, hl, _, _⟩ := isLoadingM_0 h
  exact Ev_ite (fun h2 => by rw [if_pos h2]; exact Ev.bind (impl_peakOf_ev hx hv (by omega)) (Ev.now _)) (fun h2 => by rw [if_neg h2]; exact Ev.now _)
theorem spec_PeakOf_ev (xs : List S55) (hn : xs.length ≤ 1000000) (lim : Int) (b : List Int) (hb : b.length ≤ 1000000) : Ev (fun k => spec_PeakOf.f k xs lim b) (peakOfM xs lim b) := by
  unfold spec_PeakOf.f peakOfM
  refine Ev.bind (l28Numbers_ev xs hn lim b hb) (Ev_ite (fun h => ?_) (fun h => ?_))
  · have e2 : isLoadingM xs lim b = (okB xs lim b, 0) := by unfold isLoadingM; rw [if_pos h]
    obtain ⟨h1, hv, hl⟩ := codeN_0 h
    obtain ⟨hx, _⟩ := codeB_0 h1
    rw [e2, if_pos rfl]
    refine Ev.bind (l28Is_ev hx hv (by omega)) ?_
    by_cases ho : okB xs lim b = true
    · rw [if_pos ho, ho]
      obtain ⟨s, hs, hs7, hsu⟩ := l28Sums_ev hx hv (by omega)
      refine Ev_succ (by
        simp only [spec_PeakOf.j0, Bool.not_true, Bool.false_eq_true, if_false]
        refine Ev_succ (by
          simp only [spec_PeakOf.j1]
          exact Ev_pos h (Ev.bind hs (Ev.bind (spec_peak_ev hs7 hsu) (Ev.now _)))))
    · have ho2 : okB xs lim b = false := by simpa using ho
      rw [if_neg ho, ho2]
      refine Ev_succ (by
        simp only [spec_PeakOf.j0, Bool.not_false, if_true]
        refine Ev_succ (by
          simp only [spec_PeakOf.j1]
          exact Ev_neg (by decide) (Ev.now _)))
  · have e2 : isLoadingM xs lim b = (false, codeN xs lim b) := by unfold isLoadingM; rw [if_neg h]
    rw [e2, if_neg h]
    refine Ev_succ (by
      simp only [spec_PeakOf.j0, Bool.false_eq_true, if_false]
      refine Ev_succ (by
        simp only [spec_PeakOf.j1]
        exact Ev_neg h (Ev.now _)))
theorem core_FnExactPeakOf (xs : List S55) (lim : Int) (b : List Int) (hn : xs.length ≤ 1000000) (hb : b.length ≤ 1000000) (_w1 : (Lit.int .i64 lim).wf = true) : ∃ r1 r2, Ev (fun k => spec_PeakOf.f k xs lim b) (r1, r2) ∧ Ev (fun k => impl_PeakOf.f k xs lim b) (r1, r2) :=
  ⟨_, _, spec_PeakOf_ev xs hn lim b hb, impl_PeakOf_ev xs lim b hb⟩

theorem l01Own_eq {b : List Int} (h : b.length ≤ 1000000) : spec_l01Own.f b = some b := by
  unfold spec_l01Own.f
  rw [Option.bind_some, if_pos (by simp; omega), List.nil_append]
theorem spec_all_ev {xs : List S55} (hx : areBoxes xs = true) (lim : Int) {most : Int} (hm : 0 ≤ most ∧ most ≤ 7) : ∀ (d : Nat) (b : List Int), Veh b → OkAll xs lim b → b.length + d = xs.length → Ev (fun k => spec_l28All.f k xs lim most b (usedM b)) (loadsM xs lim most d b) := by
  have hn := ((areBoxes_iff xs).1 hx).1
  intro d
  induction d with
  | zero =>
    intro b hb hok hl
    refine Ev_succ (by
      simp only [spec_l28All.f]
      exact Ev_pos (by omega) (Ev.now _))
  | succ d ih =>
    intro b hb hok hl
    have hu := usedM_bound hb
    have hlen : ∀ v : Int, 0 ≤ v → v < 7 → (loadsM xs lim most d (b ++ [v])).length ≤ 823543 := fun v h0 h1 => Nat.le_trans (loadsM_length xs lim hm d _ (hb.append (by omega))) (pow7 (by omega))
    refine Ev_succ (by
      simp only [spec_l28All.f]
      refine Ev_neg (by omega) ?_
      unfold loadsM
      refine Ev_forK (F := fun k s v => spec_l28All.l0 k xs lim most b (usedM b) s v) (upd := fun s v => if rideB xs lim (b ++ [v]) = true then s ++ loadsM xs lim most d (b ++ [v]) else s) (n := min (usedM b + 1) most) (fun s v => (s.length : Int) ≤ 1000000 * v) (fun s v h0 h1 hI => ⟨?_, fun hr => ?_⟩) (min (usedM b + 1) most).toNat [] 0 (by omega) (by omega) (by simp) (fun hI => ?_)
      · have := hlen v h0 (by omega)
        split
        · rw [List.length_append]; omega
        · omega
      · have hv := hlen v h0 (by omega)
        refine Ev_succ (by
          simp only [spec_l28All.l0]
          refine Ev_pos (by omega) (Ev_succ (by
            rw [decide_eq_true (show v < most by omega)]
            simp only [spec_l28All.j1, if_true]
            refine Ev_bindc (l01Own_eq (by omega)) (Ev_pos (by omega) (Ev_bindc rfl (Ev.bind (l28Is_ev hx (hb.append (by omega)) (by rw [List.length_append]; simp; omega)) ?_)))
            rw [okB_append hok]
            have hw : wrap64 (v + 1) = v + 1 := w64 (by omega) (by omega)
            refine Ev_ite (fun hc => ?_) (fun hc => ?_)
            · rw [if_pos hc] at hr
              have hok2 : OkAll xs lim (b ++ [v]) := okB_iff.1 ((okB_append hok).trans hc)
              have := ih (b ++ [v]) (hb.append (by omega)) hok2 (by rw [List.length_append]; simp; omega)
              rw [usedM_append] at this
              rw [hw, mx_eq]
              exact Ev.bind this (Ev_pos (by omega) hr)
            · rw [if_neg hc] at hr
              rw [hw]
              exact hr)))
      · refine Ev_succ (by
          simp only [spec_l28All.l0]
          refine Ev_ite (fun hc => Ev_succ (by
            rw [decide_eq_false (show ¬ min (usedM b + 1) most < most by omega)]
            simp only [spec_l28All.j1, Bool.false_eq_true, if_false]
            exact Ev.now _)) (fun hc => Ev_succ (by
            simp only [spec_l28All.j1, Bool.false_eq_true, if_false]
            exact Ev.now _))))

theorem spec_least_ev {xs : List S55} (hx : areBoxes xs = true) (lim : Int) {most : Int} (hm : 0 ≤ most ∧ most ≤ 7) : Ev (fun k => spec_l28Least.f k xs lim most) (leastM xs lim most) := by
  have hn := ((areBoxes_iff xs).1 hx).1
  have hlen := Nat.le_trans (loadsM_length xs lim hm xs.length [] Veh.nil) (pow7 hn)
  have hveh := loads_vehs xs lim hm xs.length [] Veh.nil
  unfold spec_l28Least.f leastM
  refine Ev.bind (spec_all_ev hx lim hm xs.length [] Veh.nil (ok_nil xs lim) (by simp)) ?_
  obtain ⟨L, hL⟩ : ∃ L, L = loadsM xs lim most xs.length [] := ⟨_, rfl⟩
  rw [← hL] at hlen hveh ⊢
  refine Ev_forK (F := fun k m i => spec_l28Least.l0 k xs L m i) (upd := leastS xs L) (n := L.length) (fun _ _ => True) (fun m i h0 h1 _ => ⟨trivial, fun hr => Ev_succ (by
    obtain ⟨hv, hl⟩ := hveh _ (rd_L_mem h0 h1)
    simp at hl
    obtain ⟨s, hs, hs7, hsu⟩ := l28Sums_ev hx hv (by omega)
    rw [hl] at hsu
    simp only [spec_l28Least.l0]
    refine Ev_pos h1 (Ev_pos h0 (Ev.bind hs (Ev.bind (spec_peak_ev hs7 hsu) ?_)))
    rw [w64 (by omega) (by omega)]
    unfold leastS at hr
    refine Ev_ite (fun hc => by rw [if_pos hc] at hr; exact hr) (fun hc => ?_)
    rw [if_neg hc] at hr
    exact Ev_ite (fun hq => by rw [if_pos hq] at hr; exact hr) (fun hq => by rw [if_neg hq] at hr; exact hr))⟩) L.length (-1) 0 (by omega) (by omega) trivial (fun _ => Ev_succ (by
    simp only [spec_l28Least.l0]
    exact Ev_neg (by omega) (Ev.now _)))
theorem impl_least_ev {xs : List S55} (hx : areBoxes xs = true) (lim : Int) {most : Int} (hm : 0 ≤ most ∧ most ≤ 7) : Ev (fun k => impl_leastPeak.f k xs lim most) (leastM xs lim most) := by
  have hn := ((areBoxes_iff xs).1 hx).1
  have hlen := Nat.le_trans (loadsM_length xs lim hm xs.length [] Veh.nil) (pow7 hn)
  have hveh := loads_vehs xs lim hm xs.length [] Veh.nil
  unfold impl_leastPeak.f leastM
  refine Ev.bind (impl_loads_ev hx lim hm xs.length [] Veh.nil (by simp)) ?_
  obtain ⟨L, hL⟩ : ∃ L, L = loadsM xs lim most xs.length [] := ⟨_, rfl⟩
  rw [← hL] at hlen hveh ⊢
  refine Ev_forK (F := fun k m i => impl_leastPeak.l0 k xs m L (L.length : Int) i) (upd := leastS xs L) (n := L.length) (fun _ _ => True) (fun m i h0 h1 _ => ⟨trivial, fun hr => Ev_succ (by
    obtain ⟨hv, hl⟩ := hveh _ (rd_L_mem h0 h1)
    simp at hl
    have hp := impl_peakOf_ev hx hv (by omega)
    rw [hl] at hp
    simp only [impl_leastPeak.l0]
    refine Ev_pos h1 (Ev_pos h0 (Ev_pos h1 (Ev.bind hp ?_)))
    rw [w64 (by omega) (by omega)]
    unfold leastS at hr
    refine Ev_ite (fun hc => by rw [if_pos hc] at hr; exact hr) (fun hc => ?_)
    rw [if_neg hc] at hr
    exact Ev_ite (fun hq => by rw [if_pos hq] at hr; exact hr) (fun hq => by rw [if_neg hq] at hr; exact hr))⟩) L.length (-1) 0 (by omega) (by omega) trivial (fun _ => Ev_succ (by
    simp only [impl_leastPeak.l0]
    exact Ev_neg (by omega) (Ev.now _)))

theorem isMost_eq (a : Int) : impl_isMost.f a = some (decide (1 ≤ a ∧ a ≤ 7)) := by unfold impl_isMost.f; rw [within_eq]; rfl

noncomputable def leastPeakM (xs : List S55) (lim most : Int) : Int × Int := if codeB xs lim = 0 then (if 1 ≤ most ∧ most ≤ 7 then (if leastM xs lim most < 0 then (0, 4) else (leastM xs lim most, 0)) else (0, 2)) else (0, codeB xs lim)
theorem spec_LeastPeak_ev (xs : List S55) (hn : xs.length ≤ 1000000) (lim most : Int) : Ev (fun k => spec_LeastPeak.f k xs lim most) (leastPeakM xs lim most) := by
  unfold spec_LeastPeak.f leastPeakM
  refine Ev.bind (l28Code_ev xs hn lim) ?_
  rw [l01In_eq]
  simp only [Option.bind_some]
  refine Ev_ite (fun h => ?_) (fun h => ?_)
  · obtain ⟨hx, hlim⟩ := codeB_0 h
    rw [if_pos h]
    by_cases hm : 1 ≤ most ∧ most ≤ 7
    · rw [if_pos hm, decide_eq_true hm]
      refine Ev_succ (by
        simp only [spec_LeastPeak.j0, Bool.not_true, Bool.false_eq_true, if_false]
        refine Ev_succ (by
          simp only [spec_LeastPeak.j1]
          exact Ev_pos h (Ev.bind (spec_least_ev hx lim (by omega)) (Ev_ite (fun q => by rw [if_pos q]; exact Ev.now _) (fun q => by rw [if_neg q]; exact Ev.now _)))))
    · rw [if_neg hm, decide_eq_false hm]
      refine Ev_succ (by
        simp only [spec_LeastPeak.j0, Bool.not_false, if_true]
        refine Ev_succ (by
          simp only [spec_LeastPeak.j1]
          exact Ev_neg (by decide) (Ev.now _)))
  · rw [if_neg h]
    refine Ev_succ (by
      simp only [spec_LeastPeak.j0, Bool.false_eq_true, if_false]
      refine Ev_succ (by
        simp only [spec_LeastPeak.j1]
        exact Ev_neg h (Ev.now _)))
theorem impl_LeastPeak_ev (xs : List S55) (lim most : Int) : Ev (fun k => impl_LeastPeak.f k xs lim most) (leastPeakM xs lim most) := by
  unfold impl_LeastPeak.f leastPeakM
  refine Ev.bind (impl_AreBoxes_ev xs) (Ev_ite (fun hx => ?_) (fun hx => ?_))
  · rw [isLoadLimit_eq, isMost_eq]
    simp only [Option.bind_some, decide_eq_true_eq]
    refine Ev_ite (fun hl => ?_) (fun hl => ?_)
    · have e : codeB xs lim = 0 := by unfold codeB; rw [if_pos hx, if_pos hl]
      rw [if_pos e]
      by_cases hm : 1 ≤ most ∧ most ≤ 7
      · rw [if_pos hm, decide_eq_true hm]
        refine Ev_succ (by
          simp only [impl_LeastPeak.j0, Bool.not_true, Bool.false_eq_true, if_false]
          exact Ev.bind (impl_least_ev hx lim (by omega)) (Ev_ite (fun q => by rw [if_pos q]; exact Ev.now _) (fun q => by rw [if_neg q]; exact Ev.now _)))
      · rw [if_neg hm, decide_eq_false hm]
        refine Ev_succ (by
          simp only [impl_LeastPeak.j0, Bool.not_false, if_true]
          exact Ev.now _)
    · have e : codeB xs lim = 2 := by unfold codeB; rw [if_pos hx, if_neg hl]
      rw [e, if_neg (by decide)]
      refine Ev_succ (by
        simp only [impl_LeastPeak.j0, if_true]
        exact Ev.now _)
  · have e : codeB xs lim = 1 := by unfold codeB; rw [if_neg hx]
    rw [e, if_neg (by decide)]
    exact Ev.now _
theorem core_FnExactLeastPeak (xs : List S55) (lim most : Int) (hn : xs.length ≤ 1000000) (_w1 : (Lit.int .i64 lim).wf = true) (_w2 : (Lit.int .i64 most).wf = true) : ∃ r1 r2, Ev (fun k => spec_LeastPeak.f k xs lim most) (r1, r2) ∧ Ev (fun k => impl_LeastPeak.f k xs lim most) (r1, r2) :=
  ⟨_, _, spec_LeastPeak_ev xs hn lim most, impl_LeastPeak_ev xs lim most⟩

noncomputable def leastLimitM (xs : List S55) (most : Int) : Int × Int := if areBoxes xs = true then (if 1 ≤ most ∧ most ≤ 7 then (if leastM xs 10000000 most < 0 then (0, 4) else (max 1 (leastM xs 10000000 most), 0)) else (0, 2)) else (0, 1)
theorem codeB_one (xs : List S55) : codeB xs 1 = if areBoxes xs = true then 0 else 1 := by
  unfold codeB
  by_cases h : areBoxes xs = true
  · rw [if_pos h, if_pos h, if_pos (by decide)]
  · rw [if_neg h, if_neg h]
theorem spec_LeastLimit_ev (xs : List S55) (hn : xs.length ≤ 1000000) (most : Int) : Ev (fun k => spec_LeastLimit.f k xs most) (leastLimitM xs most) := by
  unfold spec_LeastLimit.f leastLimitM
  have hc := l28Code_ev xs hn 1
  rw [codeB_one] at hc
  rw [l01In_eq]
  simp only [Option.bind_some]
  by_cases hx : areBoxes xs = true
  · rw [if_pos hx] at hc ⊢
    refine Ev.bind hc (Ev_pos rfl ?_)
    by_cases hm : 1 ≤ most ∧ most ≤ 7
    · rw [if_pos hm, decide_eq_true hm]
      refine Ev_succ (by
        simp only [spec_LeastLimit.j0, Bool.not_true, Bool.false_eq_true, if_false]
        refine Ev_succ (by
          simp only [spec_LeastLimit.j1]
          refine Ev_pos (by simp) (Ev.bind (spec_least_ev hx 10000000 (by omega)) ?_)
          rw [mx_eq]
          exact Ev_ite (fun q => by rw [if_pos q]; exact Ev.now _) (fun q => by rw [if_neg q]; exact Ev.now _)))
    · rw [if_neg hm, decide_eq_false hm]
      refine Ev_succ (by
        simp only [spec_LeastLimit.j0, Bool.not_false, if_true]
        refine Ev_succ (by
          simp only [spec_LeastLimit.j1]
          exact Ev_neg (by decide) (Ev.now _)))
  · rw [if_neg hx] at hc ⊢
    refine Ev.bind hc (Ev_neg (by decide) (Ev_succ (by
      simp only [spec_LeastLimit.j0, Bool.false_eq_true, if_false]
      refine Ev_succ (by
        simp only [spec_LeastLimit.j1]
        exact Ev_neg (by decide) (Ev.now _)))))
theorem impl_LeastLimit_ev (xs : List S55) (most : Int) : Ev (fun k => impl_LeastLimit.f k xs most) (leastLimitM xs most) := by
  unfold impl_LeastLimit.f leastLimitM
  refine Ev.bind (impl_AreBoxes_ev xs) (Ev_ite (fun hx => ?_) (fun hx => by rw [if_neg hx]; exact Ev.now _))
  rw [isMost_eq, if_pos hx]
  simp only [Option.bind_some, decide_eq_true_eq]
  refine Ev_ite (fun hm => ?_) (fun hm => by rw [if_neg hm]; exact Ev.now _)
  rw [if_pos hm]
  refine Ev.bind (impl_least_ev hx 10000000 (by omega)) ?_
  rw [mx_eq]
  exact Ev_ite (fun q => by rw [if_pos q]; exact Ev.now _) (fun q => by rw [if_neg q]; exact Ev.now _)
theorem core_FnExactLeastLimit (xs : List S55) (most : Int) (hn : xs.length ≤ 1000000) (_w2 : (Lit.int .i64 most).wf = true) : ∃ r1 r2, Ev (fun k => spec_LeastLimit.f k xs most) (r1, r2) ∧ Ev (fun k => impl_LeastLimit.f k xs most) (r1, r2) :=
  ⟨_, _, spec_LeastLimit_ev xs hn most, impl_LeastLimit_ev xs most⟩

noncomputable def countM (xs : List S55) (lim most : Int) : Int × Int := if codeB xs lim = 0 then (if 1 ≤ most ∧ most ≤ 7 then (((loadsM xs lim most xs.length []).length : Int), 0) else (0, 2)) else (0, codeB xs lim)
theorem impl_CountLoadings_ev (xs : List S55) (lim most : Int) : Ev (fun k => impl_CountLoadings.f k xs lim most) (countM xs lim most) := by
  unfold impl_CountLoadings.f countM
  refine Ev.bind (impl_AreBoxes_ev xs) (Ev_ite (fun hx => ?_) (fun hx => ?_))
  · rw [isLoadLimit_eq, isMost_eq]
    simp only [Option.bind_some, decide_eq_true_eq]
    refine Ev_ite (fun hl => ?_) (fun hl => ?_)
    · have e : codeB xs lim = 0 := by unfold codeB; rw [if_pos hx, if_pos hl]
      rw [if_pos e]
      refine Ev_ite (fun hm => ?_) (fun hm => by rw [if_neg hm]; exact Ev.now _)
      rw [if_pos hm]
      exact Ev.bind (impl_loads_ev hx lim (by omega) xs.length [] Veh.nil (by simp)) (Ev.now _)
    · have e : codeB xs lim = 2 := by unfold codeB; rw [if_pos hx, if_neg hl]
      rw [e, if_neg (by decide)]
      exact Ev.now _
  · have e : codeB xs lim = 1 := by unfold codeB; rw [if_neg hx]
    rw [e, if_neg (by decide)]
    exact Ev.now _

theorem spec_CountLoadings_ev (xs : List S55) (hn : xs.length ≤ 1000000) (lim most : Int) : Ev (fun k => spec_CountLoadings.f k xs lim most) (countM xs lim most) := by
  unfold spec_CountLoadings.f countM
  refine Ev.bind (l28Code_ev xs hn lim) ?_
  rw [l01In_eq]
  simp only [Option.bind_some]
  refine Ev_ite (fun h => ?_) (fun h => ?_)
  · obtain ⟨hx, hlim⟩ := codeB_0 h
    rw [if_pos h]
    by_cases hm : 1 ≤ most ∧ most ≤ 7
    · rw [if_pos hm, decide_eq_true hm]
      refine Ev_succ (by
        simp only [spec_CountLoadings.j0, Bool.not_true, Bool.false_eq_true, if_false]
        exact Ev_pos h (Ev.bind (spec_all_ev hx lim (by omega) xs.length [] Veh.nil (ok_nil xs lim) (by simp)) (Ev.now _)))
    · rw [if_neg hm, decide_eq_false hm]
      refine Ev_succ (by
        simp only [spec_CountLoadings.j0, Bool.not_false, if_true]
        exact Ev_neg (by decide) (Ev.now _))
  · rw [if_neg h]
    refine Ev_succ (by
      simp only [spec_CountLoadings.j0, Bool.false_eq_true, if_false]
      exact Ev_neg h (Ev.now _))
theorem core_FnExactCountLoadings (xs : List S55) (lim most : Int) (hn : xs.length ≤ 1000000) (_w1 : (Lit.int .i64 lim).wf = true) (_w2 : (Lit.int .i64 most).wf = true) : ∃ r1 r2, Ev (fun k => spec_CountLoadings.f k xs lim most) (r1, r2) ∧ Ev (fun k => impl_CountLoadings.f k xs lim most) (r1, r2) :=
  ⟨_, _, spec_CountLoadings_ev xs hn lim most, impl_CountLoadings_ev xs lim most⟩

/-- The source of the draws: the code's bytes, the place in it, the seed. -/
def Rd (c : List Int) (i seed : Int) : Prop := (∀ b ∈ c, 0 ≤ b ∧ b ≤ 255) ∧ c.length ≤ 4096 ∧ 0 ≤ i ∧ i ≤ c.length ∧ 0 ≤ seed ∧ seed < 2147483647
theorem rd_byte {c : List Int} (hc : ∀ b ∈ c, 0 ≤ b ∧ b ≤ 255) (i : Int) : 0 ≤ rd c i ∧ rd c i ≤ 255 := by
  unfold rd
  by_cases h : i.toNat < c.length
  · rw [List.getD_eq_getElem?_getD, List.getElem?_eq_getElem h]
    exact hc _ (List.getElem_mem h)
  · rw [List.getD_eq_getElem?_getD, List.getElem?_eq_none (by omega)]
    simp
theorem next_tells {c : List Int} {i seed : Int} (hr : Rd c i seed) (n : Int) (hn : n ≤ 4000000000000000000) : ∃ x i' s', spec_l01Next.f c i seed n = some (x, i', s') ∧ Rd c i' s' ∧ 0 ≤ x ∧ (1 ≤ n → x < n) := by
  obtain ⟨hc, hl, h0, h1, h2, h3⟩ := hr
  have e1 : wrap64 (wrap64 (seed * 48271) + 29) = seed * 48271 + 29 := by rw [w64 (x := seed * 48271) (by omega) (by omega), w64 (by omega) (by omega)]
  have e2 : Int.tmod (seed * 48271 + 29) 2147483647 = (seed * 48271 + 29) % 2147483647 := Int.tmod_eq_emod_of_nonneg (by omega)
  obtain ⟨s1, hs1⟩ : ∃ s1, s1 = (seed * 48271 + 29) % 2147483647 := ⟨_, rfl⟩
  have b0 : 0 ≤ s1 ∧ s1 < 2147483647 := by omega
  have e3 : wrap64 (Int.tdiv s1 31) = s1 / 31 := by
    rw [Int.tdiv_eq_ediv_of_nonneg b0.1]; exact w64 (by omega) (by omega)
  unfold spec_l01Next.f
  rw [e1, e2, ← hs1, e3]
  by_cases hn1 : n ≤ 1
  · rw [if_pos hn1]
    exact ⟨0, i, seed, rfl, ⟨hc, hl, h0, h1, h2, h3⟩, by omega, by omega⟩
  · rw [if_neg hn1]
    have hm : ∀ x : Int, 0 ≤ x → 0 ≤ Int.tmod x n ∧ Int.tmod x n < n := fun x hx => by
      rw [Int.tmod_eq_emod_of_nonneg hx]
      exact ⟨Int.emod_nonneg x (by omega), Int.emod_lt_of_pos x (by omega)⟩
    by_cases hi : i < (c.length : Int)
    · have hb := rd_byte hc i
      have w1 : wrap64 (i + 1) = i + 1 := w64 (by omega) (by omega)
      have w2 : wrap64 (i + 1 - 1) = i := by rw [w64 (by omega) (by omega)]; omega
      have w3 : wrap64 (rd c i) = rd c i := w64 (by omega) (by omega)
      have w4 : wrap64 (s1 / 31 + rd c i) = s1 / 31 + rd c i := w64 (by omega) (by omega)
      rw [if_pos hi, if_pos h0, w1, w2, w3, w4]
      have r1 := hm (rd c i) hb.1
      have r2 := hm (s1 / 31 + rd c i) (by omega)
      have hR : Rd c (i + 1) s1 := ⟨hc, hl, by omega, by omega, b0.1, b0.2⟩
      by_cases h256 : n ≤ 256
      · rw [if_pos h256]
        by_cases ht : Int.tmod (i + 1) 2 = 0
        · rw [if_pos ht, if_pos h0, if_pos hi, if_neg (by omega)]
          exact ⟨_, _, _, rfl, hR, r1.1, fun _ => r1.2⟩
        · rw [if_neg ht, if_neg (by omega)]
          exact ⟨_, _, _, rfl, hR, r2.1, fun _ => r2.2⟩
      · rw [if_neg h256, if_neg (by omega)]
        exact ⟨_, _, _, rfl, hR, r2.1, fun _ => r2.2⟩
    · have r3 := hm (s1 / 31) (by omega)
      rw [if_neg hi, if_neg (by omega)]
      exact ⟨_, _, _, rfl, ⟨hc, hl, h0, h1, b0.1, b0.2⟩, r3.1, fun _ => r3.2⟩
theorem from_tells (c : List Int) (hc : ∀ b ∈ c, 0 ≤ b ∧ b ≤ 255) (hl : c.length ≤ 4096) : ∃ seed, Ev (fun k => spec_l01From.f k c) (c, 0, seed) ∧ Rd c 0 seed := by
  have h := Ev_for (F := fun k s i => spec_l01From.l0 k c i c 0 s) (step := fun s i => if i < 64 then .inr ((s * 83 + rd c i) % 2147483647) else .inl (c, 0, s)) (out := fun s => (c, 0, s)) (n := c.length) (fun s i => 0 ≤ s ∧ s < 2147483647)
    (fun s hI => ⟨1, fun k hk => by
      obtain ⟨k, rfl⟩ : ∃ m, k = m + 1 := ⟨k - 1, by omega⟩
      simp only [spec_l01From.l0]
      rw [if_neg (by omega)]⟩)
    (fun s i h0 h1 hI => by
      have hb := rd_byte hc i
      by_cases h64 : i < 64
      · refine .inr ⟨_, if_pos h64, by omega, 0, fun k _ => ?_⟩
        simp only [spec_l01From.l0]
        rw [if_pos h1, if_pos h64, if_pos h0, w64 (x := i + 1) (by omega) (by omega), w64 (x := s * 83) (by omega) (by omega), w64 (x := rd c i) (by omega) (by omega), w64 (by omega) (by omega), Int.tmod_eq_emod_of_nonneg (by omega)]
      · refine .inl ⟨_, if_neg h64, 1, fun k hk => ?_⟩
        obtain ⟨k, rfl⟩ : ∃ m, k = m + 1 := ⟨k - 1, by omega⟩
        simp only [spec_l01From.l0]
        rw [if_pos h1, if_neg h64]) c.length 61043 0 (by omega) (by omega) (by omega)
  have h2 := forM_ind (step := fun s i => if i < 64 then .inr ((s * 83 + rd c i) % 2147483647) else .inl (c, 0, s)) (out := fun s => (c, (0 : Int), s)) (n := c.length) (fun s _ => 0 ≤ s ∧ s < 2147483647) (fun r => ∃ s, r = (c, (0 : Int), s) ∧ 0 ≤ s ∧ s < 2147483647) (fun s hI => ⟨s, rfl, hI⟩)
    (fun s i h0 h1 hI => ⟨fun r hr => by
        split at hr
        · cases hr
        · injection hr with hr
          exact ⟨s, hr.symm, hI⟩, fun s' hr => by
        split at hr
        · injection hr with hr
          omega
        · cases hr⟩) c.length 61043 0 (by omega) (by omega) (by omega)
  obtain ⟨s, hs, hb⟩ := h2
  refine ⟨s, ?_, hc, hl, by omega, by omega, hb.1, hb.2⟩
  rw [hs] at h
  exact h
/-- What a statement over a code knows of its bytes. -/
theorem bytes_of {c : List Int} (h : ∀ x ∈ c, (Lit.int .u8 x).wf = true) : ∀ b ∈ c, 0 ≤ b ∧ b ≤ 255 := fun b hb => by
  have h := h b hb
  simp [Lit.wf, IntKind.min, IntKind.max, IntKind.bits, IntKind.signed] at h
  omega
theorem big_eq (c : List Int) : laws_big.f c = some (decide (c.length > 4096)) := by
  unfold laws_big.f
  congr 1
  rw [decide_eq_decide]
  omega

theorem pick_tells {c : List Int} {i seed : Int} (hr : Rd c i seed) (l : List Int) (h0 : 0 < l.length) (hl : l.length ≤ 1000) : ∃ x i' s', spec_l01Pick.f c i seed l = some (x, i', s') ∧ Rd c i' s' ∧ x ∈ l := by
  obtain ⟨x, i', s', h1, h2, h3, h4⟩ := next_tells hr (l.length : Int) (by omega)
  have h4 := h4 (by omega)
  unfold spec_l01Pick.f
  rw [h1]
  simp only [Option.bind_some]
  rw [if_pos h3, if_pos h4]
  refine ⟨_, _, _, rfl, h2, ?_⟩
  unfold rd
  rw [List.getD_eq_getElem?_getD, List.getElem?_eq_getElem (show x.toNat < l.length by omega)]
  exact List.getElem_mem _

theorem good28_l0 (c : List Int) (d : Nat) : ∀ (xs : List S55) (n i seed : Int), Rd c i seed → n ≤ d → d ≤ 10 → xs.length + d ≤ 20 → ∃ ys i' s', Ev (fun k => spec_l28Good.l0 k xs n c i seed) (ys, i', s') ∧ Rd c i' s' ∧ ys.length ≤ 20 := by
  induction d with
  | zero =>
    intro xs n i seed hr hn hd hx
    refine ⟨xs, i, seed, Ev_succ (by simp only [spec_l28Good.l0]; exact Ev_neg (by omega) (Ev.now _)), hr, by omega⟩
  | succ d ih =>
    intro xs n i seed hr hn hd hx
    by_cases hp : n > 0
    · obtain ⟨x, i1, s1, e1, r1, _⟩ := next_tells hr 40 (by omega)
      obtain ⟨y, i2, s2, e2, r2, _⟩ := pick_tells r1 [0, 1, 2, 3, 0] (by simp) (by simp)
      obtain ⟨ys, i3, s3, h3, r3, hl⟩ := ih (xs ++ [⟨wrap64 (100 * (wrap64 (1 + x))), y⟩]) (n - 1) i2 s2 r2 (by omega) (by omega) (by simp; omega)
      refine ⟨ys, i3, s3, Ev_succ (by
        simp only [spec_l28Good.l0]
        refine Ev_pos hp (Ev_bindc e1 (Ev_bindc e2 (Ev_pos (by omega) ?_)))
        rw [w64 (x := n - 1) (by omega) (by omega)]
        exact h3), r3, hl⟩
    · exact ih xs n i seed hr (by omega) (by omega) (by omega)
theorem good28_tells {c : List Int} {i seed : Int} (hr : Rd c i seed) : ∃ ys i' s', Ev (fun k => spec_l28Good.f k c i seed) (ys, i', s') ∧ Rd c i' s' ∧ ys.length ≤ 20 := by
  obtain ⟨x1, i1, s1, e1, r1, h1, h2⟩ := next_tells hr 7 (by omega)
  obtain ⟨ys, i3, s3, h3, r3, hl⟩ := good28_l0 c 7 [] x1 i1 s1 r1 (by omega) (by omega) (by simp)
  refine ⟨ys, i3, s3, ?_, r3, hl⟩
  unfold spec_l28Good.f
  exact Ev_bindc e1 h3
theorem draw28_l0 (c : List Int) (d : Nat) : ∀ (xs : List S55) (i seed : Int), Rd c i seed → 21 - xs.length ≤ d → xs.length ≤ 21 → ∃ ys i' s', Ev (fun k => spec_l28Draw.l0 k xs c i seed) (ys, i', s') ∧ Rd c i' s' ∧ ys.length ≤ 21 := by
  induction d with
  | zero =>
    intro xs i seed hr hd hn
    obtain ⟨x1, i1, s1, e1, r1, h1, h2⟩ := next_tells hr 2 (by omega)
    refine ⟨xs, i1, s1, Ev_succ (by
      simp only [spec_l28Draw.l0]
      refine Ev_bindc e1 ?_
      rw [w64 (by omega) (by omega)]
      exact Ev_neg (by omega) (Ev.now _)), r1, hn⟩
  | succ d ih =>
    intro xs i seed hr hd hn
    obtain ⟨x1, i1, s1, e1, r1, h1, h2⟩ := next_tells hr 2 (by omega)
    by_cases hlt : (xs.length : Int) < 7 + x1
    · obtain ⟨ys, i3, s3, h3, r3, hl⟩ := ih (xs ++ [⟨900, 0⟩]) i1 s1 r1 (by simp; omega) (by simp; omega)
      refine ⟨ys, i3, s3, Ev_succ (by
        simp only [spec_l28Draw.l0]
        refine Ev_bindc e1 ?_
        rw [w64 (by omega) (by omega)]
        exact Ev_pos hlt (Ev_pos (by omega) h3)), r3, hl⟩
    · refine ⟨xs, i1, s1, Ev_succ (by
        simp only [spec_l28Draw.l0]
        refine Ev_bindc e1 ?_
        rw [w64 (by omega) (by omega)]
        exact Ev_neg hlt (Ev.now _)), r1, hn⟩
theorem draw28_tells {c : List Int} {i seed : Int} (hr : Rd c i seed) : ∃ ys i' s', Ev (fun k => spec_l28Draw.f k c i seed) (ys, i', s') ∧ Rd c i' s' ∧ ys.length ≤ 21 := by
  obtain ⟨xs, i1, s1, h1, r1, hl1⟩ := good28_tells hr
  obtain ⟨x2, i2, s2, e2, r2, _⟩ := next_tells r1 30 (by omega)
  unfold spec_l28Draw.f
  by_cases c0 : x2 = 0
  · obtain ⟨x3, i3, s3, e3, r3, _⟩ := pick_tells r2 [0, 1, 1000000, 1000001] (by simp) (by simp)
    obtain ⟨x4, i4, s4, e4, r4, _⟩ := next_tells r3 5 (by omega)
    exact ⟨_, i4, s4, Ev.bind h1 (Ev_bindc e2 (Ev_pos c0 (Ev_bindc e3 (Ev_bindc e4 (Ev_pos (by simp only; omega) (Ev.now _)))))), r4, by simp; omega⟩
  · by_cases c1 : x2 = 1
    · obtain ⟨ys, i4, s4, h4, r4, hl⟩ := draw28_l0 c 21 xs i2 s2 r2 (by omega) (by omega)
      exact ⟨ys, i4, s4, Ev.bind h1 (Ev_bindc e2 (Ev_neg c0 (Ev_pos c1 h4))), r4, hl⟩
    · exact ⟨xs, i2, s2, Ev.bind h1 (Ev_bindc e2 (Ev_neg c0 (Ev_neg c1 (Ev.now _)))), r2, by omega⟩
theorem limit28_tells {c : List Int} {i seed : Int} (hr : Rd c i seed) : ∃ x i' s', spec_l28Limit.f c i seed = some (x, i', s') ∧ Rd c i' s' := by
  obtain ⟨x1, i1, s1, e1, r1, _⟩ := next_tells hr 4000 (by omega)
  obtain ⟨x2, i2, s2, e2, r2, _⟩ := next_tells r1 3000 (by omega)
  obtain ⟨x3, i3, s3, e3, r3, _⟩ := pick_tells r2 [0, 1, 10000001] (by simp) (by simp)
  obtain ⟨x4, i4, s4, e4, r4, _⟩ := pick_tells r3 [wrap64 (3000 + x1), 4000, wrap64 (1000 + x2), 10000000, x3] (by simp) (by simp)
  refine ⟨x4, i4, s4, ?_, r4⟩
  unfold spec_l28Limit.f
  simp only [e1, e2, e3, e4, Option.bind_some]

/-- What is found: the fewest, and the first with it. -/
theorem fewest_ev {xs : List S55} (hx : areBoxes xs = true) (lim : Int) : ∃ r, Ev (fun k => spec_l28Fewest.f k xs lim) r ∧ ((loadsM xs lim 7 xs.length [] = [] ∧ r = (-1, [])) ∨ ∃ l, Best (loadsM xs lim 7 xs.length []) l ∧ r = (usedM l, l)) := by
  have hn := ((areBoxes_iff xs).1 hx).1
  have hall : ∀ m : Int, 0 ≤ m → m ≤ 7 → Ev (fun k => spec_l28All.f k xs lim m [] 0) ((loadsM xs lim 7 xs.length []).filter fun l => decide (usedM l ≤ m)) := fun m h0 h1 => by
    have := spec_all_ev hx lim (most := m) ⟨h0, h1⟩ xs.length [] Veh.nil (ok_nil xs lim) (by simp)
    rw [loads_filter xs lim ⟨h0, h1⟩ xs.length [] Veh.nil (by simp [usedM]; omega)] at this
    exact this
  have hskip : ∀ m : Int, 0 ≤ m → m ≤ 7 → (loadsM xs lim 7 xs.length []).filter (fun l => decide (usedM l ≤ m)) = [] → ∀ r, Ev (fun k => spec_l28Fewest.l0 k xs lim (m + 1)) r → Ev (fun k => spec_l28Fewest.l0 k xs lim m) r := fun m h0 h1 he r hr => Ev_succ (by
    simp only [spec_l28Fewest.l0]
    refine Ev_pos (by omega) (Ev.bind (hall m h0 h1) ?_)
    rw [he, w64 (by omega) (by omega)]
    exact Ev_neg (by simp) hr)
  have hruns : ∀ (c : Nat) (m : Int), 0 ≤ m → m + c ≤ 8 → (∀ j : Int, m ≤ j → j < m + c → (loadsM xs lim 7 xs.length []).filter (fun l => decide (usedM l ≤ j)) = []) → ∀ r, Ev (fun k => spec_l28Fewest.l0 k xs lim (m + c)) r → Ev (fun k => spec_l28Fewest.l0 k xs lim m) r := by
    intro c
    induction c with
    | zero => intro m _ _ _ r hr; simpa using hr
    | succ c ih =>
      intro m h0 h1 he r hr
      refine hskip m h0 (by omega) (he m (Int.le_refl _) (by omega)) r (ih (m + 1) (by omega) (by omega) (fun j h2 h3 => he j (by omega) (by omega)) r ?_)
      rw [show m + 1 + (c : Int) = m + ((c + 1 : Nat) : Int) by omega]
      exact hr
  unfold spec_l28Fewest.f
  rcases pick_all (loadsM xs lim 7 xs.length []) with ⟨hL, _⟩ | ⟨l, _, hb⟩
  · refine ⟨(-1, []), ?_, .inl ⟨hL, rfl⟩⟩
    refine hruns 8 0 (by omega) (by omega) (fun j _ _ => by rw [hL]; rfl) _ (Ev_succ (by
      simp only [spec_l28Fewest.l0]
      exact Ev_neg (by omega) (Ev.now _)))
  · refine ⟨(usedM l, l), ?_, .inr ⟨l, hb, rfl⟩⟩
    obtain ⟨pre, post, he, h1, h2⟩ := hb
    have hl0 : 0 ≤ usedM l := by
      have := loads_used (xs := xs) (lim := lim) (most := 7) xs.length [] l (by rw [he]; simp)
      simpa [usedM] using this
    have hl7 : usedM l ≤ 7 := by
      have hm : l ∈ (loadsM xs lim 7 xs.length []).filter fun l => decide (usedM l ≤ 7) := by
        rw [← loads_filter xs lim ⟨by omega, by omega⟩ xs.length [] Veh.nil (by simp [usedM]), he]
        simp
      exact of_decide_eq_true (List.mem_filter.1 hm).2
    have hge : ∀ x ∈ loadsM xs lim 7 xs.length [], usedM l ≤ usedM x := fun x hx => by
      rw [he] at hx
      rcases List.mem_append.1 hx with hx | hx
      · have := h1 x hx; omega
      · rcases List.mem_cons.1 hx with hx | hx
        · rw [hx]; omega
        · exact h2 x hx
    refine hruns (usedM l).toNat 0 (by omega) (by omega) (fun j h3 h4 => filter_none (fun x hx => by
      have := hge x hx
      simp only [decide_eq_false_iff_not]
      omega)) _ ?_
    rw [show (0 : Int) + ((usedM l).toNat : Int) = usedM l by omega]
    refine Ev_succ (by
      simp only [spec_l28Fewest.l0]
      refine Ev_pos hl7 (Ev.bind (hall (usedM l) hl0 hl7) ?_)
      have hf : (loadsM xs lim 7 xs.length []).filter (fun x => decide (usedM x ≤ usedM l)) = l :: post.filter (fun x => decide (usedM x ≤ usedM l)) := by
        rw [he, List.filter_append, filter_none (L := pre) (fun x hx => by
          have := h1 x hx
          simp only [decide_eq_false_iff_not]
          omega), List.nil_append, List.filter_cons_of_pos (by simp)]
      rw [hf]
      exact Ev_pos (by simp) (Ev_pos (by simp) (Ev.now _)))

theorem loads_vehF (xs : List S55) (lim : Int) {most : Int} (hm : 0 ≤ most ∧ most ≤ 7) : ∀ (d : Nat) (b : List Int), Veh b → ∀ l ∈ loadsM xs lim most d b, Veh l ∧ l.length = b.length + d := by
  intro d
  induction d with
  | zero => intro b hb l hl; simp [loadsM] at hl; rw [hl]; exact ⟨hb, rfl⟩
  | succ d ih =>
    intro b hb l hl
    have hub := usedM_bound hb
    unfold loadsM at hl
    have := foldU_ind (upd := fun s v => if rideB xs lim (b ++ [v]) = true then s ++ loadsM xs lim most d (b ++ [v]) else s) (n := min (usedM b + 1) most) (fun s _ => ∀ l ∈ s, Veh l ∧ l.length = b.length + (d + 1)) (fun s v h0 h1 hI l hl => by
      split at hl
      · rcases List.mem_append.1 hl with hl | hl
        · exact hI l hl
        · have := ih (b ++ [v]) (hb.append (by omega)) l hl
          rw [List.length_append] at this
          simp at this
          exact ⟨this.1, by omega⟩
      · exact hI l hl) (min (usedM b + 1) most).toNat [] 0 (by omega) (by omega) (fun l hl => by cases hl)
    exact this l hl

theorem firstSpec_tells (xs : List S55) (hn : xs.length ≤ 1000000) (lim : Int) : ∃ v c, Ev (fun k => spec_FirstLoading.f k xs lim) (v, c) ∧ v.length ≤ 7 := by
  unfold spec_FirstLoading.f
  by_cases hz : codeB xs lim = 0
  · obtain ⟨hx, hl⟩ := codeB_0 hz
    have hc := l28Code_ev xs hn lim
    rw [hz] at hc
    have hlen := ((areBoxes_iff xs).1 hx).1
    obtain ⟨r, hr, hcase⟩ := fewest_ev hx lim
    rcases hcase with ⟨hL, rfl⟩ | ⟨l, hb, rfl⟩
    · exact ⟨[], 4, Ev.bind hc (Ev_pos rfl (Ev.bind hr (Ev_pos (by decide) (Ev.now _)))), by simp⟩
    · have hmem : l ∈ loadsM xs lim 7 xs.length [] := by obtain ⟨pre, post, he, _⟩ := hb; rw [he]; simp
      have hlv := loads_vehF xs lim (most := 7) (by omega) xs.length [] Veh.nil l hmem
      have hul := usedM_bound hlv.1
      exact ⟨l, 0, Ev.bind hc (Ev_pos rfl (Ev.bind hr (Ev_neg (by simp only; omega) (Ev.now _)))), by have := hlv.2; simp at this; omega⟩
  · exact ⟨[], codeB xs lim, Ev.bind (l28Code_ev xs hn lim) (Ev_neg hz (Ev.now _)), by simp⟩

theorem drawIs_l0 (c : List Int) (xs : List S55) (hn : xs.length ≤ 21) (lim : Int) (d : Nat) : ∀ (out : List Int) (j i seed : Int), Rd c i seed → 0 ≤ j → j + d = xs.length → (out.length : Int) ≤ j → ∃ zs, Ev (fun k => spec_DrawIsLoading.l0 k xs lim out j c i seed) (xs, lim, zs) ∧ zs.length ≤ 30 := by
  induction d with
  | zero =>
    intro out j i seed hr h0 hj ho
    obtain ⟨x1, i1, s1, e1, r1, _⟩ := next_tells hr 24 (by omega)
    by_cases hz : x1 = 0
    · obtain ⟨x2, i2, s2, e2, r2, _⟩ := pick_tells r1 [0, 7, -1] (by simp) (by simp)
      exact ⟨out ++ [x2], Ev_succ (by
        simp only [spec_DrawIsLoading.l0]
        exact Ev_neg (by omega) (Ev_bindc e1 (Ev_pos hz (Ev_bindc e2 (Ev_pos (by omega) (Ev.now _)))))), by simp; omega⟩
    · exact ⟨out, Ev_succ (by
        simp only [spec_DrawIsLoading.l0]
        exact Ev_neg (by omega) (Ev_bindc e1 (Ev_neg hz (Ev.now _)))), by omega⟩
  | succ d ih =>
    intro out j i seed hr h0 hj ho
    obtain ⟨x1, i1, s1, e1, r1, _⟩ := next_tells hr 7 (by omega)
    obtain ⟨x2, i2, s2, e2, r2, _⟩ := next_tells r1 3 (by omega)
    obtain ⟨x3, i3, s3, e3, r3, _⟩ := pick_tells r2 [x1, x2] (by simp) (by simp)
    obtain ⟨zs, h4, hz⟩ := ih (out ++ [x3]) (j + 1) i3 s3 r3 (by omega) (by omega) (by simp; omega)
    refine ⟨zs, Ev_succ (by
      simp only [spec_DrawIsLoading.l0]
      refine Ev_pos (by omega) (Ev_bindc e1 (Ev_bindc e2 (Ev_bindc e3 (Ev_pos (by omega) ?_))))
      rw [w64 (by omega) (by omega)]
      exact h4), hz⟩
theorem drawIs_tells (c : List Int) (hc : ∀ b ∈ c, 0 ≤ b ∧ b ≤ 255) (hl : c.length ≤ 4096) : ∃ xs lim zs, Ev (fun k => spec_DrawIsLoading.f k c) (xs, lim, zs) ∧ xs.length ≤ 21 ∧ zs.length ≤ 30 := by
  obtain ⟨seed, h0, r0⟩ := from_tells c hc hl
  obtain ⟨xs, i1, s1, h1, r1, hx⟩ := draw28_tells r0
  obtain ⟨x2, i2, s2, e2, r2⟩ := limit28_tells r1
  obtain ⟨v, cc, f1, hv⟩ := firstSpec_tells xs (by omega) x2
  unfold spec_DrawIsLoading.f
  by_cases hz : cc = 0
  · obtain ⟨x3, i3, s3, e3, r3, _⟩ := next_tells r2 2 (by omega)
    by_cases h3 : x3 = 0
    · refine ⟨xs, x2, v, Ev.bind h0 (Ev.bind h1 (Ev_bindc e2 (Ev.bind f1 (Ev_pos hz (Ev_bindc e3 ?_))))), hx, by omega⟩
      have hb : (x3 == 0) = true := by simp [h3]
      simp only [hb]
      exact Ev_succ (by simp only [spec_DrawIsLoading.j0, if_true]; exact Ev.now _)
    · obtain ⟨zs, h4, hzs⟩ := drawIs_l0 c xs hx x2 xs.length [] 0 i3 s3 r3 (by omega) (by omega) (by simp)
      refine ⟨xs, x2, zs, Ev.bind h0 (Ev.bind h1 (Ev_bindc e2 (Ev.bind f1 (Ev_pos hz (Ev_bindc e3 ?_))))), hx, hzs⟩
      have hb : (x3 == 0) = false := by simp [h3]
      simp only [hb]
      exact Ev_succ (by simp only [spec_DrawIsLoading.j0, Bool.false_eq_true, if_false]; exact h4)
  · obtain ⟨zs, h4, hzs⟩ := drawIs_l0 c xs hx x2 xs.length [] 0 i2 s2 r2 (by omega) (by omega) (by simp)
    exact ⟨xs, x2, zs, Ev.bind h0 (Ev.bind h1 (Ev_bindc e2 (Ev.bind f1 (Ev_neg hz (Ev_succ (by simp only [spec_DrawIsLoading.j0, Bool.false_eq_true, if_false]; exact h4)))))), hx, hzs⟩

theorem drawLeast_tells (c : List Int) (hc : ∀ b ∈ c, 0 ≤ b ∧ b ≤ 255) (hl : c.length ≤ 4096) : ∃ xs lim most, Ev (fun k => spec_DrawLeastPeak.f k c) (xs, lim, most) ∧ xs.length ≤ 21 := by
  obtain ⟨seed, h0, r0⟩ := from_tells c hc hl
  obtain ⟨xs, i1, s1, h1, r1, hx⟩ := draw28_tells r0
  obtain ⟨x2, i2, s2, e2, r2⟩ := limit28_tells r1
  obtain ⟨x3, i3, s3, e3, r3, _⟩ := next_tells r2 4 (by omega)
  obtain ⟨x4, i4, s4, e4, r4, _⟩ := pick_tells r3 [wrap64 (1 + x3), 2, 7, 8, 0] (by simp) (by simp)
  refine ⟨xs, x2, x4, ?_, hx⟩
  unfold spec_DrawLeastPeak.f
  exact Ev.bind h0 (Ev.bind h1 (Ev_bindc e2 (Ev_bindc e3 (Ev_bindc e4 (Ev.now _)))))
theorem grams_pos {xs : List S55} (hx : areBoxes xs = true) {l : List Int} (hv : Veh l) (hl : l.length = xs.length) (hp : 0 < xs.length) : 1 ≤ maxS xs l xs.length := by
  obtain ⟨g0, g6⟩ := hv.at (i := 0) (by omega) (by omega)
  have hg := box_grams hx (i := 0) (by omega) (by omega)
  have h1 := sumTo_mono hx l (rd l 0) 1 xs.length (by omega) (Nat.le_refl _)
  have e : sumTo xs l (rd l 0) 1 = (rd_T55 xs 0).f0 := by simp [sumTo]
  have := mxN_ge (f := fun u => sumTo xs l u xs.length) (n := 7) (v := (rd l 0).toNat) (by omega)
  simp only [show (((rd l 0).toNat : Nat) : Int) = rd l 0 by omega] at this
  unfold maxS
  omega
theorem peaks_fin (xs : List S55) (lim most : Int) : Ev (fun k => if (leastPeakM xs lim most).2 = 0 then (if (xs.length : Int) = 0 then (some ((leastPeakM xs lim most).1 == 0)) else ((impl_CountLoadings.f k xs (leastPeakM xs lim most).1 most).bind fun bt => (if (leastPeakM xs lim most).1 ≤ lim then (if bt.2 = 0 then (some (decide (bt.1 > 0))) else (some false)) else (some false)))) else (some true)) true := by
  refine Ev_ite (fun h => ?_) (fun _ => Ev.now _)
  unfold leastPeakM at h ⊢
  by_cases hc : codeB xs lim = 0
  · obtain ⟨hx, hlim⟩ := codeB_0 hc
    rw [if_pos hc] at h ⊢
    by_cases hm : 1 ≤ most ∧ most ≤ 7
    · rw [if_pos hm] at h ⊢
      rcases leastM_tells xs lim most hx with ⟨_, h2⟩ | ⟨h1, ⟨l, hl, he⟩, _⟩
      · rw [if_pos (by omega)] at h
        exact absurd h (by decide)
      · rw [if_neg (by omega)]
        obtain ⟨f1, f2, f3, f4, f5⟩ := load_facts (by omega) hl
        refine Ev_ite (fun hz => Ev_some ?_) (fun hz => ?_)
        · have : xs.length = 0 := by omega
          rw [he, this, maxS_zero]
          rfl
        · have hp1 := grams_pos hx f1 f2 (by omega)
          have hp2 := maxS_le (by omega) f3
          rw [f2] at hp2
          have hin := load_turn hx (lim' := leastM xs lim most) (most' := most) (by omega) (by omega) hl (by omega) f4
          have hcnt : ∃ m : Nat, countM xs (leastM xs lim most) most = ((m : Int) + 1, 0) := by
            have hcb : codeB xs (leastM xs lim most) = 0 := by unfold codeB; rw [if_pos hx, if_pos (by omega)]
            unfold countM
            rw [if_pos hcb, if_pos hm]
            have hpos := List.length_pos_of_mem hin
            exact ⟨(loadsM xs (leastM xs lim most) most xs.length []).length - 1, by congr 1; omega⟩
          obtain ⟨m, hcnt⟩ := hcnt
          have e1 := impl_CountLoadings_ev xs (leastM xs lim most) most
          rw [hcnt] at e1
          exact Ev.bind e1 (Ev_pos (by simp only; omega) (Ev_pos rfl (Ev_some (decide_eq_true (by simp only; omega)))))
    · rw [if_neg hm] at h
      exact absurd h (by decide)
  · rw [if_neg hc] at h
    exact absurd h hc
theorem peaks_j1 (xs : List S55) (lim most : Int) : Ev (fun k => laws_FnPeaks.j1 k xs lim most (leastPeakM xs lim most).1 (leastPeakM xs lim most).2 xs most (leastLimitM xs most).1 (leastLimitM xs most).2 false) true := by
  have hfin := peaks_fin xs lim most
  refine Ev_succ (by
    simp only [laws_FnPeaks.j1, Bool.false_eq_true, if_false]
    refine Ev_ite (fun h => ?_) (fun _ => hfin)
    have hj3 : Ev (fun k => laws_FnPeaks.j3 k xs lim most (leastPeakM xs lim most).1 (leastPeakM xs lim most).2 false) true := Ev_succ (by
      simp only [laws_FnPeaks.j3, Bool.false_eq_true, if_false]
      exact hfin)
    unfold leastLimitM at h ⊢
    by_cases hx : areBoxes xs = true
    · rw [if_pos hx] at h ⊢
      by_cases hm : 1 ≤ most ∧ most ≤ 7
      · rw [if_pos hm] at h ⊢
        rcases leastM_tells xs 10000000 most hx with ⟨_, h2⟩ | ⟨h1, ⟨l, hl, he⟩, hall⟩
        · rw [if_pos (by omega)] at h
          exact absurd h (by decide)
        · rw [if_neg (by omega)]
          have hb := maxS_bound hx l (i := xs.length) (Nat.le_refl _)
          obtain ⟨f1, f2, f3, f4, f5⟩ := load_facts (by omega) hl
          obtain ⟨n, c, e1, hf⟩ := few_tells xs (max 1 (leastM xs 10000000 most))
          have hin := load_turn hx (lim' := max 1 (leastM xs 10000000 most)) (most' := 7) (by omega) (by omega) hl (by omega) (by omega)
          rcases hf hx (by omega) with ⟨hL, _⟩ | ⟨hc, _, hle⟩
          · rw [hL] at hin
            cases hin
          · have hn := hle l hin
            subst hc
            refine Ev.bind e1 (Ev_pos rfl ?_)
            have hd : decide (n > most) = false := decide_eq_false (by omega)
            simp only [hd]
            refine Ev_succ (by
              simp only [laws_FnPeaks.j2, Bool.false_eq_true, if_false]
              refine Ev_ite (fun hg => ?_) (fun _ => hfin)
              rw [w64 (x := max 1 (leastM xs 10000000 most) - 1) (by omega) (by omega)]
              obtain ⟨n2, c2, e2, hf2⟩ := few_tells xs (max 1 (leastM xs 10000000 most) - 1)
              refine Ev.bind e2 ?_
              rcases hf2 hx (by omega) with ⟨_, hc2⟩ | ⟨hc2, ⟨l2, hl2, hu2⟩, _⟩
              · exact Ev_pos hc2 hj3
              · refine Ev_neg (by simp only; omega) (Ev_pos hc2 ?_)
                have hd2 : decide (n2 ≤ most) = false := decide_eq_false (fun q => by
                  obtain ⟨k1, k2, k3, k4, k5⟩ := load_facts (by omega) hl2
                  have k6 := maxS_le (by omega) k3
                  rw [k2] at k6
                  have := hall l2 (load_turn hx (by omega) (by omega) hl2 (by omega) (by omega))
                  omega)
                simp only [hd2]
                exact hj3)
      · rw [if_neg hm] at h
        exact absurd h (by decide)
    · rw [if_neg hx] at h
      exact absurd h (by decide))
theorem FnPeaks : laws_FnPeaks.Pure := by
  intro c hn0 hn1 hw
  have hc := bytes_of hw
  refine Ev.rounds ?_
  unfold laws_FnPeaks.f
  rw [big_eq]
  simp only [Option.bind_some, decide_eq_true_eq]
  refine Ev_ite (fun _ => Ev.now _) (fun hb => ?_)
  have hl : c.length ≤ 4096 := by omega
  obtain ⟨xs, lim, most, h1, hx⟩ := drawLeast_tells c hc hl
  obtain ⟨ys, lm, zs, h2, hy, hzs⟩ := drawIs_tells c hc hl
  have d1 : Ev (fun k => spec_DrawLeastLimit.f k c) (xs, most) := by
    unfold spec_DrawLeastLimit.f
    exact Ev.bind h1 (Ev.now _)
  have d2 : Ev (fun k => spec_DrawCountLoadings.f k c) (xs, lim, most) := by
    unfold spec_DrawCountLoadings.f
    exact Ev.bind h1 (Ev.now _)
  have d3 : Ev (fun k => spec_DrawPeakOf.f k c) (ys, lm, zs) := by
    unfold spec_DrawPeakOf.f
    exact Ev.bind h2 (Ev.now _)
  refine Ev.bind h1 (Ev.bind (impl_LeastPeak_ev xs lim most) (Ev.bind (spec_LeastPeak_ev xs (by omega) lim most) (Ev.bind d1 (Ev.bind (impl_LeastLimit_ev xs most) (Ev.bind (spec_LeastLimit_ev xs (by omega) most) (Ev.bind d2 (Ev.bind (impl_CountLoadings_ev xs lim most) (Ev.bind (spec_CountLoadings_ev xs (by omega) lim most) (Ev.bind d3 (Ev.bind (impl_PeakOf_ev ys lm zs (by omega)) (Ev.bind (impl_IsLoading_ev ys lm zs (by omega)) (Ev.bind (spec_PeakOf_ev ys (by omega) lm zs (by omega)) ?_))))))))))))
  refine Ev_pos rfl (Ev_pos rfl (Ev_pos rfl (Ev_pos rfl (Ev_pos rfl (Ev_pos rfl (Ev_pos rfl ?_))))))
  have e : ((peakOfM ys lm zs).1 != (peakOfM ys lm zs).1) = false := bne_self_eq_false _
  simp only [e]
  refine Ev_succ (by
    simp only [laws_FnPeaks.j0, Bool.false_eq_true, if_false]
    refine Ev_ite (fun h => ?_) (fun _ => peaks_j1 xs lim most)
    unfold peakOfM at h ⊢
    by_cases hz : (isLoadingM ys lm zs).2 = 0
    · rw [if_pos hz] at h ⊢
      by_cases ho : (isLoadingM ys lm zs).1 = true
      · rw [if_pos ho]
        obtain ⟨q1, q2, q3, q4, q5, q6⟩ := isLoadingM_0 hz
        rw [q6] at ho
        have hle := maxS_le (by omega) (okB_iff.1 ho)
        refine Ev_neg (by simp only; omega) (Ev_pos hz ?_)
        rw [q6, ho]
        exact peaks_j1 xs lim most
      · rw [if_neg ho] at h
        exact absurd h (by decide)
    · rw [if_neg hz] at h
      exact absurd h hz)



end Go.Proofs.Ytjnfimhckeihhaa.Pure
