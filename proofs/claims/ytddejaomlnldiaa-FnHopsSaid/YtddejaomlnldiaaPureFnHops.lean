/- The statement over numbers and lists for FnHops: the reference and the program answer alike for all arguments. -/
import Derived.Test.YtddejaomlnldiaaQFnHopsx6
set_option linter.unusedVariables false
set_option linter.unusedSimpArgs false
namespace Go.Proofs.Ytddejaomlnldiaa.Pure
open Go.RowKit Go.Proofs.Ytddejaomlnldiaa.PFnHops Go.Proofs.YtddejaomlnldiaaW.PrintWords Go.Proofs.YtddejaomlnldiaaW.PrintLast Go.Proofs.YtddejaomlnldiaaW.PrintMore


theorem w64 {x : Int} (h0 : -9223372036854775808 ≤ x) (h1 : x ≤ 9223372036854775807) : wrap64 x = x := by unfold wrap64; omega
theorem Ev_ite {α : Type} {c : Prop} [Decidable c] {g h : Nat → Option α} {r : α} (h1 : c → Ev g r) (h2 : ¬ c → Ev h r) : Ev (fun k => if c then g k else h k) r := by
  by_cases hc : c
  · obtain ⟨K, hK⟩ := h1 hc
    exact ⟨K, fun k hk => (if_pos hc).trans (hK k hk)⟩
  · obtain ⟨K, hK⟩ := h2 hc
    exact ⟨K, fun k hk => (if_neg hc).trans (hK k hk)⟩
theorem Ev_pos {α : Type} {c : Prop} [Decidable c] {g h : Nat → Option α} {r : α} (hc : c) (h1 : Ev g r) : Ev (fun k => if c then g k else h k) r := Ev_ite (fun _ => h1) (fun n => absurd hc n)
theorem Ev_neg {α : Type} {c : Prop} [Decidable c] {g h : Nat → Option α} {r : α} (hc : ¬ c) (h1 : Ev h r) : Ev (fun k => if c then g k else h k) r := Ev_ite (fun n => absurd n hc) (fun _ => h1)
theorem Ev_some {α : Type} {r q : α} (h : r = q) : Ev (fun _ => some r) q := h ▸ Ev.now r
theorem Ev_eq {α : Type} {g : Nat → Option α} {r q : α} (h : r = q) (k : Ev g r) : Ev g q := h ▸ k
theorem Ev_const {α : Type} {o : Option α} {r : α} (h : o = some r) : Ev (fun _ => o) r := by subst h; exact Ev.now r
theorem Ev_bindc {α β : Type} {o : Option α} {f : Nat → α → Option β} {a : α} {r : β} (h : o = some a) (k : Ev (fun n => f n a) r) : Ev (fun n => o.bind (f n)) r := by subst h; exact k
theorem Ev_unique {α : Type} {g : Nat → Option α} {r q : α} (h : Ev g r) (k : Ev g q) : r = q := by
  obtain ⟨K, h⟩ := h
  obtain ⟨L, k⟩ := k
  have h1 := h (max K L) (by omega)
  have h2 := k (max K L) (by omega)
  rw [h1] at h2
  exact Option.some.inj h2
theorem lit64 {x : Int} (h : (Lit.int .i64 x).wf = true) : -9223372036854775808 ≤ x ∧ x ≤ 9223372036854775807 := by
  have h := h
  simp [Lit.wf, IntKind.min, IntKind.max, IntKind.bits, IntKind.signed] at h
  omega
theorem mn_eq (a b : Int) : mn a b = min a b := by unfold mn; omega
theorem mx_eq (a b : Int) : mx a b = max a b := by unfold mx; omega

/-- A loop over the numbers 0 to n - 1: d rounds from i on. -/
def forM {S ρ : Type} (step : S → Int → ρ ⊕ S) (out : S → ρ) : Nat → S → Int → ρ
  | 0, s, _ => out s
  | d + 1, s, i => match step s i with
    | .inl r => r
    | .inr s' => forM step out d s' (i + 1)
theorem Ev_for {S ρ : Type} {F : Nat → S → Int → Option ρ} {step : S → Int → ρ ⊕ S} {out : S → ρ} {n : Nat} (Inv : S → Int → Prop)
    (hend : ∀ s, Inv s n → ∃ K, ∀ k, K ≤ k → F k s n = some (out s))
    (hstep : ∀ (s : S) (i : Int), 0 ≤ i → i < n → Inv s i → (∃ r, step s i = .inl r ∧ ∃ K, ∀ k, K ≤ k → F k s i = some r) ∨ (∃ s', step s i = .inr s' ∧ Inv s' (i + 1) ∧ ∃ K, ∀ k, K ≤ k → F (k + 1) s i = F k s' (i + 1))) :
    ∀ (d : Nat) (s : S) (i : Int), 0 ≤ i → i + d = n → Inv s i → Ev (fun k => F k s i) (forM step out d s i) := by
  intro d
  induction d with
  | zero =>
    intro s i h0 h1 hI
    obtain rfl : i = n := by omega
    exact hend s hI
  | succ d ih =>
    intro s i h0 h1 hI
    rcases hstep s i h0 (by omega) hI with ⟨r, hr, hK⟩ | ⟨s', hs, hI', K, hK⟩
    · simp only [forM, hr]
      exact hK
    · simp only [forM, hs]
      obtain ⟨K', h⟩ := ih s' (i + 1) (by omega) (by omega) hI'
      refine ⟨K + K' + 1, fun k hk => ?_⟩
      obtain ⟨k, rfl⟩ : ∃ m, k = m + 1 := ⟨k - 1, by omega⟩
      exact (hK k (by omega)).trans (h k (by omega))
/-- What holds at the end of a loop. -/
theorem forM_ind {S ρ : Type} {step : S → Int → ρ ⊕ S} {out : S → ρ} {n : Nat} (Inv : S → Int → Prop) (Post : ρ → Prop) (hend : ∀ s, Inv s n → Post (out s))
    (hstep : ∀ (s : S) (i : Int), 0 ≤ i → i < n → Inv s i → (∀ r, step s i = .inl r → Post r) ∧ ∀ s', step s i = .inr s' → Inv s' (i + 1)) : ∀ (d : Nat) (s : S) (i : Int), 0 ≤ i → i + d = n → Inv s i → Post (forM step out d s i) := by
  intro d
  induction d with
  | zero =>
    intro s i h0 h1 hI
    obtain rfl : i = n := by omega
    exact hend s hI
  | succ d ih =>
    intro s i h0 h1 hI
    obtain ⟨h2, h3⟩ := hstep s i h0 (by omega) hI
    simp only [forM]
    cases hs : step s i with
    | inl r => exact h2 r hs
    | inr s' => exact ih s' (i + 1) (by omega) (by omega) (h3 s' hs)

theorem Ev_succ {α : Type} {g : Nat → Option α} {r : α} (h : Ev (fun k => g (k + 1)) r) : Ev g r := Ev.step (fun _ => rfl) h
theorem Ev_for2 {S ρ : Type} {F : Nat → S → Int → Option ρ} {step : S → Int → ρ ⊕ S} {out : S → ρ} {n : Nat} (Inv : S → Int → Prop)
    (hend : ∀ s, Inv s n → Ev (fun k => F k s n) (out s))
    (hstep : ∀ (s : S) (i : Int), 0 ≤ i → i < n → Inv s i → (∃ r, step s i = .inl r ∧ Ev (fun k => F k s i) r) ∨ (∃ s', step s i = .inr s' ∧ Inv s' (i + 1) ∧ ∀ r, Ev (fun k => F k s' (i + 1)) r → Ev (fun k => F k s i) r)) :
    ∀ (d : Nat) (s : S) (i : Int), 0 ≤ i → i + d = n → Inv s i → Ev (fun k => F k s i) (forM step out d s i) := by
  intro d
  induction d with
  | zero =>
    intro s i h0 h1 hI
    obtain rfl : i = n := by omega
    exact hend s hI
  | succ d ih =>
    intro s i h0 h1 hI
    rcases hstep s i h0 (by omega) hI with ⟨r, hr, hK⟩ | ⟨s', hs, hI', hK⟩
    · simp only [forM, hr]
      exact hK
    · simp only [forM, hs]
      exact hK _ (ih s' (i + 1) (by omega) (by omega) hI')
/-- A loop over a list that only gathers: a fold. -/
theorem forM_fold {S ρ α : Type} (xs : List α) (rdx : Int → α) (hrd : ∀ (j : Nat) (h : j < xs.length), rdx j = xs[j]) (upd : S → α → S) (out : S → ρ) (d : Nat) : ∀ (s : S) (i : Nat), i + d = xs.length →
    forM (ρ := ρ) (fun s i => .inr (upd s (rdx i))) out d s i = out ((xs.drop i).foldl upd s) := by
  induction d with
  | zero =>
    intro s i hi
    rw [List.drop_eq_nil_of_le (by omega)]
    rfl
  | succ d ih =>
    intro s i hi
    rw [List.drop_eq_getElem_cons (show i < xs.length by omega)]
    simp only [forM, List.foldl_cons]
    have := ih (upd s (rdx i)) (i + 1) (by omega)
    rw [← hrd i (by omega)]
    exact this
theorem forM_fold0 {S ρ α : Type} (xs : List α) (rdx : Int → α) (hrd : ∀ (j : Nat) (h : j < xs.length), rdx j = xs[j]) (upd : S → α → S) (out : S → ρ) (s : S) :
    forM (ρ := ρ) (fun s i => .inr (upd s (rdx i))) out xs.length s 0 = out (xs.foldl upd s) := by
  have := forM_fold xs rdx hrd upd out xs.length s 0 (by omega)
  rw [List.drop_zero] at this
  exact this
/-- A loop that looks at each place, and stops at the first that fails. -/
theorem forM_all {p : Int → Bool} {b : Bool} {n : Nat} (d : Nat) : ∀ i : Int, 0 ≤ i → i + d = n → (forM (S := Unit) (ρ := Bool) (fun _ i => if p i = true then .inr () else .inl false) (fun _ => b) d () i = true ↔ b = true ∧ ∀ j : Int, i ≤ j → j < n → p j = true) := by
  induction d with
  | zero =>
    intro i h0 hi
    simp only [forM]
    exact ⟨fun h => ⟨h, fun j h1 h2 => by omega⟩, fun h => h.1⟩
  | succ d ih =>
    intro i h0 hi
    simp only [forM]
    by_cases hp : p i = true
    · rw [if_pos hp]
      refine (ih (i + 1) (by omega) (by omega)).trans ⟨fun h => ⟨h.1, fun j h1 h2 => ?_⟩, fun h => ⟨h.1, fun j h1 h2 => h.2 j (by omega) h2⟩⟩
      by_cases hj : j = i
      · rw [hj]; exact hp
      · exact h.2 j (by omega) h2
    · rw [if_neg hp]
      exact ⟨(fun h => by cases h), fun h => absurd (h.2 i (Int.le_refl _) (by omega)) hp⟩

theorem within_eq (a lo hi : Int) : impl_within.f a lo hi = some (decide (lo ≤ a ∧ a ≤ hi)) := by
  unfold impl_within.f
  by_cases h : lo ≤ a <;> simp [h]

theorem l01In_eq (a lo hi : Int) : spec_l01In.f a lo hi = some (decide (lo ≤ a ∧ a ≤ hi)) := by
  unfold spec_l01In.f
  by_cases h : a ≥ lo
  · have : lo ≤ a := h
    simp [this]
  · have : ¬ lo ≤ a := h
    simp [this]

theorem rdModule {xs : List S63} {i : Int} (h0 : 0 ≤ i) (h1 : i < xs.length) : rd_T63 xs i = xs[i.toNat]'(by omega) := by
  simp [rd_T63, List.getD_eq_getElem?_getD, List.getElem?_eq_getElem (show i.toNat < xs.length by omega)]
/-- The module at a place fits. -/
def okMod (xs : List S63) (i : Int) : Bool := decide ((0 ≤ (rd_T63 xs i).f1 ∧ (rd_T63 xs i).f1 ≤ 32) ∧ (i = 0 → (rd_T63 xs i).f0 = -1) ∧ (0 < i → 0 ≤ (rd_T63 xs i).f0 ∧ (rd_T63 xs i).f0 ≤ i - 1))
def areMods (xs : List S63) : Bool := forM (S := Unit) (fun _ i => if okMod xs i = true then .inr () else .inl false) (fun _ => decide (1 ≤ xs.length ∧ xs.length ≤ 12)) xs.length () 0
theorem areMods_iff (xs : List S63) : areMods xs = true ↔ (1 ≤ xs.length ∧ xs.length ≤ 12) ∧ ∀ i : Int, 0 ≤ i → i < xs.length → okMod xs i = true := by
  unfold areMods
  refine (forM_all (p := okMod xs) (n := xs.length) xs.length 0 (by omega) (by omega)).trans ?_
  rw [decide_eq_true_eq]
theorem spec_AreModules_ev (xs : List S63) (hn : xs.length ≤ 1000000) : Ev (fun k => spec_AreModules.f k xs) (areMods xs) := by
  unfold spec_AreModules.f
  refine Ev_for2 (F := fun k (_ : Unit) i => spec_AreModules.l0 k xs i) (n := xs.length) (fun _ _ => True)
    (fun s hI => Ev_succ (by
      simp only [spec_AreModules.l0, l01In_eq, Option.bind_some]
      refine Ev_neg (by omega) (Ev_some ?_)
      rw [decide_eq_decide]
      omega))
    (fun s i h0 h1 hI => ?_) xs.length () 0 (by omega) (by omega) trivial
  by_cases hok : okMod xs i = true
  · have hk := of_decide_eq_true hok
    refine .inr ⟨(), if_pos hok, trivial, fun r hr => Ev_succ (by
      simp only [spec_AreModules.l0, l01In_eq, Option.bind_some, decide_eq_true_eq]
      refine Ev_pos h1 (Ev_pos h0 (Ev_pos hk.1 ?_))
      rw [w64 (x := i + 1) (by omega) (by omega)]
      refine Ev_ite (fun hz => Ev_pos (hk.2.1 hz) (Ev_neg (by omega) hr)) (fun hz => Ev_pos (by omega) ?_)
      rw [w64 (by omega) (by omega)]
      exact Ev_pos (hk.2.2 (by omega)) hr)⟩
  · refine .inl ⟨false, if_neg hok, Ev_succ (by
      simp only [spec_AreModules.l0, l01In_eq, Option.bind_some, decide_eq_true_eq]
      refine Ev_pos h1 (Ev_pos h0 (Ev_ite (fun ha => ?_) (fun ha => Ev.now _)))
      refine Ev_ite (fun hz => Ev_ite (fun hb => ?_) (fun hb => Ev.now _)) (fun hz => Ev_pos (by omega) ?_)
      · exact absurd (decide_eq_true ⟨ha, fun _ => hb, fun h => by omega⟩) hok
      · rw [w64 (x := i - 1) (by omega) (by omega)]
        refine Ev_neg (fun hb => hok (decide_eq_true ⟨ha, fun h => absurd h hz, fun _ => hb⟩)) (Ev.now _))⟩
theorem impl_AreModules_ev (xs : List S63) : Ev (fun k => impl_AreModules.f k xs) (areMods xs) := by
  unfold impl_AreModules.f
  have hno : ¬ (1 ≤ xs.length ∧ xs.length ≤ 12) → areMods xs = false := fun h => by
    rw [Bool.eq_false_iff]
    exact fun h2 => h ((areMods_iff xs).1 h2).1
  have hj : ∀ r, r = false → Ev (fun k => impl_AreModules.j0 k xs true) r := fun r h => Ev_succ (by
    simp only [impl_AreModules.j0, if_true]
    exact Ev_some h.symm)
  refine Ev_ite (fun h => hj _ (hno (by omega))) (fun h => Ev_ite (fun h2 => hj _ (hno (by omega))) (fun h2 => Ev_pos (by omega) ?_))
  by_cases hp : (rd_T63 xs 0).f0 = -1
  · have e : ((rd_T63 xs 0).f0 != -1) = false := by simpa using hp
    rw [e]
    refine Ev_succ (by
      simp only [impl_AreModules.j0, Bool.false_eq_true, if_false]
      have ha : areMods xs = forM (S := Unit) (fun _ i => if okMod xs i = true then .inr () else .inl false) (fun _ => true) xs.length () 0 := by
        unfold areMods
        rw [decide_eq_true (show 1 ≤ xs.length ∧ xs.length ≤ 12 by omega)]
      rw [ha]
      refine Ev_for2 (F := fun k (_ : Unit) i => impl_AreModules.l0 k xs (xs.length : Int) i) (n := xs.length) (fun _ _ => True)
        (fun s hI => Ev_succ (by
          simp only [impl_AreModules.l0]
          exact Ev_neg (by omega) (Ev.now _)))
        (fun s i h0 h1 hI => ?_) xs.length () 0 (by omega) (by omega) trivial
      by_cases hok : okMod xs i = true
      · have hk := of_decide_eq_true hok
        refine .inr ⟨(), if_pos hok, trivial, fun r hr => Ev_succ (by
          simp only [impl_AreModules.l0, within_eq, Option.bind_some, decide_eq_true_eq]
          refine Ev_pos h1 (Ev_pos h0 (Ev_pos h1 (Ev_pos hk.1 ?_)))
          rw [w64 (x := i + 1) (by omega) (by omega)]
          refine Ev_ite (fun hz => ?_) (fun hz => hr)
          rw [w64 (by omega) (by omega)]
          exact Ev_pos (hk.2.2 (by omega)) hr)⟩
      · refine .inl ⟨false, if_neg hok, Ev_succ (by
          simp only [impl_AreModules.l0, within_eq, Option.bind_some, decide_eq_true_eq]
          refine Ev_pos h1 (Ev_pos h0 (Ev_pos h1 (Ev_ite (fun ha => ?_) (fun ha => Ev.now _))))
          refine Ev_ite (fun hz => ?_) (fun hz => ?_)
          · rw [w64 (x := i - 1) (by omega) (by omega)]
            exact Ev_neg (fun hb => hok (decide_eq_true ⟨ha, fun h => by omega, fun _ => hb⟩)) (Ev.now _)
          · have hi : i = 0 := by omega
            exact absurd (decide_eq_true ⟨ha, fun _ => by rw [hi]; exact hp, fun h => by omega⟩) hok)⟩)
  · have e : ((rd_T63 xs 0).f0 != -1) = true := by simpa using hp
    rw [e]
    refine hj _ ?_
    rw [Bool.eq_false_iff]
    intro h3
    have h4 := ((areMods_iff xs).1 h3).2 0 (by omega) (by omega)
    exact hp ((of_decide_eq_true h4).2.1 rfl)

/-- A module and all above it. -/
def wayM (xs : List S63) : Nat → Int → List Int → List Int
  | 0, _, acc => acc
  | d + 1, m, acc => if 0 ≤ m then wayM xs d (rd_T63 xs m).f0 (acc ++ [m]) else acc
theorem wayM_length (xs : List S63) : ∀ (d : Nat) (m : Int) (acc : List Int), acc.length ≤ (wayM xs d m acc).length ∧ (wayM xs d m acc).length ≤ acc.length + d := by
  intro d
  induction d with
  | zero => intro m acc; simp [wayM]
  | succ d ih =>
    intro m acc
    unfold wayM
    split
    · have := ih (rd_T63 xs m).f0 (acc ++ [m])
      rw [List.length_append] at this
      simp at this
      omega
    · omega
theorem parent_lt {xs : List S63} (hx : areMods xs = true) {m : Int} (h0 : 0 ≤ m) (h1 : m < xs.length) : (rd_T63 xs m).f0 < m := by
  have h := of_decide_eq_true (((areMods_iff xs).1 hx).2 m h0 h1)
  by_cases hz : m = 0
  · have := h.2.1 hz; omega
  · have := h.2.2 (by omega); omega
theorem spec_way_ev {xs : List S63} (hx : areMods xs = true) : ∀ (d : Nat) (m : Int) (acc : List Int), m < d → m < xs.length → acc.length + d ≤ 1000000 → Ev (fun k => spec_l12Way.l0 k xs m acc) (wayM xs d m acc) := by
  intro d
  induction d with
  | zero => intro m acc h0 h1 h2; exact Ev_succ (by simp only [spec_l12Way.l0]; exact Ev_neg (by omega) (Ev.now _))
  | succ d ih =>
    intro m acc h0 h1 h2
    unfold wayM
    refine Ev_succ (by
      simp only [spec_l12Way.l0]
      refine Ev_ite (fun hm => ?_) (fun hm => by rw [if_neg hm]; exact Ev.now _)
      rw [if_pos hm]
      have := parent_lt hx hm h1
      exact Ev_pos (by omega) (Ev_pos hm (Ev_pos h1 (ih _ _ (by omega) (by omega) (by rw [List.length_append]; simp; omega)))))
theorem impl_way_ev {xs : List S63} (hx : areMods xs = true) : ∀ (d : Nat) (m : Int) (acc : List Int), m < d → m < xs.length → acc.length + d ≤ 1000000 → Ev (fun k => impl_wayToMaster.l0 k xs m acc) (wayM xs d m acc) := by
  intro d
  induction d with
  | zero => intro m acc h0 h1 h2; exact Ev_succ (by simp only [impl_wayToMaster.l0]; exact Ev_neg (by omega) (Ev.now _))
  | succ d ih =>
    intro m acc h0 h1 h2
    unfold wayM
    refine Ev_succ (by
      simp only [impl_wayToMaster.l0]
      refine Ev_ite (fun hm => ?_) (fun hm => by rw [if_neg hm]; exact Ev.now _)
      rw [if_pos hm]
      have := parent_lt hx hm h1
      exact Ev_pos (by omega) (Ev_pos hm (Ev_pos h1 (ih _ _ (by omega) (by omega) (by rw [List.length_append]; simp; omega)))))
/-- The tick in which a module stops. -/
def tickS (xs : List S63) (hop sent m : Int) : Int := sent + hop * (((wayM xs xs.length m []).length : Int) - 1)
theorem tickW {hop sent l : Int} (hh : 1 ≤ hop ∧ hop ≤ 10) (hs : 0 ≤ sent ∧ sent ≤ 100000) (hl : 0 ≤ l ∧ l ≤ 12) : wrap64 (sent + wrap64 (hop * wrap64 (l - 1))) = sent + hop * (l - 1) := by
  rw [w64 (x := l - 1) (by omega) (by omega)]
  have h : -10 ≤ hop * (l - 1) ∧ hop * (l - 1) ≤ 120 := by
    have : hop = 1 ∨ hop = 2 ∨ hop = 3 ∨ hop = 4 ∨ hop = 5 ∨ hop = 6 ∨ hop = 7 ∨ hop = 8 ∨ hop = 9 ∨ hop = 10 := by omega
    rcases this with rfl | rfl | rfl | rfl | rfl | rfl | rfl | rfl | rfl | rfl <;> omega
  rw [w64 (x := hop * (l - 1)) (by omega) (by omega), w64 (by omega) (by omega)]
theorem spec_tick_ev {xs : List S63} (hx : areMods xs = true) {hop sent m : Int} (hh : 1 ≤ hop ∧ hop ≤ 10) (hs : 0 ≤ sent ∧ sent ≤ 100000) (h1 : m < xs.length) : Ev (fun k => spec_l23Tick.f k xs hop sent m) (tickS xs hop sent m) := by
  have hn := ((areMods_iff xs).1 hx).1
  have hl := wayM_length xs xs.length m []
  have hl2 : (wayM xs xs.length m []).length ≤ 12 := by simp at hl; omega
  unfold spec_l23Tick.f spec_l12Way.f
  exact Ev.bind (spec_way_ev hx xs.length m [] h1 h1 (by simp; omega)) (Ev_some (tickW hh hs (by omega)))
theorem impl_tick_ev {xs : List S63} (hx : areMods xs = true) {hop sent m : Int} (hh : 1 ≤ hop ∧ hop ≤ 10) (hs : 0 ≤ sent ∧ sent ≤ 100000) (h1 : m < xs.length) : Ev (fun k => impl_stopTick.f k xs hop sent m) (tickS xs hop sent m) := by
  have hn := ((areMods_iff xs).1 hx).1
  have hl := wayM_length xs xs.length m []
  have hl2 : (wayM xs xs.length m []).length ≤ 12 := by simp at hl; omega
  unfold impl_stopTick.f impl_wayToMaster.f
  exact Ev.bind (impl_way_ev hx xs.length m [] h1 h1 (by simp; omega)) (Ev_some (tickW hh hs (by omega)))

def codeS (xs : List S63) (hop sent : Int) : Int := if areMods xs = true then (if (1 ≤ hop ∧ hop ≤ 10) ∧ 0 ≤ sent ∧ sent ≤ 100000 then 0 else 2) else 1
theorem codeS_0 {xs : List S63} {hop sent : Int} (h : codeS xs hop sent = 0) : areMods xs = true ∧ (1 ≤ hop ∧ hop ≤ 10) ∧ 0 ≤ sent ∧ sent ≤ 100000 := by
  unfold codeS at h
  by_cases h1 : areMods xs = true
  · rw [if_pos h1] at h
    by_cases h2 : (1 ≤ hop ∧ hop ≤ 10) ∧ 0 ≤ sent ∧ sent ≤ 100000
    · exact ⟨h1, h2⟩
    · rw [if_neg h2] at h; exact absurd h (by decide)
  · rw [if_neg h1] at h; exact absurd h (by decide)
theorem l23Code_ev (xs : List S63) (hn : xs.length ≤ 1000000) (hop sent : Int) : Ev (fun k => spec_l23Code.f k xs hop sent 0) (codeS xs hop sent) := by
  unfold spec_l23Code.f
  have h12 : Ev (fun k => spec_l12Code.f k xs 0) (if areMods xs = true then 0 else 1) := by
    unfold spec_l12Code.f
    refine Ev.bind (spec_AreModules_ev xs hn) (Ev_ite (fun h => ?_) (fun h => by rw [if_neg h]; exact Ev.now _))
    have h2 := ((areMods_iff xs).1 h).1
    rw [if_pos h, l01In_eq, w64 (by omega) (by omega)]
    simp only [Option.bind_some, decide_eq_true_eq]
    exact Ev_pos (by omega) (Ev.now _)
  refine Ev.bind h12 ?_
  unfold codeS
  by_cases h : areMods xs = true
  · rw [if_pos h, if_pos h, l01In_eq, l01In_eq]
    simp only [Option.bind_some, decide_eq_true_eq]
    refine Ev_pos trivial (Ev_ite (fun h1 => Ev_ite (fun h2 => ?_) (fun h2 => ?_)) (fun h1 => ?_))
    · rw [if_pos ⟨h1, h2⟩]; exact Ev.now _
    · rw [if_neg (fun q => h2 q.2)]; exact Ev.now _
    · rw [if_neg (fun q => h1 q.1)]; exact Ev.now _
  · rw [if_neg h, if_neg h]
    exact Ev_neg (by decide) (Ev.now _)

def lastS (xs : List S63) (hop sent : Int) : Int := forM (S := Int) (fun s i => .inr (max s (tickS xs hop sent i))) (fun s => s) xs.length sent 0
theorem spec_LastStop_ev (xs : List S63) (hn : xs.length ≤ 1000000) (hop sent : Int) : Ev (fun k => spec_LastStop.f k xs hop sent) (if codeS xs hop sent = 0 then (lastS xs hop sent, 0) else (0, codeS xs hop sent)) := by
  unfold spec_LastStop.f
  refine Ev.bind (l23Code_ev xs hn hop sent) (Ev_ite (fun h => ?_) (fun h => by rw [if_neg h]; exact Ev.now _))
  rw [if_pos h]
  obtain ⟨hx, hh, hs⟩ := codeS_0 h
  have e : (lastS xs hop sent, (0 : Int)) = forM (S := Int) (fun s i => .inr (max s (tickS xs hop sent i))) (fun s => (s, (0 : Int))) xs.length sent 0 := by
    unfold lastS
    have : ∀ (d : Nat) (s i : Int), (forM (S := Int) (fun s i => .inr (max s (tickS xs hop sent i))) (fun s => s) d s i, (0 : Int)) = forM (S := Int) (fun s i => .inr (max s (tickS xs hop sent i))) (fun s => (s, (0 : Int))) d s i := by
      intro d
      induction d with
      | zero => intro s i; rfl
      | succ d ih => intro s i; exact ih _ _
    exact this _ _ _
  rw [e]
  exact Ev_for2 (F := fun k s i => spec_LastStop.l0 k xs hop sent s i) (n := xs.length) (fun _ _ => True)
    (fun s hI => Ev_succ (by
      simp only [spec_LastStop.l0]
      exact Ev_neg (by omega) (Ev.now _)))
    (fun s i h0 h1 hI => .inr ⟨_, rfl, trivial, fun r hr => Ev_succ (by
      simp only [spec_LastStop.l0]
      refine Ev_pos h1 (Ev.bind (spec_tick_ev hx hh hs h1) ?_)
      rw [w64 (by omega) (by omega), mx_eq]
      exact hr)⟩) xs.length sent 0 (by omega) (by omega) trivial
theorem impl_lastStop_ev {xs : List S63} (hx : areMods xs = true) {hop sent : Int} (hh : 1 ≤ hop ∧ hop ≤ 10) (hs : 0 ≤ sent ∧ sent ≤ 100000) : Ev (fun k => impl_lastStop.f k xs hop sent) (lastS xs hop sent) := by
  have hn := ((areMods_iff xs).1 hx).1
  unfold impl_lastStop.f lastS
  exact Ev_for2 (F := fun k s i => impl_lastStop.l0 k xs hop sent s (xs.length : Int) i) (n := xs.length) (fun _ _ => True)
    (fun s hI => Ev_succ (by
      simp only [impl_lastStop.l0]
      exact Ev_neg (by omega) (Ev.now _)))
    (fun s i h0 h1 hI => .inr ⟨_, rfl, trivial, fun r hr => Ev_succ (by
      simp only [impl_lastStop.l0]
      refine Ev_pos h1 (Ev.bind (impl_tick_ev hx hh hs h1) ?_)
      rw [w64 (by omega) (by omega), mx_eq]
      exact hr)⟩) xs.length sent 0 (by omega) (by omega) trivial

theorem isHop_eq (a : Int) : impl_isHop.f a = some (decide (1 ≤ a ∧ a ≤ 10)) := by unfold impl_isHop.f; rw [within_eq]; rfl
theorem isTick_eq (a : Int) : impl_isTick.f a = some (decide (0 ≤ a ∧ a ≤ 100000)) := by unfold impl_isTick.f; rw [within_eq]; rfl

theorem impl_LastStop_ev (xs : List S63) (hop sent : Int) : Ev (fun k => impl_LastStop.f k xs hop sent) (if codeS xs hop sent = 0 then (lastS xs hop sent, 0) else (0, codeS xs hop sent)) := by
  unfold impl_LastStop.f
  refine Ev.bind (impl_AreModules_ev xs) (Ev_ite (fun h => ?_) (fun h => ?_))
  · simp only [isHop_eq, isTick_eq, Option.bind_some, decide_eq_true_eq]
    refine Ev_ite (fun h1 => Ev_ite (fun h2 => ?_) (fun h2 => ?_)) (fun h1 => ?_)
    · have e : codeS xs hop sent = 0 := by unfold codeS; rw [if_pos h, if_pos ⟨h1, h2⟩]
      rw [if_pos e]
      exact Ev.bind (impl_lastStop_ev h h1 h2) (Ev.now _)
    · have e : codeS xs hop sent = 2 := by unfold codeS; rw [if_pos h, if_neg (fun q => h2 q.2)]
      rw [e, if_neg (by decide)]
      exact Ev.now _
    · have e : codeS xs hop sent = 2 := by unfold codeS; rw [if_pos h, if_neg (fun q => h1 q.1)]
      rw [e, if_neg (by decide)]
      exact Ev.now _
  · have e : codeS xs hop sent = 1 := by unfold codeS; rw [if_neg h]
    rw [e, if_neg (by decide)]
    exact Ev.now _
theorem core_FnExactLastStop (xs : List S63) (hop sent : Int) (hn : xs.length ≤ 1000000) (_w1 : (Lit.int .i64 hop).wf = true) (_w2 : (Lit.int .i64 sent).wf = true) : ∃ r1 r2, Ev (fun k => spec_LastStop.f k xs hop sent) (r1, r2) ∧ Ev (fun k => impl_LastStop.f k xs hop sent) (r1, r2) :=
  ⟨_, _, spec_LastStop_ev xs hn hop sent, impl_LastStop_ev xs hop sent⟩

def hopM (xs : List S63) (b : Int) : Nat → Int × Int
  | 0 => (0, 4)
  | n + 1 => if lastS xs ((n + 1 : Nat) : Int) 0 ≤ b then (((n + 1 : Nat) : Int), 0) else hopM xs b n
theorem spec_hop_loop {xs : List S63} (hx : areMods xs = true) (b : Int) : ∀ n : Nat, n ≤ 10 → Ev (fun k => spec_GreatestHop.l0 k xs b (n : Int)) (hopM xs b n) := by
  have hl := ((areMods_iff xs).1 hx).1
  intro n
  induction n with
  | zero => intro _; exact Ev_succ (by simp only [spec_GreatestHop.l0]; exact Ev_neg (by omega) (Ev.now _))
  | succ n ih =>
    intro hn
    refine Ev_succ (by
      simp only [spec_GreatestHop.l0]
      refine Ev_pos (by omega) (Ev.bind (spec_LastStop_ev xs (by omega) _ 0) ?_)
      have e : codeS xs ((n + 1 : Nat) : Int) 0 = 0 := by
        unfold codeS
        rw [if_pos hx, if_pos (show (1 ≤ ((n + 1 : Nat) : Int) ∧ ((n + 1 : Nat) : Int) ≤ 10) ∧ (0 : Int) ≤ 0 ∧ (0 : Int) ≤ 100000 by omega)]
      rw [if_pos e]
      unfold hopM
      refine Ev_ite (fun h => by rw [if_pos h]; exact Ev.now _) (fun h => ?_)
      rw [if_neg h, w64 (by omega) (by omega), show ((n + 1 : Nat) : Int) - 1 = (n : Int) by omega]
      exact ih (by omega))
theorem impl_hop_loop {xs : List S63} (hx : areMods xs = true) (b : Int) : ∀ n : Nat, n ≤ 10 → Ev (fun k => impl_GreatestHop.l0 k xs b (n : Int)) (hopM xs b n) := by
  intro n
  induction n with
  | zero => intro _; exact Ev_succ (by simp only [impl_GreatestHop.l0]; exact Ev_neg (by omega) (Ev.now _))
  | succ n ih =>
    intro hn
    refine Ev_succ (by
      simp only [impl_GreatestHop.l0]
      refine Ev_pos (by omega) (Ev.bind (impl_lastStop_ev hx (by omega) (by omega)) ?_)
      unfold hopM
      refine Ev_ite (fun h => by rw [if_pos h]; exact Ev.now _) (fun h => ?_)
      rw [if_neg h, w64 (by omega) (by omega), show ((n + 1 : Nat) : Int) - 1 = (n : Int) by omega]
      exact ih (by omega))
theorem core_FnExactGreatestHop (xs : List S63) (b : Int) (hn : xs.length ≤ 1000000) (_w1 : (Lit.int .i64 b).wf = true) : ∃ r1 r2, Ev (fun k => spec_GreatestHop.f k xs b) (r1, r2) ∧ Ev (fun k => impl_GreatestHop.f k xs b) (r1, r2) := by
  by_cases hx : areMods xs = true
  · by_cases hb : 0 ≤ b ∧ b ≤ 1000
    · refine ⟨(hopM xs b 10).1, (hopM xs b 10).2, ?_, ?_⟩
      · unfold spec_GreatestHop.f
        refine Ev.bind (spec_AreModules_ev xs hn) (Ev_pos hx ?_)
        rw [l01In_eq]
        simp only [Option.bind_some]
        exact Ev_pos (decide_eq_true hb) (spec_hop_loop hx b 10 (by omega))
      · unfold impl_GreatestHop.f
        refine Ev.bind (impl_AreModules_ev xs) (Ev_pos hx ?_)
        rw [within_eq]
        simp only [Option.bind_some]
        exact Ev_pos (decide_eq_true hb) (impl_hop_loop hx b 10 (by omega))
    · refine ⟨0, 2, ?_, ?_⟩
      · unfold spec_GreatestHop.f
        refine Ev.bind (spec_AreModules_ev xs hn) (Ev_pos hx ?_)
        rw [l01In_eq]
        simp only [Option.bind_some]
        exact Ev_neg (by simpa using hb) (Ev.now _)
      · unfold impl_GreatestHop.f
        refine Ev.bind (impl_AreModules_ev xs) (Ev_pos hx ?_)
        rw [within_eq]
        simp only [Option.bind_some]
        exact Ev_neg (by simpa using hb) (Ev.now _)
  · refine ⟨0, 1, ?_, ?_⟩
    · unfold spec_GreatestHop.f
      exact Ev.bind (spec_AreModules_ev xs hn) (Ev_neg hx (Ev.now _))
    · unfold impl_GreatestHop.f
      exact Ev.bind (impl_AreModules_ev xs) (Ev_neg hx (Ev.now _))

def stopStep (xs : List S63) (hop sent t : Int) (o : List Int) (i : Int) : (List Int × Int) ⊕ List Int := .inr (if tickS xs hop sent i ≤ t then o ++ [i] else o)
def stoppedM (xs : List S63) (hop sent t : Int) : List Int × Int :=
  if areMods xs = true then (if ((1 ≤ hop ∧ hop ≤ 10) ∧ 0 ≤ sent ∧ sent ≤ 100000) ∧ 0 ≤ t ∧ t ≤ 100000 then forM (stopStep xs hop sent t) (fun o => (o, (0 : Int))) xs.length [] 0 else ([], 2)) else ([], 1)
theorem stop_len {o : List Int} {i : Int} {b : Prop} [Decidable b] (h : (o.length : Int) ≤ i) : ((if b then o ++ [i] else o).length : Int) ≤ i + 1 := by
  split
  · rw [List.length_append]; simp; omega
  · omega
theorem spec_Stopped_ev (xs : List S63) (hn : xs.length ≤ 1000000) (hop sent t : Int) : Ev (fun k => spec_StoppedModules.f k xs hop sent t) (stoppedM xs hop sent t) := by
  unfold spec_StoppedModules.f stoppedM
  refine Ev.bind (l23Code_ev xs hn hop sent) ?_
  rw [l01In_eq]
  simp only [Option.bind_some]
  refine Ev_ite (fun h => ?_) (fun h => ?_)
  · obtain ⟨hx, hh, hs⟩ := codeS_0 h
    rw [if_pos hx, h]
    by_cases ht : 0 ≤ t ∧ t ≤ 100000
    · rw [if_pos ⟨⟨hh, hs⟩, ht⟩, decide_eq_true ht]
      refine Ev_succ (by
        simp only [spec_StoppedModules.j0, Bool.not_true, Bool.false_eq_true, if_false]
        refine Ev_succ (by
          simp only [spec_StoppedModules.j1, if_true]
          exact Ev_for2 (F := fun k o i => spec_StoppedModules.l0 k xs hop sent t o i) (n := xs.length) (fun o i => (o.length : Int) ≤ i)
            (fun s hI => Ev_succ (by
              simp only [spec_StoppedModules.l0]
              exact Ev_neg (by omega) (Ev.now _)))
            (fun s i h0 h1 hI => .inr ⟨_, rfl, stop_len hI, fun r hr => Ev_succ (by
              simp only [spec_StoppedModules.l0]
              refine Ev_pos h1 (Ev.bind (spec_tick_ev hx hh hs h1) ?_)
              rw [w64 (by omega) (by omega)]
              exact Ev_ite (fun hc => by rw [if_pos hc] at hr; exact Ev_pos (by omega) hr) (fun hc => by rw [if_neg hc] at hr; exact hr))⟩) xs.length [] 0 (by omega) (by omega) (by simp)))
    · rw [if_neg (fun q => ht q.2), decide_eq_false ht]
      refine Ev_succ (by
        simp only [spec_StoppedModules.j0, Bool.not_false, if_true]
        refine Ev_succ (by
          simp only [spec_StoppedModules.j1]
          exact Ev_neg (by decide) (Ev.now _)))
  · refine Ev_succ (by
      simp only [spec_StoppedModules.j0, Bool.false_eq_true, if_false]
      refine Ev_succ (by
        simp only [spec_StoppedModules.j1]
        refine Ev_neg h (Ev_some ?_)
        unfold codeS at h ⊢
        by_cases hx : areMods xs = true
        · rw [if_pos hx] at h ⊢
          rw [if_pos hx]
          by_cases h2 : (1 ≤ hop ∧ hop ≤ 10) ∧ 0 ≤ sent ∧ sent ≤ 100000
          · rw [if_pos h2] at h; exact absurd rfl h
          · rw [if_neg h2, if_neg (fun q => h2 q.1)]
        · rw [if_neg hx, if_neg hx]))
theorem impl_Stopped_ev (xs : List S63) (hop sent t : Int) : Ev (fun k => impl_StoppedModules.f k xs hop sent t) (stoppedM xs hop sent t) := by
  unfold impl_StoppedModules.f stoppedM
  have hno : ∀ r, r = (([] : List Int), (2 : Int)) → Ev (fun k => impl_StoppedModules.j0 k xs hop sent t true) r := fun r h => Ev_succ (by
    simp only [impl_StoppedModules.j0, if_true]
    exact Ev_some h.symm)
  refine Ev.bind (impl_AreModules_ev xs) (Ev_ite (fun hx => ?_) (fun hx => by rw [if_neg hx]; exact Ev.now _))
  have hn := ((areMods_iff xs).1 hx).1
  rw [if_pos hx]
  simp only [isHop_eq, isTick_eq, Option.bind_some, decide_eq_true_eq]
  refine Ev_ite (fun hh => Ev_ite (fun hs => ?_) (fun hs => hno _ (if_neg (fun q => hs q.1.2)))) (fun hh => hno _ (if_neg (fun q => hh q.1.1)))
  by_cases ht : 0 ≤ t ∧ t ≤ 100000
  · rw [if_pos ⟨⟨hh, hs⟩, ht⟩, decide_eq_true ht]
    refine Ev_succ (by
      simp only [impl_StoppedModules.j0, Bool.not_true, Bool.false_eq_true, if_false]
      exact Ev_for2 (F := fun k o i => impl_StoppedModules.l0 k xs hop sent t o (xs.length : Int) i) (n := xs.length) (fun o i => (o.length : Int) ≤ i)
        (fun s hI => Ev_succ (by
          simp only [impl_StoppedModules.l0]
          exact Ev_neg (by omega) (Ev.now _)))
        (fun s i h0 h1 hI => .inr ⟨_, rfl, stop_len hI, fun r hr => Ev_succ (by
          simp only [impl_StoppedModules.l0]
          refine Ev_pos h1 (Ev.bind (impl_tick_ev hx hh hs h1) ?_)
          rw [w64 (by omega) (by omega)]
          exact Ev_ite (fun hc => by rw [if_pos hc] at hr; exact Ev_pos (by omega) hr) (fun hc => by rw [if_neg hc] at hr; exact hr))⟩) xs.length [] 0 (by omega) (by omega) (by simp))
  · rw [if_neg (fun q => ht q.2), decide_eq_false ht]
    exact hno _ rfl
theorem stoppedM_length (xs : List S63) (hop sent t : Int) : (stoppedM xs hop sent t).1.length ≤ 12 := by
  unfold stoppedM
  split
  · rename_i hx
    have hn := ((areMods_iff xs).1 hx).1
    split
    · exact forM_ind (step := stopStep xs hop sent t) (out := fun o => (o, (0 : Int))) (n := xs.length) (fun o i => (o.length : Int) ≤ i) (fun r => r.1.length ≤ 12) (fun o hI => by simp only; omega) (fun o i h0 h1 hI => ⟨(fun r hr => by cases hr), fun s' hs => by
        injection hs with hs
        subst hs
        exact stop_len hI⟩) xs.length [] 0 (by omega) (by omega) (by simp)
    · simp
  · simp
theorem core_FnExactStoppedModules (xs : List S63) (hop sent t : Int) (hn : xs.length ≤ 1000000) (_w1 : (Lit.int .i64 hop).wf = true) (_w2 : (Lit.int .i64 sent).wf = true) (_w3 : (Lit.int .i64 t).wf = true) : ∃ r1 r2, Ev (fun k => spec_StoppedModules.f k xs hop sent t) (r1, r2) ∧ Ev (fun k => impl_StoppedModules.f k xs hop sent t) (r1, r2) ∧ r1.length ≤ 12 :=
  ⟨_, _, spec_Stopped_ev xs hn hop sent t, impl_Stopped_ev xs hop sent t, stoppedM_length xs hop sent t⟩

theorem isIndex_eq (i : Int) (n : Nat) (hn : n ≤ 9000000000000000000) : impl_isIndex.f i (n : Int) = some (decide (0 ≤ i ∧ i ≤ (n : Int) - 1)) := by
  unfold impl_isIndex.f; rw [w64 (by omega) (by omega), within_eq]; rfl

theorem wayM_pos {xs : List S63} {m : Int} (h0 : 0 ≤ m) (h1 : m < xs.length) : 1 ≤ (wayM xs xs.length m []).length := by
  obtain ⟨d, hd⟩ : ∃ d, xs.length = d + 1 := ⟨xs.length - 1, by omega⟩
  rw [hd]
  unfold wayM
  rw [if_pos h0]
  have := (wayM_length xs d (rd_T63 xs m).f0 ([] ++ [m])).1
  simpa using this
theorem tick_parts {xs : List S63} (hx : areMods xs = true) {hop m : Int} (hh : 1 ≤ hop ∧ hop ≤ 10) (h0 : 0 ≤ m) (h1 : m < xs.length) (sent : Int) : ∃ l : Int, l = ((wayM xs xs.length m []).length : Int) - 1 ∧ 0 ≤ l ∧ l ≤ 11 ∧ 0 ≤ hop * l ∧ hop * l ≤ 110 ∧ tickS xs hop sent m = sent + hop * l := by
  have hn := ((areMods_iff xs).1 hx).1
  have hl := wayM_length xs xs.length m []
  have hp := wayM_pos h0 h1
  refine ⟨((wayM xs xs.length m []).length : Int) - 1, rfl, by omega, by simp at hl; omega, ?_, ?_, rfl⟩
  · exact Int.mul_nonneg (by omega) (by omega)
  · have hb : ((wayM xs xs.length m []).length : Int) - 1 ≤ 11 := by simp at hl; omega
    have h2 : hop * (((wayM xs xs.length m []).length : Int) - 1) ≤ hop * 11 := Int.mul_le_mul_of_nonneg_left hb (by omega)
    omega
def codeM (xs : List S63) (hop sent m : Int) : Int := if areMods xs = true then (if ((1 ≤ hop ∧ hop ≤ 10) ∧ 0 ≤ sent ∧ sent ≤ 100000) ∧ 0 ≤ m ∧ m ≤ (xs.length : Int) - 1 then 0 else 2) else 1
theorem codeM_0 {xs : List S63} {hop sent m : Int} (h : codeM xs hop sent m = 0) : areMods xs = true ∧ (1 ≤ hop ∧ hop ≤ 10) ∧ (0 ≤ sent ∧ sent ≤ 100000) ∧ 0 ≤ m ∧ m < xs.length := by
  unfold codeM at h
  by_cases h1 : areMods xs = true
  · rw [if_pos h1] at h
    by_cases h2 : ((1 ≤ hop ∧ hop ≤ 10) ∧ 0 ≤ sent ∧ sent ≤ 100000) ∧ 0 ≤ m ∧ m ≤ (xs.length : Int) - 1
    · exact ⟨h1, h2.1.1, h2.1.2, h2.2.1, by omega⟩
    · rw [if_neg h2] at h; exact absurd h (by decide)
  · rw [if_neg h1] at h; exact absurd h (by decide)
theorem codeM_of {xs : List S63} {hop sent m : Int} (h : areMods xs = true) (h1 : 1 ≤ hop ∧ hop ≤ 10) (h2 : 0 ≤ sent ∧ sent ≤ 100000) (h3 : 0 ≤ m) (h4 : m < xs.length) : codeM xs hop sent m = 0 := by
  unfold codeM
  rw [if_pos h, if_pos ⟨⟨h1, h2⟩, h3, by omega⟩]
theorem codeM_1 {xs : List S63} {hop sent m : Int} (h : ¬ areMods xs = true) : codeM xs hop sent m = 1 := by unfold codeM; rw [if_neg h]
theorem codeM_2 {xs : List S63} {hop sent m : Int} (h : areMods xs = true) (h2 : ¬ (((1 ≤ hop ∧ hop ≤ 10) ∧ 0 ≤ sent ∧ sent ≤ 100000) ∧ 0 ≤ m ∧ m ≤ (xs.length : Int) - 1)) : codeM xs hop sent m = 2 := by unfold codeM; rw [if_pos h, if_neg h2]
theorem l12CodeM_ev (xs : List S63) (hn : xs.length ≤ 1000000) (m : Int) : Ev (fun k => spec_l12Code.f k xs m) (if areMods xs = true then (if 0 ≤ m ∧ m ≤ (xs.length : Int) - 1 then 0 else 2) else 1) := by
  unfold spec_l12Code.f
  refine Ev.bind (spec_AreModules_ev xs hn) (Ev_ite (fun h => ?_) (fun h => by rw [if_neg h]; exact Ev.now _))
  have h2 := ((areMods_iff xs).1 h).1
  rw [if_pos h, l01In_eq, w64 (by omega) (by omega)]
  simp only [Option.bind_some, decide_eq_true_eq]
  exact Ev_ite (fun h => by rw [if_pos h]; exact Ev.now _) (fun h => by rw [if_neg h]; exact Ev.now _)
theorem l23CodeM_ev (xs : List S63) (hn : xs.length ≤ 1000000) (hop sent m : Int) : Ev (fun k => spec_l23Code.f k xs hop sent m) (codeM xs hop sent m) := by
  have h12 := l12CodeM_ev xs hn m
  unfold spec_l23Code.f
  by_cases hx : areMods xs = true
  · rw [if_pos hx] at h12
    by_cases h3 : 0 ≤ m ∧ m ≤ (xs.length : Int) - 1
    · rw [if_pos h3] at h12
      refine Ev.bind h12 (Ev_pos rfl ?_)
      rw [l01In_eq, l01In_eq]
      simp only [Option.bind_some]
      exact Ev_ite (fun h4 => Ev_ite (fun h5 => Ev_some (codeM_of hx (of_decide_eq_true h4) (of_decide_eq_true h5) h3.1 (by omega)).symm) (fun h5 => Ev_some (codeM_2 hx (fun q => h5 (decide_eq_true q.1.2))).symm)) (fun h4 => Ev_some (codeM_2 hx (fun q => h4 (decide_eq_true q.1.1))).symm)
    · rw [if_neg h3] at h12
      exact Ev.bind h12 (Ev_neg (by decide) (Ev_some (codeM_2 hx (fun q => h3 q.2)).symm))
  · rw [if_neg hx] at h12
    exact Ev.bind h12 (Ev_neg (by decide) (Ev_some (codeM_1 hx).symm))
def stopTickM (xs : List S63) (hop sent m : Int) : Int × Int := if codeM xs hop sent m = 0 then (tickS xs hop sent m, 0) else (0, codeM xs hop sent m)
theorem spec_StopTick_ev (xs : List S63) (hn : xs.length ≤ 1000000) (hop sent m : Int) : Ev (fun k => spec_StopTick.f k xs hop sent m) (stopTickM xs hop sent m) := by
  unfold spec_StopTick.f stopTickM
  refine Ev.bind (l23CodeM_ev xs hn hop sent m) (Ev_ite (fun h => ?_) (fun h => by rw [if_neg h]; exact Ev.now _))
  rw [if_pos h]
  obtain ⟨hx, hh, hs, h0, h1⟩ := codeM_0 h
  exact Ev.bind (spec_tick_ev hx hh hs h1) (Ev.now _)
theorem stopTickM_no {xs : List S63} {hop sent m c : Int} (h : codeM xs hop sent m = c) (hc : ¬ c = 0) : stopTickM xs hop sent m = (0, c) := by unfold stopTickM; rw [h, if_neg hc]
theorem impl_StopTick_ev (xs : List S63) (hop sent m : Int) : Ev (fun k => impl_StopTick.f k xs hop sent m) (stopTickM xs hop sent m) := by
  unfold impl_StopTick.f
  refine Ev.bind (impl_AreModules_ev xs) (Ev_ite (fun hx => ?_) (fun hx => by rw [stopTickM_no (codeM_1 hx) (by decide)]; exact Ev.now _))
  have hn := ((areMods_iff xs).1 hx).1
  rw [isHop_eq, isTick_eq, isIndex_eq m xs.length (by omega)]
  simp only [Option.bind_some]
  refine Ev_ite (fun h1 => Ev_ite (fun h2 => Ev_ite (fun h3 => ?_) (fun h3 => ?_)) (fun h2 => ?_)) (fun h1 => ?_)
  · have h1' := of_decide_eq_true h1
    have h2' := of_decide_eq_true h2
    have h3' := of_decide_eq_true h3
    unfold stopTickM
    rw [if_pos (codeM_of hx h1' h2' h3'.1 (by omega))]
    exact Ev.bind (impl_tick_ev hx h1' h2' (by omega)) (Ev.now _)
  · rw [stopTickM_no (codeM_2 hx (fun q => h3 (decide_eq_true q.2))) (by decide)]; exact Ev.now _
  · rw [stopTickM_no (codeM_2 hx (fun q => h2 (decide_eq_true q.1.2))) (by decide)]; exact Ev.now _
  · rw [stopTickM_no (codeM_2 hx (fun q => h1 (decide_eq_true q.1.1))) (by decide)]; exact Ev.now _
def latestM (xs : List S63) (hop m t : Int) : Int × Int := if codeM xs hop t m = 0 then (if t - tickS xs hop 0 m < 0 then (0, 4) else (t - tickS xs hop 0 m, 0)) else (0, codeM xs hop t m)
theorem spec_Latest_ev (xs : List S63) (hn : xs.length ≤ 1000000) (hop m t : Int) : Ev (fun k => spec_LatestSending.f k xs hop m t) (latestM xs hop m t) := by
  unfold spec_LatestSending.f latestM
  refine Ev.bind (l23CodeM_ev xs hn hop t m) (Ev_ite (fun h => ?_) (fun h => by rw [if_neg h]; exact Ev.now _))
  rw [if_pos h]
  obtain ⟨hx, hh, hs, h0, h1⟩ := codeM_0 h
  obtain ⟨l, _, hl0, hl1, hl2, hl3, hl4⟩ := tick_parts hx hh h0 h1 0
  refine Ev.bind (spec_tick_ev hx hh (by omega) h1) ?_
  rw [w64 (by omega) (by omega)]
  exact Ev_ite (fun h2 => by rw [if_pos h2]; exact Ev.now _) (fun h2 => by rw [if_neg h2]; exact Ev.now _)
theorem latestM_no {xs : List S63} {hop m t c : Int} (h : codeM xs hop t m = c) (hc : ¬ c = 0) : latestM xs hop m t = (0, c) := by unfold latestM; rw [h, if_neg hc]
theorem impl_Latest_ev (xs : List S63) (hop m t : Int) : Ev (fun k => impl_LatestSending.f k xs hop m t) (latestM xs hop m t) := by
  unfold impl_LatestSending.f
  have hj : ∀ r, r = ((0 : Int), (2 : Int)) → Ev (fun k => impl_LatestSending.j0 k xs hop m t true) r := fun r h => Ev_succ (by
    simp only [impl_LatestSending.j0, if_true]
    exact Ev_some h.symm)
  refine Ev.bind (impl_AreModules_ev xs) (Ev_ite (fun hx => ?_) (fun hx => by rw [latestM_no (codeM_1 hx) (by decide)]; exact Ev.now _))
  have hn := ((areMods_iff xs).1 hx).1
  rw [isHop_eq, isTick_eq, isIndex_eq m xs.length (by omega)]
  simp only [Option.bind_some]
  refine Ev_ite (fun h1 => Ev_ite (fun h2 => ?_) (fun h2 => hj _ (latestM_no (codeM_2 hx (fun q => h2 (decide_eq_true q.2))) (by decide)))) (fun h1 => hj _ (latestM_no (codeM_2 hx (fun q => h1 (decide_eq_true q.1.1))) (by decide)))
  have h1' := of_decide_eq_true h1
  have h2' := of_decide_eq_true h2
  by_cases h3 : 0 ≤ t ∧ t ≤ 100000
  · rw [decide_eq_true h3]
    unfold latestM
    rw [if_pos (codeM_of hx h1' h3 h2'.1 (by omega))]
    obtain ⟨l, _, hl0, hl1, hl2, hl3, hl4⟩ := tick_parts hx h1' h2'.1 (show m < xs.length by omega) 0
    refine Ev_succ (by
      simp only [impl_LatestSending.j0, Bool.not_true, Bool.false_eq_true, if_false]
      refine Ev.bind (impl_tick_ev hx h1' (by omega) (by omega)) ?_
      rw [w64 (by omega) (by omega)]
      exact Ev_ite (fun h2 => by rw [if_pos h2]; exact Ev.now _) (fun h2 => by rw [if_neg h2]; exact Ev.now _))
  · rw [decide_eq_false h3]
    exact hj _ (latestM_no (codeM_2 hx (fun q => h3 q.1.2)) (by decide))
def greatM (xs : List S63) (b : Int) : Int × Int := if areMods xs = true then (if 0 ≤ b ∧ b ≤ 1000 then hopM xs b 10 else (0, 2)) else (0, 1)
theorem spec_Great_ev (xs : List S63) (hn : xs.length ≤ 1000000) (b : Int) : Ev (fun k => spec_GreatestHop.f k xs b) (greatM xs b) := by
  unfold spec_GreatestHop.f greatM
  refine Ev.bind (spec_AreModules_ev xs hn) (Ev_ite (fun hx => ?_) (fun hx => by rw [if_neg hx]; exact Ev.now _))
  rw [if_pos hx, l01In_eq]
  simp only [Option.bind_some, decide_eq_true_eq]
  exact Ev_ite (fun hb => by rw [if_pos hb]; exact spec_hop_loop hx b 10 (by omega)) (fun hb => by rw [if_neg hb]; exact Ev.now _)
theorem impl_Great_ev (xs : List S63) (b : Int) : Ev (fun k => impl_GreatestHop.f k xs b) (greatM xs b) := by
  unfold impl_GreatestHop.f greatM
  refine Ev.bind (impl_AreModules_ev xs) (Ev_ite (fun hx => ?_) (fun hx => by rw [if_neg hx]; exact Ev.now _))
  rw [if_pos hx, within_eq]
  simp only [Option.bind_some, decide_eq_true_eq]
  exact Ev_ite (fun hb => by rw [if_pos hb]; exact impl_hop_loop hx b 10 (by omega)) (fun hb => by rw [if_neg hb]; exact Ev.now _)
theorem hopM_spec {xs : List S63} {b : Int} : ∀ n : Nat, (hopM xs b n).2 = 0 → 1 ≤ (hopM xs b n).1 ∧ (hopM xs b n).1 ≤ n ∧ lastS xs (hopM xs b n).1 0 ≤ b ∧ ((hopM xs b n).1 < n → b < lastS xs ((hopM xs b n).1 + 1) 0) := by
  intro n
  induction n with
  | zero => intro h; simp [hopM] at h
  | succ n ih =>
    intro h
    unfold hopM at h ⊢
    by_cases hl : lastS xs ((n + 1 : Nat) : Int) 0 ≤ b
    · rw [if_pos hl]
      exact ⟨by simp only; omega, by simp only; omega, hl, fun q => by simp only at q; omega⟩
    · rw [if_neg hl] at h ⊢
      obtain ⟨h1, h2, h3, h4⟩ := ih h
      refine ⟨h1, by omega, h3, fun q => ?_⟩
      by_cases hq : (hopM xs b n).1 < n
      · exact h4 hq
      · have e : (hopM xs b n).1 + 1 = ((n + 1 : Nat) : Int) := by omega
        rw [e]
        omega
theorem stop_mem {xs : List S63} {hop sent t v : Int} : ∀ (d : Nat) (s : List Int) (i : Int), 0 ≤ i → i + d = xs.length → (v ∈ (forM (stopStep xs hop sent t) (fun o => (o, (0 : Int))) d s i).1 ↔ v ∈ s ∨ (i ≤ v ∧ v < xs.length ∧ tickS xs hop sent v ≤ t)) := by
  intro d
  induction d with
  | zero =>
    intro s i h0 h1
    simp only [forM]
    exact ⟨fun h => .inl h, fun h => h.elim id (fun h => by omega)⟩
  | succ d ih =>
    intro s i h0 h1
    simp only [forM, stopStep]
    rw [ih _ (i + 1) (by omega) (by omega)]
    by_cases hc : tickS xs hop sent i ≤ t
    · rw [if_pos hc, List.mem_append, List.mem_singleton]
      constructor
      · rintro ((h | h) | h)
        · exact .inl h
        · subst h; exact .inr ⟨by omega, by omega, hc⟩
        · exact .inr ⟨by omega, h.2⟩
      · rintro (h | h)
        · exact .inl (.inl h)
        · by_cases hv : v = i
          · exact .inl (.inr hv)
          · exact .inr ⟨by omega, h.2⟩
    · rw [if_neg hc]
      constructor
      · rintro (h | h)
        · exact .inl h
        · exact .inr ⟨by omega, h.2⟩
      · rintro (h | h)
        · exact .inl h
        · refine .inr ⟨?_, h.2⟩
          by_cases hv : v = i
          · subst hv; exact absurd h.2.2 hc
          · omega

/-- The source of the draws: the code's bytes, the place in it, the seed. -/
def Rd (c : List Int) (i seed : Int) : Prop := (∀ b ∈ c, 0 ≤ b ∧ b ≤ 255) ∧ c.length ≤ 4096 ∧ 0 ≤ i ∧ i ≤ c.length ∧ 0 ≤ seed ∧ seed < 2147483647
theorem rd_byte {c : List Int} (hc : ∀ b ∈ c, 0 ≤ b ∧ b ≤ 255) (i : Int) : 0 ≤ rd c i ∧ rd c i ≤ 255 := by
  unfold rd
  by_cases h : i.toNat < c.length
  · rw [List.getD_eq_getElem?_getD, List.getElem?_eq_getElem h]
    exact hc _ (List.getElem_mem h)
  · rw [List.getD_eq_getElem?_getD, List.getElem?_eq_none (by omega)]
    simp
theorem next_tells {c : List Int} {i seed : Int} (hr : Rd c i seed) (n : Int) (hn : n ≤ 4000000000000000000) : ∃ x i' s', spec_l01Next.f c i seed n = some (x, i', s') ∧ Rd c i' s' ∧ 0 ≤ x ∧ (1 ≤ n → x < n) := by
  obtain ⟨hc, hl, h0, h1, h2, h3⟩ := hr
  have e1 : wrap64 (wrap64 (seed * 48271) + 29) = seed * 48271 + 29 := by rw [w64 (x := seed * 48271) (by omega) (by omega), w64 (by omega) (by omega)]
  have e2 : Int.tmod (seed * 48271 + 29) 2147483647 = (seed * 48271 + 29) % 2147483647 := Int.tmod_eq_emod_of_nonneg (by omega)
  obtain ⟨s1, hs1⟩ : ∃ s1, s1 = (seed * 48271 + 29) % 2147483647 := ⟨_, rfl⟩
  have b0 : 0 ≤ s1 ∧ s1 < 2147483647 := by omega
  have e3 : wrap64 (Int.tdiv s1 31) = s1 / 31 := by
    rw [Int.tdiv_eq_ediv_of_nonneg b0.1]; exact w64 (by omega) (by omega)
  unfold spec_l01Next.f
  rw [e1, e2, ← hs1, e3]
  by_cases hn1 : n ≤ 1
  · rw [if_pos hn1]
    exact ⟨0, i, seed, rfl, ⟨hc, hl, h0, h1, h2, h3⟩, by omega, by omega⟩
  · rw [if_neg hn1]
    have hm : ∀ x : Int, 0 ≤ x → 0 ≤ Int.tmod x n ∧ Int.tmod x n < n := fun x hx => by
      rw [Int.tmod_eq_emod_of_nonneg hx]
      exact ⟨Int.emod_nonneg x (by omega), Int.emod_lt_of_pos x (by omega)⟩
    by_cases hi : i < (c.length : Int)
    · have hb := rd_byte hc i
      have w1 : wrap64 (i + 1) = i + 1 := w64 (by omega) (by omega)
      have w2 : wrap64 (i + 1 - 1) = i := by rw [w64 (by omega) (by omega)]; omega
      have w3 : wrap64 (rd c i) = rd c i := w64 (by omega) (by omega)
      have w4 : wrap64 (s1 / 31 + rd c i) = s1 / 31 + rd c i := w64 (by omega) (by omega)
      rw [if_pos hi, if_pos h0, w1, w2, w3, w4]
      have r1 := hm (rd c i) hb.1
      have r2 := hm (s1 / 31 + rd c i) (by omega)
      have hR : Rd c (i + 1) s1 := ⟨hc, hl, by omega, by omega, b0.1, b0.2⟩
      by_cases h256 : n ≤ 256
      · rw [if_pos h256]
        by_cases ht : Int.tmod (i + 1) 2 = 0
        · rw [if_pos ht, if_pos h0, if_pos hi, if_neg (by omega)]
          exact ⟨_, _, _, rfl, hR, r1.1, fun _ => r1.2⟩
        · rw [if_neg ht, if_neg (by omega)]
          exact ⟨_, _, _, rfl, hR, r2.1, fun _ => r2.2⟩
      · rw [if_neg h256, if_neg (by omega)]
        exact ⟨_, _, _, rfl, hR, r2.1, fun _ => r2.2⟩
    · have r3 := hm (s1 / 31) (by omega)
      rw [if_neg hi, if_neg (by omega)]
      exact ⟨_, _, _, rfl, ⟨hc, hl, h0, h1, b0.1, b0.2⟩, r3.1, fun _ => r3.2⟩
theorem from_tells (c : List Int) (hc : ∀ b ∈ c, 0 ≤ b ∧ b ≤ 255) (hl : c.length ≤ 4096) : ∃ seed, Ev (fun k => spec_l01From.f k c) (c, 0, seed) ∧ Rd c 0 seed := by
  have h := Ev_for (F := fun k s i => spec_l01From.l0 k c i c 0 s) (step := fun s i => if i < 64 then .inr ((s * 83 + rd c i) % 2147483647) else .inl (c, 0, s)) (out := fun s => (c, 0, s)) (n := c.length) (fun s i => 0 ≤ s ∧ s < 2147483647)
    (fun s hI => ⟨1, fun k hk => by
      obtain ⟨k, rfl⟩ : ∃ m, k = m + 1 := ⟨k - 1, by omega⟩
      simp only [spec_l01From.l0]
      rw [if_neg (by omega)]⟩)
    (fun s i h0 h1 hI => by
      have hb := rd_byte hc i
      by_cases h64 : i < 64
      · refine .inr ⟨_, if_pos h64, by omega, 0, fun k _ => ?_⟩
        simp only [spec_l01From.l0]
        rw [if_pos h1, if_pos h64, if_pos h0, w64 (x := i + 1) (by omega) (by omega), w64 (x := s * 83) (by omega) (by omega), w64 (x := rd c i) (by omega) (by omega), w64 (by omega) (by omega), Int.tmod_eq_emod_of_nonneg (by omega)]
      · refine .inl ⟨_, if_neg h64, 1, fun k hk => ?_⟩
        obtain ⟨k, rfl⟩ : ∃ m, k = m + 1 := ⟨k - 1, by omega⟩
        simp only [spec_l01From.l0]
        rw [if_pos h1, if_neg h64]) c.length 61043 0 (by omega) (by omega) (by omega)
  have h2 := forM_ind (step := fun s i => if i < 64 then .inr ((s * 83 + rd c i) % 2147483647) else .inl (c, 0, s)) (out := fun s => (c, (0 : Int), s)) (n := c.length) (fun s _ => 0 ≤ s ∧ s < 2147483647) (fun r => ∃ s, r = (c, (0 : Int), s) ∧ 0 ≤ s ∧ s < 2147483647) (fun s hI => ⟨s, rfl, hI⟩)
    (fun s i h0 h1 hI => ⟨fun r hr => by
        split at hr
        · cases hr
        · injection hr with hr
          exact ⟨s, hr.symm, hI⟩, fun s' hr => by
        split at hr
        · injection hr with hr
          omega
        · cases hr⟩) c.length 61043 0 (by omega) (by omega) (by omega)
  obtain ⟨s, hs, hb⟩ := h2
  refine ⟨s, ?_, hc, hl, by omega, by omega, hb.1, hb.2⟩
  rw [hs] at h
  exact h
/-- What a statement over a code knows of its bytes. -/
theorem bytes_of {c : List Int} (h : ∀ x ∈ c, (Lit.int .u8 x).wf = true) : ∀ b ∈ c, 0 ≤ b ∧ b ≤ 255 := fun b hb => by
  have h := h b hb
  simp [Lit.wf, IntKind.min, IntKind.max, IntKind.bits, IntKind.signed] at h
  omega
theorem big_eq (c : List Int) : laws_big.f c = some (decide (c.length > 4096)) := by
  unfold laws_big.f
  congr 1
  rw [decide_eq_decide]
  omega

theorem pick_tells {c : List Int} {i seed : Int} (hr : Rd c i seed) (l : List Int) (h0 : 0 < l.length) (hl : l.length ≤ 1000) : ∃ x i' s', spec_l01Pick.f c i seed l = some (x, i', s') ∧ Rd c i' s' ∧ x ∈ l := by
  obtain ⟨x, i', s', h1, h2, h3, h4⟩ := next_tells hr (l.length : Int) (by omega)
  have h4 := h4 (by omega)
  unfold spec_l01Pick.f
  rw [h1]
  simp only [Option.bind_some]
  rw [if_pos h3, if_pos h4]
  refine ⟨_, _, _, rfl, h2, ?_⟩
  unfold rd
  rw [List.getD_eq_getElem?_getD, List.getElem?_eq_getElem (show x.toNat < l.length by omega)]
  exact List.getElem_mem _

theorem good12_l0 (c : List Int) (d : Nat) : ∀ (xs : List S63) (n i seed : Int), Rd c i seed → n ≤ d → d ≤ 10 → 1 ≤ xs.length → xs.length + d ≤ 20 → ∃ ys i' s', Ev (fun k => spec_l12Good.l0 k xs n c i seed) (ys, i', s') ∧ Rd c i' s' ∧ 1 ≤ ys.length ∧ ys.length ≤ 20 := by
  induction d with
  | zero =>
    intro xs n i seed hr hn hd h1 hx
    refine ⟨xs, i, seed, Ev_succ (by simp only [spec_l12Good.l0]; exact Ev_neg (by omega) (Ev.now _)), hr, h1, by omega⟩
  | succ d ih =>
    intro xs n i seed hr hn hd h1 hx
    by_cases hp : n > 0
    · obtain ⟨x, i1, s1, e1, r1, _⟩ := next_tells hr (xs.length : Int) (by omega)
      obtain ⟨y, i2, s2, e2, r2, _⟩ := next_tells r1 6 (by omega)
      obtain ⟨ys, i3, s3, h3, r3, hl⟩ := ih (xs ++ [⟨x, y⟩]) (n - 1) i2 s2 r2 (by omega) (by omega) (by simp) (by simp; omega)
      refine ⟨ys, i3, s3, Ev_succ (by
        simp only [spec_l12Good.l0]
        refine Ev_pos hp (Ev_bindc e1 (Ev_bindc e2 (Ev_pos (by omega) ?_)))
        rw [w64 (by omega) (by omega)]
        exact h3), r3, hl⟩
    · exact ih xs n i seed hr (by omega) (by omega) h1 (by omega)
theorem good12_tells {c : List Int} {i seed : Int} (hr : Rd c i seed) : ∃ ys i' s', Ev (fun k => spec_l12Good.f k c i seed) (ys, i', s') ∧ Rd c i' s' ∧ 1 ≤ ys.length ∧ ys.length ≤ 20 := by
  obtain ⟨x1, i1, s1, e1, r1, _⟩ := next_tells hr 5 (by omega)
  obtain ⟨x2, i2, s2, e2, r2, h1, h2⟩ := next_tells r1 8 (by omega)
  obtain ⟨ys, i3, s3, h3, r3, hl⟩ := good12_l0 c 8 [⟨-1, x1⟩] x2 i2 s2 r2 (by omega) (by omega) (by simp) (by simp)
  refine ⟨ys, i3, s3, ?_, r3, hl⟩
  unfold spec_l12Good.f
  exact Ev_bindc e1 (Ev_bindc e2 h3)
theorem draw12_l0 (c : List Int) (d : Nat) : ∀ (xs : List S63) (i seed : Int), Rd c i seed → 20 - xs.length ≤ d → xs.length ≤ 20 → ∃ ys i' s', Ev (fun k => spec_l12Draw.l0 k xs c i seed) (ys, i', s') ∧ Rd c i' s' ∧ ys.length ≤ 20 := by
  induction d with
  | zero =>
    intro xs i seed hr hd hn
    obtain ⟨x1, i1, s1, e1, r1, h1, h2⟩ := next_tells hr 2 (by omega)
    refine ⟨xs, i1, s1, Ev_succ (by
      simp only [spec_l12Draw.l0]
      refine Ev_bindc e1 ?_
      rw [w64 (by omega) (by omega)]
      exact Ev_neg (by omega) (Ev.now _)), r1, hn⟩
  | succ d ih =>
    intro xs i seed hr hd hn
    obtain ⟨x1, i1, s1, e1, r1, h1, h2⟩ := next_tells hr 2 (by omega)
    by_cases hlt : (xs.length : Int) < 12 + x1
    · obtain ⟨ys, i3, s3, h3, r3, hl⟩ := ih (xs ++ [⟨0, 1⟩]) i1 s1 r1 (by simp; omega) (by simp; omega)
      refine ⟨ys, i3, s3, Ev_succ (by
        simp only [spec_l12Draw.l0]
        refine Ev_bindc e1 ?_
        rw [w64 (by omega) (by omega)]
        exact Ev_pos hlt (Ev_pos (by omega) h3)), r3, hl⟩
    · refine ⟨xs, i1, s1, Ev_succ (by
        simp only [spec_l12Draw.l0]
        refine Ev_bindc e1 ?_
        rw [w64 (by omega) (by omega)]
        exact Ev_neg hlt (Ev.now _)), r1, hn⟩
theorem draw12_tells {c : List Int} {i seed : Int} (hr : Rd c i seed) : ∃ ys i' s', Ev (fun k => spec_l12Draw.f k c i seed) (ys, i', s') ∧ Rd c i' s' ∧ ys.length ≤ 20 := by
  obtain ⟨xs, i1, s1, h1, r1, hl1, hl2⟩ := good12_tells hr
  obtain ⟨x2, i2, s2, e2, r2, h20, h21⟩ := next_tells r1 (xs.length : Int) (by omega)
  obtain ⟨x3, i3, s3, e3, r3, _⟩ := next_tells r2 40 (by omega)
  have hx2 := h21 (by omega)
  unfold spec_l12Draw.f
  by_cases c0 : x3 = 0
  · obtain ⟨x4, i4, s4, e4, r4, _⟩ := pick_tells r3 [x2, wrap64 (x2 - 1), -1, -2] (by simp) (by simp)
    exact ⟨_, i4, s4, Ev.bind h1 (Ev_bindc e2 (Ev_bindc e3 (Ev_pos c0 (Ev_bindc e4 (Ev_pos h20 (Ev_pos hx2 (Ev.now _))))))), r4, by rw [List.length_set]; exact hl2⟩
  · by_cases c1 : x3 = 1
    · obtain ⟨x4, i4, s4, e4, r4, _⟩ := pick_tells r3 [-1, 32, 33] (by simp) (by simp)
      exact ⟨_, i4, s4, Ev.bind h1 (Ev_bindc e2 (Ev_bindc e3 (Ev_neg c0 (Ev_pos c1 (Ev_bindc e4 (Ev_pos h20 (Ev_pos hx2 (Ev.now _)))))))), r4, by rw [List.length_set]; exact hl2⟩
    · by_cases c2 : x3 = 2
      · obtain ⟨ys, i4, s4, h4, r4, hl⟩ := draw12_l0 c 20 xs i3 s3 r3 (by omega) hl2
        exact ⟨ys, i4, s4, Ev.bind h1 (Ev_bindc e2 (Ev_bindc e3 (Ev_neg c0 (Ev_neg c1 (Ev_pos c2 h4))))), r4, hl⟩
      · by_cases c3 : x3 = 3
        · exact ⟨_, i3, s3, Ev.bind h1 (Ev_bindc e2 (Ev_bindc e3 (Ev_neg c0 (Ev_neg c1 (Ev_neg c2 (Ev_pos c3 (Ev_pos (by omega) (Ev.now _)))))))), r3, by simp⟩
        · exact ⟨xs, i3, s3, Ev.bind h1 (Ev_bindc e2 (Ev_bindc e3 (Ev_neg c0 (Ev_neg c1 (Ev_neg c2 (Ev_neg c3 (Ev.now _))))))), r3, hl2⟩

theorem drawStopTick_tells (c : List Int) (hc : ∀ b ∈ c, 0 ≤ b ∧ b ≤ 255) (hl : c.length ≤ 4096) : ∃ xs h s m, Ev (fun k => spec_DrawStopTick.f k c) (xs, h, s, m) ∧ xs.length ≤ 20 := by
  obtain ⟨seed, h0, r0⟩ := from_tells c hc hl
  obtain ⟨xs, i1, s1, h1, r1, hx⟩ := draw12_tells r0
  obtain ⟨x2, i2, s2, e2, r2, _⟩ := next_tells r1 4 (by omega)
  obtain ⟨x3, i3, s3, e3, r3, _⟩ := pick_tells r2 [1, wrap64 (1 + x2), 10, 11, 0, 2] (by simp) (by simp)
  obtain ⟨x4, i4, s4, e4, r4, _⟩ := next_tells r3 60 (by omega)
  obtain ⟨x5, i5, s5, e5, r5, _⟩ := next_tells r4 60 (by omega)
  obtain ⟨x6, i6, s6, e6, r6, _⟩ := next_tells r5 60 (by omega)
  obtain ⟨x7, i7, s7, e7, r7, _⟩ := pick_tells r6 [x4, 100000, 100001, x5, x6] (by simp) (by simp)
  obtain ⟨x8, i8, s8, e8, r8, _⟩ := next_tells r7 ((xs.length : Int) + 1) (by omega)
  obtain ⟨x9, i9, s9, e9, r9, _⟩ := next_tells r8 24 (by omega)
  refine ⟨xs, x3, x7, wrap64 (x8 - wrap64 (Int.tdiv x9 23)), ?_, hx⟩
  unfold spec_DrawStopTick.f
  refine Ev.bind h0 (Ev.bind h1 (Ev_bindc e2 (Ev_bindc e3 (Ev_bindc e4 (Ev_bindc e5 (Ev_bindc e6 (Ev_bindc e7 ?_)))))))
  simp only
  rw [w64 (x := (xs.length : Int) + 1) (by omega) (by omega)]
  exact Ev_bindc e8 (Ev_bindc e9 (Ev.now _))
theorem drawStopped_tells (c : List Int) (hc : ∀ b ∈ c, 0 ≤ b ∧ b ≤ 255) (hl : c.length ≤ 4096) : ∃ xs h s m, Ev (fun k => spec_DrawStoppedModules.f k c) (xs, h, s, m) ∧ xs.length ≤ 20 := by
  obtain ⟨seed, h0, r0⟩ := from_tells c hc hl
  obtain ⟨xs, h, s, m, h1, hx⟩ := drawStopTick_tells c hc hl
  obtain ⟨x2, i2, s2, e2, r2, _⟩ := next_tells r0 12 (by omega)
  obtain ⟨x3, i3, s3, e3, r3, _⟩ := pick_tells r2 [wrap64 (s + x2), s, wrap64 (s - 1), 100000, 100001] (by simp) (by simp)
  refine ⟨xs, h, s, x3, ?_, hx⟩
  unfold spec_DrawStoppedModules.f
  exact Ev.bind h0 (Ev.bind h1 (Ev_bindc e2 (Ev_bindc e3 (Ev.now _))))
theorem drawHop_tells (c : List Int) (hc : ∀ b ∈ c, 0 ≤ b ∧ b ≤ 255) (hl : c.length ≤ 4096) : ∃ xs b, Ev (fun k => spec_DrawGreatestHop.f k c) (xs, b) ∧ xs.length ≤ 20 := by
  obtain ⟨seed, h0, r0⟩ := from_tells c hc hl
  obtain ⟨xs, i1, s1, h1, r1, hx⟩ := draw12_tells r0
  obtain ⟨x2, i2, s2, e2, r2, _⟩ := next_tells r1 30 (by omega)
  obtain ⟨x3, i3, s3, e3, r3, _⟩ := next_tells r2 6 (by omega)
  obtain ⟨x4, i4, s4, e4, r4, _⟩ := pick_tells r3 [x2, x3, 0, 1000, 1001, -1] (by simp) (by simp)
  refine ⟨xs, x4, ?_, hx⟩
  unfold spec_DrawGreatestHop.f
  exact Ev.bind h0 (Ev.bind h1 (Ev_bindc e2 (Ev_bindc e3 (Ev_bindc e4 (Ev.now _)))))
theorem drawLatest_tells (c : List Int) (hc : ∀ b ∈ c, 0 ≤ b ∧ b ≤ 255) (hl : c.length ≤ 4096) : ∃ xs h m t, Ev (fun k => spec_DrawLatestSending.f k c) (xs, h, m, t) ∧ xs.length ≤ 20 := by
  obtain ⟨xs, h, s, m, h1, hx⟩ := drawStopTick_tells c hc hl
  refine ⟨xs, h, m, s, ?_, hx⟩
  unfold spec_DrawLatestSending.f
  exact Ev.bind h1 (Ev.now _)

/-- A loop that never stops before its end. -/
def foldU {S : Type} (upd : S → Int → S) : Nat → S → Int → S
  | 0, s, _ => s
  | d + 1, s, i => foldU upd d (upd s i) (i + 1)
theorem foldU_ind {S : Type} {upd : S → Int → S} {n : Int} (Inv : S → Int → Prop) (hstep : ∀ (s : S) (i : Int), 0 ≤ i → i < n → Inv s i → Inv (upd s i) (i + 1)) : ∀ (d : Nat) (s : S) (i : Int), 0 ≤ i → i + d = n → Inv s i → Inv (foldU upd d s i) n := by
  intro d
  induction d with
  | zero => intro s i h0 h1 hI; obtain rfl : i = n := by omega
            exact hI
  | succ d ih => intro s i h0 h1 hI; exact ih _ _ (by omega) (by omega) (hstep s i h0 (by omega) hI)
theorem Ev_forK {S τ : Type} {F : Nat → S → Int → Option τ} {upd : S → Int → S} {n : Int} {r : τ} (Inv : S → Int → Prop)
    (hstep : ∀ (s : S) (i : Int), 0 ≤ i → i < n → Inv s i → Inv (upd s i) (i + 1) ∧ (Ev (fun k => F k (upd s i) (i + 1)) r → Ev (fun k => F k s i) r)) :
    ∀ (d : Nat) (s : S) (i : Int), 0 ≤ i → i + d = n → Inv s i → (Inv (foldU upd d s i) n → Ev (fun k => F k (foldU upd d s i) n) r) → Ev (fun k => F k s i) r := by
  intro d
  induction d with
  | zero => intro s i h0 h1 hI h; obtain rfl : i = n := by omega
            exact h hI
  | succ d ih =>
    intro s i h0 h1 hI h
    obtain ⟨h2, h3⟩ := hstep s i h0 (by omega) hI
    exact h3 (ih _ _ (by omega) (by omega) h2 h)

theorem Ev_allK {τ : Type} {F : Nat → Int → Option τ} {p : Int → Prop} {n : Int} {r bad : τ}
    (hstep : ∀ i : Int, 0 ≤ i → i < n → (p i → Ev (fun k => F k (i + 1)) r → Ev (fun k => F k i) r) ∧ (¬ p i → r = bad → Ev (fun k => F k i) r)) :
    ∀ (d : Nat) (i : Int), 0 ≤ i → i + d = n → (¬ (∀ j : Int, i ≤ j → j < n → p j) → r = bad) → ((∀ j : Int, i ≤ j → j < n → p j) → Ev (fun k => F k n) r) → Ev (fun k => F k i) r := by
  intro d
  induction d with
  | zero => intro i h0 h1 _ h; obtain rfl : i = n := by omega
            exact h (fun j h2 h3 => by omega)
  | succ d ih =>
    intro i h0 h1 hb hg
    obtain ⟨h2, h3⟩ := hstep i h0 (by omega)
    by_cases hp : p i
    · refine h2 hp (ih (i + 1) (by omega) (by omega) (fun h => hb (fun q => h (fun j h4 h5 => q j (by omega) h5))) (fun h => hg (fun j h4 h5 => ?_)))
      by_cases hj : j = i
      · rw [hj]; exact hp
      · exact h j (by omega) h5
    · exact h3 hp (hb (fun q => hp (q i (Int.le_refl _) (by omega))))

theorem likeInts_refl (l : List Int) (h : l.length ≤ 1000000) : Ev (fun k => laws_likeInts.f k l l) true := by
  unfold laws_likeInts.f
  refine Ev_pos rfl ?_
  exact Ev_allK (F := fun k i => laws_likeInts.l0 k l l i) (p := fun _ => True) (n := l.length) (bad := false) (fun i h0 h1 => ⟨fun _ hr => Ev_succ (by
    simp only [laws_likeInts.l0]
    refine Ev_pos h1 (Ev_pos h0 (Ev_pos h1 (Ev_pos trivial ?_)))
    rw [w64 (by omega) (by omega)]
    exact hr), fun hp => absurd trivial hp⟩) l.length 0 (by omega) (by omega) (fun hno => absurd (fun _ _ _ => trivial) hno) (fun _ => Ev_succ (by
    simp only [laws_likeInts.l0]
    exact Ev_neg (by omega) (Ev.now _)))

theorem rd_at {b : List Int} {i : Int} (h0 : 0 ≤ i) (h1 : i < b.length) : rd b i = b[i.toNat]'(by omega) := by
  simp [rd, List.getD_eq_getElem?_getD, List.getElem?_eq_getElem (show i.toNat < b.length by omega)]
theorem hasInt_ev (l : List Int) (h : l.length ≤ 1000000) (v : Int) : Ev (fun k => laws_hasInt.f k l v) (decide (v ∈ l)) := by
  unfold laws_hasInt.f
  exact Ev_allK (F := fun k i => laws_hasInt.l0 k l v i) (p := fun i => ¬ rd l i = v) (n := l.length) (bad := true) (fun i h0 h1 => ⟨fun hp hr => Ev_succ (by
    simp only [laws_hasInt.l0]
    rw [w64 (by omega) (by omega)]
    exact Ev_pos h1 (Ev_pos h0 (Ev_neg hp hr))), fun hp hr => Ev_succ (by
    simp only [laws_hasInt.l0]
    exact Ev_pos h1 (Ev_pos h0 (Ev_pos (by simpa using hp) (Ev_some hr.symm))))⟩) l.length 0 (by omega) (by omega) (fun hno => by
    rw [decide_eq_true_eq]
    by_cases hm : v ∈ l
    · exact hm
    · refine absurd (fun j h0 h1 he => hm ?_) hno
      rw [← he, rd_at h0 h1]
      exact List.getElem_mem _) (fun hall => Ev_succ (by
    simp only [laws_hasInt.l0]
    refine Ev_neg (by omega) (Ev_some ?_)
    symm
    rw [decide_eq_false_iff_not]
    intro hm
    obtain ⟨j, hj⟩ := List.mem_iff_getElem?.1 hm
    obtain ⟨hl, he⟩ := List.getElem?_eq_some_iff.1 hj
    refine hall (j : Int) (by omega) (by omega) ?_
    rw [rd_at (by omega) (by omega), ← he]
    congr 1))

theorem hops_end (xs : List S63) (hop sent m : Int) : Ev (fun k => if (stopTickM xs hop sent m).2 = 0 then ((impl_DepthOf.f k xs m).bind fun bt => (if bt.2 = 0 then (some ((stopTickM xs hop sent m).1 == (wrap64 (sent + (wrap64 (bt.1 * hop)))))) else (some false))) else (some true)) true := by
  refine Ev_ite (fun h => ?_) (fun _ => Ev.now _)
  have hc : codeM xs hop sent m = 0 := by
    unfold stopTickM at h
    by_cases hc : codeM xs hop sent m = 0
    · exact hc
    · rw [if_neg hc] at h; exact absurd h hc
  obtain ⟨hx, hh, hs, h0, h1⟩ := codeM_0 hc
  have hn := ((areMods_iff xs).1 hx).1
  obtain ⟨l, hl, hl0, hl1, hl2, hl3, hl4⟩ := tick_parts hx hh h0 h1 sent
  have e : stopTickM xs hop sent m = (tickS xs hop sent m, 0) := by unfold stopTickM; rw [if_pos hc]
  have hd : Ev (fun k => impl_DepthOf.f k xs m) (l, 0) := by
    unfold impl_DepthOf.f
    have ha : Ev (fun k => impl_moduleAsked.f k xs [m]) 0 := by
      unfold impl_moduleAsked.f
      refine Ev.bind (impl_AreModules_ev xs) (Ev_pos hx (Ev_succ (by
        simp only [impl_moduleAsked.l0]
        refine Ev_pos (by simp) (Ev_pos (by omega) (Ev_pos (by simp) ?_))
        rw [show rd [m] 0 = m from rfl, isIndex_eq m xs.length (by omega)]
        simp only [Option.bind_some]
        refine Ev_pos (decide_eq_true ⟨h0, by omega⟩) ?_
        rw [w64 (by omega) (by omega)]
        exact Ev_succ (by
          simp only [impl_moduleAsked.l0]
          exact Ev_neg (by simp) (Ev.now _)))))
    refine Ev.bind ha (Ev_pos rfl ?_)
    unfold impl_wayToMaster.f
    refine Ev.bind (impl_way_ev hx xs.length m [] h1 h1 (by simp; omega)) ?_
    rw [w64 (by omega) (by omega), ← hl]
    exact Ev.now _
  refine Ev.bind hd (Ev_pos rfl (Ev_some ?_))
  have hm : l * hop = hop * l := Int.mul_comm ..
  rw [e, hl4]
  simp only
  rw [w64 (x := l * hop) (by omega) (by omega), w64 (by omega) (by omega), hm]
  simp
theorem hops_j5 (xs : List S63) (hop sent m : Int) : Ev (fun k => laws_FnHops.j5 k xs hop sent m (stopTickM xs hop sent m).1 (stopTickM xs hop sent m).2 false) true := Ev_succ (by
  simp only [laws_FnHops.j5, Bool.false_eq_true, if_false]
  exact hops_end xs hop sent m)
theorem hops_j4 (xs : List S63) (hop sent m : Int) (ps : List S63) (q r z : Int) : Ev (fun k => laws_FnHops.j4 k xs hop sent m (stopTickM xs hop sent m).1 (stopTickM xs hop sent m).2 ps q r z (latestM ps q r z).1 (latestM ps q r z).2) true := Ev_succ (by
  simp only [laws_FnHops.j4]
  refine Ev_ite (fun h => ?_) (fun _ => hops_end xs hop sent m)
  have hc : codeM ps q z r = 0 := by
    unfold latestM at h
    by_cases hc : codeM ps q z r = 0
    · exact hc
    · rw [if_neg hc] at h; exact absurd h hc
  obtain ⟨hx, hh, hs, h0, h1⟩ := codeM_0 hc
  obtain ⟨l, hl, hl0, hl1, hl2, hl3, hl4⟩ := tick_parts hx hh h0 h1 0
  have hge : ¬ z - tickS ps q 0 r < 0 := fun hlt => by
    unfold latestM at h
    rw [if_pos hc, if_pos hlt] at h
    exact absurd h (by decide)
  have e : latestM ps q r z = (z - tickS ps q 0 r, 0) := by unfold latestM; rw [if_pos hc, if_neg hge]
  rw [e]
  obtain ⟨l2, hl5, _, _, _, _, hl6⟩ := tick_parts hx hh h0 h1 (z - tickS ps q 0 r)
  have e2 : stopTickM ps q (z - tickS ps q 0 r) r = (z, 0) := by
    unfold stopTickM
    rw [if_pos (codeM_of hx hh (by omega) h0 h1), hl6, hl4]
    have : l2 = l := by rw [hl, hl5]
    rw [this]
    congr 1
    omega
  have h2 := impl_StopTick_ev ps q (z - tickS ps q 0 r) r
  rw [e2] at h2
  refine Ev.bind h2 (Ev_pos rfl ?_)
  have e3 : (z != z) = false := by simp
  simp only [e3]
  exact hops_j5 xs hop sent m)
theorem hops_j3 (xs : List S63) (hop sent m : Int) (ys : List S63) (b : Int) (hg : (greatM ys b).2 = 0) (ps : List S63) (q r z : Int) : Ev (fun k => laws_FnHops.j3 k xs hop sent m (stopTickM xs hop sent m).1 (stopTickM xs hop sent m).2 ys b (greatM ys b).1 ps q r z (latestM ps q r z).1 (latestM ps q r z).2 false) true := Ev_succ (by
  have hx : areMods ys = true := by
    by_cases hx : areMods ys = true
    · exact hx
    · unfold greatM at hg; rw [if_neg hx] at hg; exact absurd hg (by decide)
  have hb : 0 ≤ b ∧ b ≤ 1000 := by
    by_cases hb : 0 ≤ b ∧ b ≤ 1000
    · exact hb
    · unfold greatM at hg; rw [if_pos hx, if_neg hb] at hg; exact absurd hg (by decide)
  have e : greatM ys b = hopM ys b 10 := by unfold greatM; rw [if_pos hx, if_pos hb]
  rw [e] at hg ⊢
  obtain ⟨h1, h2, h3, h4⟩ := hopM_spec 10 hg
  simp only [laws_FnHops.j3, Bool.false_eq_true, if_false]
  refine Ev_ite (fun hlt => ?_) (fun _ => hops_j4 xs hop sent m ps q r z)
  rw [w64 (by omega) (by omega)]
  have hl := impl_LastStop_ev ys ((hopM ys b 10).1 + 1) 0
  have ec : codeS ys ((hopM ys b 10).1 + 1) 0 = 0 := by
    unfold codeS
    rw [if_pos hx, if_pos (show (1 ≤ (hopM ys b 10).1 + 1 ∧ (hopM ys b 10).1 + 1 ≤ 10) ∧ (0 : Int) ≤ 0 ∧ (0 : Int) ≤ 100000 by omega)]
  rw [if_pos ec] at hl
  exact Ev.bind hl (Ev_pos rfl (Ev_neg (by have := h4 hlt; simp only; omega) (hops_j4 xs hop sent m ps q r z))))
theorem hops_j2f (xs : List S63) (hop sent m : Int) (us : List S63) (h s a : Int) (l : List Int) (one : Int) (ys : List S63) (b : Int) (ps : List S63) (q r z i : Int) : Ev (fun k => laws_FnHops.j2 k xs hop sent m (stopTickM xs hop sent m).1 (stopTickM xs hop sent m).2 us h s a l one ys b (greatM ys b).1 (greatM ys b).2 ps q r z (latestM ps q r z).1 (latestM ps q r z).2 i false) true := Ev_succ (by
  simp only [laws_FnHops.j2, Bool.false_eq_true, if_false]
  refine Ev_ite (fun hg => ?_) (fun _ => hops_j4 xs hop sent m ps q r z)
  have hx : areMods ys = true := by
    by_cases hx : areMods ys = true
    · exact hx
    · unfold greatM at hg; rw [if_neg hx] at hg; exact absurd hg (by decide)
  have hb : 0 ≤ b ∧ b ≤ 1000 := by
    by_cases hb : 0 ≤ b ∧ b ≤ 1000
    · exact hb
    · unfold greatM at hg; rw [if_pos hx, if_neg hb] at hg; exact absurd hg (by decide)
  have e : greatM ys b = hopM ys b 10 := by unfold greatM; rw [if_pos hx, if_pos hb]
  have hg' := hg
  rw [e] at hg'
  obtain ⟨h1, h2, h3, h4⟩ := hopM_spec 10 hg'
  have hl := impl_LastStop_ev ys (greatM ys b).1 0
  have ec : codeS ys (greatM ys b).1 0 = 0 := by
    unfold codeS
    rw [e, if_pos hx, if_pos (show (1 ≤ (hopM ys b 10).1 ∧ (hopM ys b 10).1 ≤ 10) ∧ (0 : Int) ≤ 0 ∧ (0 : Int) ≤ 100000 by omega)]
  rw [if_pos ec] at hl
  refine Ev.bind hl (Ev_pos rfl ?_)
  have ed : decide (lastS ys (greatM ys b).1 0 > b) = false := by
    rw [decide_eq_false_iff_not, e]
    omega
  simp only [ed]
  exact hops_j3 xs hop sent m ys b hg ps q r z)
theorem hops_l0 (xs : List S63) (hop sent m : Int) (us : List S63) (h s a : Int) (ys : List S63) (b : Int) (ps : List S63) (q r z : Int) (d : Nat) : ∀ i : Int, 0 ≤ i → ((us.length : Int) - i).toNat ≤ d → Ev (fun k => laws_FnHops.l0 k xs hop sent m (stopTickM xs hop sent m).1 (stopTickM xs hop sent m).2 us h s a (stoppedM us h s a).1 (stoppedM us h s a).2 ys b (greatM ys b).1 (greatM ys b).2 ps q r z (latestM ps q r z).1 (latestM ps q r z).2 i) true := by
  have hfalse := fun i => hops_j2f xs hop sent m us h s a (stoppedM us h s a).1 (stoppedM us h s a).2 ys b ps q r z i
  induction d with
  | zero =>
    intro i h0 hd
    refine Ev_succ (by
      simp only [laws_FnHops.l0]
      rw [decide_eq_false (show ¬ i < (us.length : Int) by omega)]
      exact Ev_ite (fun _ => hfalse i) (fun _ => hfalse i))
  | succ d ih =>
    intro i h0 hd
    refine Ev_succ (by
      simp only [laws_FnHops.l0]
      refine Ev_ite (fun hone => ?_) (fun _ => hfalse i)
      by_cases hlt : i < (us.length : Int)
      · rw [decide_eq_true hlt]
        have hx : areMods us = true := by
          by_cases hx : areMods us = true
          · exact hx
          · unfold stoppedM at hone; rw [if_neg hx] at hone; exact absurd hone (by decide)
        have hok : ((1 ≤ h ∧ h ≤ 10) ∧ 0 ≤ s ∧ s ≤ 100000) ∧ 0 ≤ a ∧ a ≤ 100000 := by
          by_cases hok : ((1 ≤ h ∧ h ≤ 10) ∧ 0 ≤ s ∧ s ≤ 100000) ∧ 0 ≤ a ∧ a ≤ 100000
          · exact hok
          · unfold stoppedM at hone; rw [if_pos hx, if_neg hok] at hone; exact absurd hone (by decide)
        have hn := ((areMods_iff us).1 hx).1
        have e : stopTickM us h s i = (tickS us h s i, 0) := by unfold stopTickM; rw [if_pos (codeM_of hx hok.1.1 hok.1.2 h0 hlt)]
        have ht := impl_StopTick_ev us h s i
        rw [e] at ht
        have hlen := stoppedM_length us h s a
        have hmem : i ∈ (stoppedM us h s a).1 ↔ tickS us h s i ≤ a := by
          unfold stoppedM
          rw [if_pos hx, if_pos hok, stop_mem us.length [] 0 (by omega) (by omega)]
          simp
          omega
        refine Ev_succ (by
          simp only [laws_FnHops.j2, if_true]
          refine Ev.bind ht (Ev_pos rfl (Ev.bind (hasInt_ev _ (by omega) i) ?_))
          have eb : (decide (i ∈ (stoppedM us h s a).1) != decide (tickS us h s i ≤ a)) = false := by
            by_cases hq : tickS us h s i ≤ a
            · rw [decide_eq_true hq, decide_eq_true (hmem.2 hq)]; rfl
            · rw [decide_eq_false hq, decide_eq_false (fun w => hq (hmem.1 w))]; rfl
          simp only [eb, Bool.false_eq_true, if_false]
          rw [w64 (by omega) (by omega)]
          exact ih (i + 1) (by omega) (by omega))
      · rw [decide_eq_false hlt]
        exact hfalse i)
theorem FnHops : laws_FnHops.Pure := by
  intro c _ _ hw
  refine Ev.rounds ?_
  unfold laws_FnHops.f
  rw [big_eq]
  simp only [Option.bind_some]
  refine Ev_ite (fun _ => Ev.now _) (fun hb => ?_)
  have hc := bytes_of hw
  have hl : c.length ≤ 4096 := by simpa using hb
  obtain ⟨xs, hop, sent, m, d1, hx⟩ := drawStopTick_tells c hc hl
  obtain ⟨us, h, s, a, d2, hu⟩ := drawStopped_tells c hc hl
  obtain ⟨ys, b, d3, hy⟩ := drawHop_tells c hc hl
  obtain ⟨ps, q, r, z, d4, hp⟩ := drawLatest_tells c hc hl
  have hlen := stoppedM_length us h s a
  refine Ev.bind d1 (Ev.bind (impl_StopTick_ev xs hop sent m) (Ev.bind (spec_StopTick_ev xs (by omega) hop sent m) (Ev.bind d2 (Ev.bind (impl_Stopped_ev us h s a) (Ev.bind (spec_Stopped_ev us (by omega) h s a) (Ev.bind d3 (Ev.bind (impl_Great_ev ys b) (Ev.bind (spec_Great_ev ys (by omega) b) (Ev.bind d4 (Ev.bind (impl_Latest_ev ps q r z) (Ev.bind (spec_Latest_ev ps (by omega) q r z) ?_)))))))))))
  refine Ev_pos rfl (Ev_pos rfl (Ev_pos rfl (Ev.bind (likeInts_refl _ (by omega)) (Ev_pos rfl (Ev_pos rfl (Ev_pos rfl (Ev_pos rfl ?_)))))))
  have e : ((latestM ps q r z).1 != (latestM ps q r z).1) = false := by simp
  simp only [e]
  refine Ev_succ (by
    simp only [laws_FnHops.j0, Bool.false_eq_true, if_false]
    exact hops_l0 xs hop sent m us h s a ys b ps q r z us.length 0 (by omega) (by omega))



end Go.Proofs.Ytddejaomlnldiaa.Pure
