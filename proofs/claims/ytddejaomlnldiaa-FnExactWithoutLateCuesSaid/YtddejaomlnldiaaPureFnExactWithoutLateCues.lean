/- The statement over numbers and lists for FnExactWithoutLateCues: the reference and the program answer alike for all arguments. -/
import Derived.Test.YtddejaomlnldiaaXFnExactWithoutLateCues
set_option linter.unusedVariables false
set_option linter.unusedSimpArgs false
namespace Go.Proofs.Ytddejaomlnldiaa.Pure
open Go.RowKit Go.Proofs.Ytddejaomlnldiaa.PFnExactWithoutLateCues Go.Proofs.YtddejaomlnldiaaW.PrintWords Go.Proofs.YtddejaomlnldiaaW.PrintLast Go.Proofs.YtddejaomlnldiaaW.PrintMore
open Go.Proofs.YtddejaomlnldiaaX

theorem w64 {x : Int} (h0 : -9223372036854775808 ≤ x) (h1 : x ≤ 9223372036854775807) : wrap64 x = x := by unfold wrap64; omega
theorem Ev_ite {α : Type} {c : Prop} [Decidable c] {g h : Nat → Option α} {r : α} (h1 : c → Ev g r) (h2 : ¬ c → Ev h r) : Ev (fun k => if c then g k else h k) r := by
  by_cases hc : c
  · obtain ⟨K, hK⟩ := h1 hc
    exact ⟨K, fun k hk => (if_pos hc).trans (hK k hk)⟩
  · obtain ⟨K, hK⟩ := h2 hc
    exact ⟨K, fun k hk => (if_neg hc).trans (hK k hk)⟩
theorem Ev_pos {α : Type} {c : Prop} [Decidable c] {g h : Nat → Option α} {r : α} (hc : c) (h1 : Ev g r) : Ev (fun k => if c then g k else h k) r := Ev_ite (fun _ => h1) (fun n => absurd hc n)
theorem Ev_neg {α : Type} {c : Prop} [Decidable c] {g h : Nat → Option α} {r : α} (hc : ¬ c) (h1 : Ev h r) : Ev (fun k => if c then g k else h k) r := Ev_ite (fun n => absurd n hc) (fun _ => h1)
theorem Ev_some {α : Type} {r q : α} (h : r = q) : Ev (fun _ => some r) q := h ▸ Ev.now r
theorem Ev_eq {α : Type} {g : Nat → Option α} {r q : α} (h : r = q) (k : Ev g r) : Ev g q := h ▸ k
theorem Ev_const {α : Type} {o : Option α} {r : α} (h : o = some r) : Ev (fun _ => o) r := by subst h; exact Ev.now r
theorem Ev_bindc {α β : Type} {o : Option α} {f : Nat → α → Option β} {a : α} {r : β} (h : o = some a) (k : Ev (fun n => f n a) r) : Ev (fun n => o.bind (f n)) r := by subst h; exact k
theorem Ev_unique {α : Type} {g : Nat → Option α} {r q : α} (h : Ev g r) (k : Ev g q) : r = q := by
  obtain ⟨K, h⟩ := h
  obtain ⟨L, k⟩ := k
  have h1 := h (max K L) (by omega)
  have h2 := k (max K L) (by omega)
  rw [h1] at h2
  exact Option.some.inj h2
theorem lit64 {x : Int} (h : (Lit.int .i64 x).wf = true) : -9223372036854775808 ≤ x ∧ x ≤ 9223372036854775807 := by
  have h := h
  simp [Lit.wf, IntKind.min, IntKind.max, IntKind.bits, IntKind.signed] at h
  omega
theorem mn_eq (a b : Int) : mn a b = min a b := by unfold mn; omega
theorem mx_eq (a b : Int) : mx a b = max a b := by unfold mx; omega

/-- A loop over the numbers 0 to n - 1: d rounds from i on. -/
def forM {S ρ : Type} (step : S → Int → ρ ⊕ S) (out : S → ρ) : Nat → S → Int → ρ
  | 0, s, _ => out s
  | d + 1, s, i => match step s i with
    | .inl r => r
    | .inr s' => forM step out d s' (i + 1)
theorem Ev_for {S ρ : Type} {F : Nat → S → Int → Option ρ} {step : S → Int → ρ ⊕ S} {out : S → ρ} {n : Nat} (Inv : S → Int → Prop)
    (hend : ∀ s, Inv s n → ∃ K, ∀ k, K ≤ k → F k s n = some (out s))
    (hstep : ∀ (s : S) (i : Int), 0 ≤ i → i < n → Inv s i → (∃ r, step s i = .inl r ∧ ∃ K, ∀ k, K ≤ k → F k s i = some r) ∨ (∃ s', step s i = .inr s' ∧ Inv s' (i + 1) ∧ ∃ K, ∀ k, K ≤ k → F (k + 1) s i = F k s' (i + 1))) :
    ∀ (d : Nat) (s : S) (i : Int), 0 ≤ i → i + d = n → Inv s i → Ev (fun k => F k s i) (forM step out d s i) := by
  intro d
  induction d with
  | zero =>
    intro s i h0 h1 hI
    obtain rfl : i = n := by omega
    exact hend s hI
  | succ d ih =>
    intro s i h0 h1 hI
    rcases hstep s i h0 (by omega) hI with ⟨r, hr, hK⟩ | ⟨s', hs, hI', K, hK⟩
    · simp only [forM, hr]
      exact hK
    · simp only [forM, hs]
      obtain ⟨K', h⟩ := ih s' (i + 1) (by omega) (by omega) hI'
      refine ⟨K + K' + 1, fun k hk => ?_⟩
      obtain ⟨k, rfl⟩ : ∃ m, k = m + 1 := ⟨k - 1, by omega⟩
      exact (hK k (by omega)).trans (h k (by omega))
/-- What holds at the end of a loop. -/
theorem forM_ind {S ρ : Type} {step : S → Int → ρ ⊕ S} {out : S → ρ} {n : Nat} (Inv : S → Int → Prop) (Post : ρ → Prop) (hend : ∀ s, Inv s n → Post (out s))
    (hstep : ∀ (s : S) (i : Int), 0 ≤ i → i < n → Inv s i → (∀ r, step s i = .inl r → Post r) ∧ ∀ s', step s i = .inr s' → Inv s' (i + 1)) : ∀ (d : Nat) (s : S) (i : Int), 0 ≤ i → i + d = n → Inv s i → Post (forM step out d s i) := by
  intro d
  induction d with
  | zero =>
    intro s i h0 h1 hI
    obtain rfl : i = n := by omega
    exact hend s hI
  | succ d ih =>
    intro s i h0 h1 hI
    obtain ⟨h2, h3⟩ := hstep s i h0 (by omega) hI
    simp only [forM]
    cases hs : step s i with
    | inl r => exact h2 r hs
    | inr s' => exact ih s' (i + 1) (by omega) (by omega) (h3 s' hs)

theorem Ev_succ {α : Type} {g : Nat → Option α} {r : α} (h : Ev (fun k => g (k + 1)) r) : Ev g r := Ev.step (fun _ => rfl) h
theorem Ev_for2 {S ρ : Type} {F : Nat → S → Int → Option ρ} {step : S → Int → ρ ⊕ S} {out : S → ρ} {n : Nat} (Inv : S → Int → Prop)
    (hend : ∀ s, Inv s n → Ev (fun k => F k s n) (out s))
    (hstep : ∀ (s : S) (i : Int), 0 ≤ i → i < n → Inv s i → (∃ r, step s i = .inl r ∧ Ev (fun k => F k s i) r) ∨ (∃ s', step s i = .inr s' ∧ Inv s' (i + 1) ∧ ∀ r, Ev (fun k => F k s' (i + 1)) r → Ev (fun k => F k s i) r)) :
    ∀ (d : Nat) (s : S) (i : Int), 0 ≤ i → i + d = n → Inv s i → Ev (fun k => F k s i) (forM step out d s i) := by
  intro d
  induction d with
  | zero =>
    intro s i h0 h1 hI
    obtain rfl : i = n := by omega
    exact hend s hI
  | succ d ih =>
    intro s i h0 h1 hI
    rcases hstep s i h0 (by omega) hI with ⟨r, hr, hK⟩ | ⟨s', hs, hI', hK⟩
    · simp only [forM, hr]
      exact hK
    · simp only [forM, hs]
      exact hK _ (ih s' (i + 1) (by omega) (by omega) hI')
/-- A loop over a list that only gathers: a fold. -/
theorem forM_fold {S ρ α : Type} (xs : List α) (rdx : Int → α) (hrd : ∀ (j : Nat) (h : j < xs.length), rdx j = xs[j]) (upd : S → α → S) (out : S → ρ) (d : Nat) : ∀ (s : S) (i : Nat), i + d = xs.length →
    forM (ρ := ρ) (fun s i => .inr (upd s (rdx i))) out d s i = out ((xs.drop i).foldl upd s) := by
  induction d with
  | zero =>
    intro s i hi
    rw [List.drop_eq_nil_of_le (by omega)]
    rfl
  | succ d ih =>
    intro s i hi
    rw [List.drop_eq_getElem_cons (show i < xs.length by omega)]
    simp only [forM, List.foldl_cons]
    have := ih (upd s (rdx i)) (i + 1) (by omega)
    rw [← hrd i (by omega)]
    exact this
theorem forM_fold0 {S ρ α : Type} (xs : List α) (rdx : Int → α) (hrd : ∀ (j : Nat) (h : j < xs.length), rdx j = xs[j]) (upd : S → α → S) (out : S → ρ) (s : S) :
    forM (ρ := ρ) (fun s i => .inr (upd s (rdx i))) out xs.length s 0 = out (xs.foldl upd s) := by
  have := forM_fold xs rdx hrd upd out xs.length s 0 (by omega)
  rw [List.drop_zero] at this
  exact this
/-- A loop that looks at each place, and stops at the first that fails. -/
theorem forM_all {p : Int → Bool} {b : Bool} {n : Nat} (d : Nat) : ∀ i : Int, 0 ≤ i → i + d = n → (forM (S := Unit) (ρ := Bool) (fun _ i => if p i = true then .inr () else .inl false) (fun _ => b) d () i = true ↔ b = true ∧ ∀ j : Int, i ≤ j → j < n → p j = true) := by
  induction d with
  | zero =>
    intro i h0 hi
    simp only [forM]
    exact ⟨fun h => ⟨h, fun j h1 h2 => by omega⟩, fun h => h.1⟩
  | succ d ih =>
    intro i h0 hi
    simp only [forM]
    by_cases hp : p i = true
    · rw [if_pos hp]
      refine (ih (i + 1) (by omega) (by omega)).trans ⟨fun h => ⟨h.1, fun j h1 h2 => ?_⟩, fun h => ⟨h.1, fun j h1 h2 => h.2 j (by omega) h2⟩⟩
      by_cases hj : j = i
      · rw [hj]; exact hp
      · exact h.2 j (by omega) h2
    · rw [if_neg hp]
      exact ⟨(fun h => by cases h), fun h => absurd (h.2 i (Int.le_refl _) (by omega)) hp⟩

theorem within_eq (a lo hi : Int) : impl_within.f a lo hi = some (decide (lo ≤ a ∧ a ≤ hi)) := by
  unfold impl_within.f
  by_cases h : lo ≤ a <;> simp [h]

theorem l01In_eq (a lo hi : Int) : spec_l01In.f a lo hi = some (decide (lo ≤ a ∧ a ≤ hi)) := by
  unfold spec_l01In.f
  by_cases h : a ≥ lo
  · have : lo ≤ a := h
    simp [this]
  · have : ¬ lo ≤ a := h
    simp [this]

theorem rdModule {xs : List S63} {i : Int} (h0 : 0 ≤ i) (h1 : i < xs.length) : rd_T63 xs i = xs[i.toNat]'(by omega) := by
  simp [rd_T63, List.getD_eq_getElem?_getD, List.getElem?_eq_getElem (show i.toNat < xs.length by omega)]
/-- The module at a place fits. -/
def okMod (xs : List S63) (i : Int) : Bool := decide ((0 ≤ (rd_T63 xs i).f1 ∧ (rd_T63 xs i).f1 ≤ 32) ∧ (i = 0 → (rd_T63 xs i).f0 = -1) ∧ (0 < i → 0 ≤ (rd_T63 xs i).f0 ∧ (rd_T63 xs i).f0 ≤ i - 1))
def areMods (xs : List S63) : Bool := forM (S := Unit) (fun _ i => if okMod xs i = true then .inr () else .inl false) (fun _ => decide (1 ≤ xs.length ∧ xs.length ≤ 12)) xs.length () 0
theorem areMods_iff (xs : List S63) : areMods xs = true ↔ (1 ≤ xs.length ∧ xs.length ≤ 12) ∧ ∀ i : Int, 0 ≤ i → i < xs.length → okMod xs i = true := by
  unfold areMods
  refine (forM_all (p := okMod xs) (n := xs.length) xs.length 0 (by omega) (by omega)).trans ?_
  rw [decide_eq_true_eq]
theorem spec_AreModules_ev (xs : List S63) (hn : xs.length ≤ 1000000) : Ev (fun k => spec_AreModules.f k xs) (areMods xs) := by
  unfold spec_AreModules.f
  refine Ev_for2 (F := fun k (_ : Unit) i => spec_AreModules.l0 k xs i) (n := xs.length) (fun _ _ => True)
    (fun s hI => Ev_succ (by
      simp only [spec_AreModules.l0, l01In_eq, Option.bind_some]
      refine Ev_neg (by omega) (Ev_some ?_)
      rw [decide_eq_decide]
      omega))
    (fun s i h0 h1 hI => ?_) xs.length () 0 (by omega) (by omega) trivial
  by_cases hok : okMod xs i = true
  · have hk := of_decide_eq_true hok
    refine .inr ⟨(), if_pos hok, trivial, fun r hr => Ev_succ (by
      simp only [spec_AreModules.l0, l01In_eq, Option.bind_some, decide_eq_true_eq]
      refine Ev_pos h1 (Ev_pos h0 (Ev_pos hk.1 ?_))
      rw [w64 (x := i + 1) (by omega) (by omega)]
      refine Ev_ite (fun hz => Ev_pos (hk.2.1 hz) (Ev_neg (by omega) hr)) (fun hz => Ev_pos (by omega) ?_)
      rw [w64 (by omega) (by omega)]
      exact Ev_pos (hk.2.2 (by omega)) hr)⟩
  · refine .inl ⟨false, if_neg hok, Ev_succ (by
      simp only [spec_AreModules.l0, l01In_eq, Option.bind_some, decide_eq_true_eq]
      refine Ev_pos h1 (Ev_pos h0 (Ev_ite (fun ha => ?_) (fun ha => Ev.now _)))
      refine Ev_ite (fun hz => Ev_ite (fun hb => ?_) (fun hb => Ev.now _)) (fun hz => Ev_pos (by omega) ?_)
      · exact absurd (decide_eq_true ⟨ha, fun _ => hb, fun h => by omega⟩) hok
      · rw [w64 (x := i - 1) (by omega) (by omega)]
        refine Ev_neg (fun hb => hok (decide_eq_true ⟨ha, fun h => absurd h hz, fun _ => hb⟩)) (Ev.now _))⟩
theorem impl_AreModules_ev (xs : List S63) : Ev (fun k => impl_AreModules.f k xs) (areMods xs) := by
  unfold impl_AreModules.f
  have hno : ¬ (1 ≤ xs.length ∧ xs.length ≤ 12) → areMods xs = false := fun h => by
    rw [Bool.eq_false_iff]
    exact fun h2 => h ((areMods_iff xs).1 h2).1
  have hj : ∀ r, r = false → Ev (fun k => impl_AreModules.j0 k xs true) r := fun r h => Ev_succ (by
    simp only [impl_AreModules.j0, if_true]
    exact Ev_some h.symm)
  refine Ev_ite (fun h => hj _ (hno (by omega))) (fun h => Ev_ite (fun h2 => hj _ (hno (by omega))) (fun h2 => Ev_pos (by omega) ?_))
  by_cases hp : (rd_T63 xs 0).f0 = -1
  · have e : ((rd_T63 xs 0).f0 != -1) = false := by simpa using hp
    rw [e]
    refine Ev_succ (by
      simp only [impl_AreModules.j0, Bool.false_eq_true, if_false]
      have ha : areMods xs = forM (S := Unit) (fun _ i => if okMod xs i = true then .inr () else .inl false) (fun _ => true) xs.length () 0 := by
        unfold areMods
        rw [decide_eq_true (show 1 ≤ xs.length ∧ xs.length ≤ 12 by omega)]
      rw [ha]
      refine Ev_for2 (F := fun k (_ : Unit) i => impl_AreModules.l0 k xs (xs.length : Int) i) (n := xs.length) (fun _ _ => True)
        (fun s hI => Ev_succ (by
          simp only [impl_AreModules.l0]
          exact Ev_neg (by omega) (Ev.now _)))
        (fun s i h0 h1 hI => ?_) xs.length () 0 (by omega) (by omega) trivial
      by_cases hok : okMod xs i = true
      · have hk := of_decide_eq_true hok
        refine .inr ⟨(), if_pos hok, trivial, fun r hr => Ev_succ (by
          simp only [impl_AreModules.l0, within_eq, Option.bind_some, decide_eq_true_eq]
          refine Ev_pos h1 (Ev_pos h0 (Ev_pos h1 (Ev_pos hk.1 ?_)))
          rw [w64 (x := i + 1) (by omega) (by omega)]
          refine Ev_ite (fun hz => ?_) (fun hz => hr)
          rw [w64 (by omega) (by omega)]
          exact Ev_pos (hk.2.2 (by omega)) hr)⟩
      · refine .inl ⟨false, if_neg hok, Ev_succ (by
          simp only [impl_AreModules.l0, within_eq, Option.bind_some, decide_eq_true_eq]
          refine Ev_pos h1 (Ev_pos h0 (Ev_pos h1 (Ev_ite (fun ha => ?_) (fun ha => Ev.now _))))
          refine Ev_ite (fun hz => ?_) (fun hz => ?_)
          · rw [w64 (x := i - 1) (by omega) (by omega)]
            exact Ev_neg (fun hb => hok (decide_eq_true ⟨ha, fun h => by omega, fun _ => hb⟩)) (Ev.now _)
          · have hi : i = 0 := by omega
            exact absurd (decide_eq_true ⟨ha, fun _ => by rw [hi]; exact hp, fun h => by omega⟩) hok)⟩)
  · have e : ((rd_T63 xs 0).f0 != -1) = true := by simpa using hp
    rw [e]
    refine hj _ ?_
    rw [Bool.eq_false_iff]
    intro h3
    have h4 := ((areMods_iff xs).1 h3).2 0 (by omega) (by omega)
    exact hp ((of_decide_eq_true h4).2.1 rfl)

/-- A module and all above it. -/
def wayM (xs : List S63) : Nat → Int → List Int → List Int
  | 0, _, acc => acc
  | d + 1, m, acc => if 0 ≤ m then wayM xs d (rd_T63 xs m).f0 (acc ++ [m]) else acc
theorem wayM_length (xs : List S63) : ∀ (d : Nat) (m : Int) (acc : List Int), acc.length ≤ (wayM xs d m acc).length ∧ (wayM xs d m acc).length ≤ acc.length + d := by
  intro d
  induction d with
  | zero => intro m acc; simp [wayM]
  | succ d ih =>
    intro m acc
    unfold wayM
    split
    · have := ih (rd_T63 xs m).f0 (acc ++ [m])
      rw [List.length_append] at this
      simp at this
      omega
    · omega
theorem parent_lt {xs : List S63} (hx : areMods xs = true) {m : Int} (h0 : 0 ≤ m) (h1 : m < xs.length) : (rd_T63 xs m).f0 < m := by
  have h := of_decide_eq_true (((areMods_iff xs).1 hx).2 m h0 h1)
  by_cases hz : m = 0
  · have := h.2.1 hz; omega
  · have := h.2.2 (by omega); omega
theorem spec_way_ev {xs : List S63} (hx : areMods xs = true) : ∀ (d : Nat) (m : Int) (acc : List Int), m < d → m < xs.length → acc.length + d ≤ 1000000 → Ev (fun k => spec_l12Way.l0 k xs m acc) (wayM xs d m acc) := by
  intro d
  induction d with
  | zero => intro m acc h0 h1 h2; exact Ev_succ (by simp only [spec_l12Way.l0]; exact Ev_neg (by omega) (Ev.now _))
  | succ d ih =>
    intro m acc h0 h1 h2
    unfold wayM
    refine Ev_succ (by
      simp only [spec_l12Way.l0]
      refine Ev_ite (fun hm => ?_) (fun hm => by rw [if_neg hm]; exact Ev.now _)
      rw [if_pos hm]
      have := parent_lt hx hm h1
      exact Ev_pos (by omega) (Ev_pos hm (Ev_pos h1 (ih _ _ (by omega) (by omega) (by rw [List.length_append]; simp; omega)))))
theorem impl_way_ev {xs : List S63} (hx : areMods xs = true) : ∀ (d : Nat) (m : Int) (acc : List Int), m < d → m < xs.length → acc.length + d ≤ 1000000 → Ev (fun k => impl_wayToMaster.l0 k xs m acc) (wayM xs d m acc) := by
  intro d
  induction d with
  | zero => intro m acc h0 h1 h2; exact Ev_succ (by simp only [impl_wayToMaster.l0]; exact Ev_neg (by omega) (Ev.now _))
  | succ d ih =>
    intro m acc h0 h1 h2
    unfold wayM
    refine Ev_succ (by
      simp only [impl_wayToMaster.l0]
      refine Ev_ite (fun hm => ?_) (fun hm => by rw [if_neg hm]; exact Ev.now _)
      rw [if_pos hm]
      have := parent_lt hx hm h1
      exact Ev_pos (by omega) (Ev_pos hm (Ev_pos h1 (ih _ _ (by omega) (by omega) (by rw [List.length_append]; simp; omega)))))
/-- The tick in which a module stops. -/
def tickS (xs : List S63) (hop sent m : Int) : Int := sent + hop * (((wayM xs xs.length m []).length : Int) - 1)
theorem tickW {hop sent l : Int} (hh : 1 ≤ hop ∧ hop ≤ 10) (hs : 0 ≤ sent ∧ sent ≤ 100000) (hl : 0 ≤ l ∧ l ≤ 12) : wrap64 (sent + wrap64 (hop * wrap64 (l - 1))) = sent + hop * (l - 1) := by
  rw [w64 (x := l - 1) (by omega) (by omega)]
  have h : -10 ≤ hop * (l - 1) ∧ hop * (l - 1) ≤ 120 := by
    have : hop = 1 ∨ hop = 2 ∨ hop = 3 ∨ hop = 4 ∨ hop = 5 ∨ hop = 6 ∨ hop = 7 ∨ hop = 8 ∨ hop = 9 ∨ hop = 10 := by omega
    rcases this with rfl | rfl | rfl | rfl | rfl | rfl | rfl | rfl | rfl | rfl <;> omega
  rw [w64 (x := hop * (l - 1)) (by omega) (by omega), w64 (by omega) (by omega)]
theorem spec_tick_ev {xs : List S63} (hx : areMods xs = true) {hop sent m : Int} (hh : 1 ≤ hop ∧ hop ≤ 10) (hs : 0 ≤ sent ∧ sent ≤ 100000) (h1 : m < xs.length) : Ev (fun k => spec_l23Tick.f k xs hop sent m) (tickS xs hop sent m) := by
  have hn := ((areMods_iff xs).1 hx).1
  have hl := wayM_length xs xs.length m []
  have hl2 : (wayM xs xs.length m []).length ≤ 12 := by simp at hl; omega
  unfold spec_l23Tick.f spec_l12Way.f
  exact Ev.bind (spec_way_ev hx xs.length m [] h1 h1 (by simp; omega)) (Ev_some (tickW hh hs (by omega)))
theorem impl_tick_ev {xs : List S63} (hx : areMods xs = true) {hop sent m : Int} (hh : 1 ≤ hop ∧ hop ≤ 10) (hs : 0 ≤ sent ∧ sent ≤ 100000) (h1 : m < xs.length) : Ev (fun k => impl_stopTick.f k xs hop sent m) (tickS xs hop sent m) := by
  have hn := ((areMods_iff xs).1 hx).1
  have hl := wayM_length xs xs.length m []
  have hl2 : (wayM xs xs.length m []).length ≤ 12 := by simp at hl; omega
  unfold impl_stopTick.f impl_wayToMaster.f
  exact Ev.bind (impl_way_ev hx xs.length m [] h1 h1 (by simp; omega)) (Ev_some (tickW hh hs (by omega)))

/-- A loop that never stops before its end. -/
def foldU {S : Type} (upd : S → Int → S) : Nat → S → Int → S
  | 0, s, _ => s
  | d + 1, s, i => foldU upd d (upd s i) (i + 1)
theorem foldU_ind {S : Type} {upd : S → Int → S} {n : Int} (Inv : S → Int → Prop) (hstep : ∀ (s : S) (i : Int), 0 ≤ i → i < n → Inv s i → Inv (upd s i) (i + 1)) : ∀ (d : Nat) (s : S) (i : Int), 0 ≤ i → i + d = n → Inv s i → Inv (foldU upd d s i) n := by
  intro d
  induction d with
  | zero => intro s i h0 h1 hI; obtain rfl : i = n := by omega
            exact hI
  | succ d ih => intro s i h0 h1 hI; exact ih _ _ (by omega) (by omega) (hstep s i h0 (by omega) hI)
theorem Ev_forK {S τ : Type} {F : Nat → S → Int → Option τ} {upd : S → Int → S} {n : Int} {r : τ} (Inv : S → Int → Prop)
    (hstep : ∀ (s : S) (i : Int), 0 ≤ i → i < n → Inv s i → Inv (upd s i) (i + 1) ∧ (Ev (fun k => F k (upd s i) (i + 1)) r → Ev (fun k => F k s i) r)) :
    ∀ (d : Nat) (s : S) (i : Int), 0 ≤ i → i + d = n → Inv s i → (Inv (foldU upd d s i) n → Ev (fun k => F k (foldU upd d s i) n) r) → Ev (fun k => F k s i) r := by
  intro d
  induction d with
  | zero => intro s i h0 h1 hI h; obtain rfl : i = n := by omega
            exact h hI
  | succ d ih =>
    intro s i h0 h1 hI h
    obtain ⟨h2, h3⟩ := hstep s i h0 (by omega) hI
    exact h3 (ih _ _ (by omega) (by omega) h2 h)

theorem Ev_allK {τ : Type} {F : Nat → Int → Option τ} {p : Int → Prop} {n : Int} {r bad : τ}
    (hstep : ∀ i : Int, 0 ≤ i → i < n → (p i → Ev (fun k => F k (i + 1)) r → Ev (fun k => F k i) r) ∧ (¬ p i → r = bad → Ev (fun k => F k i) r)) :
    ∀ (d : Nat) (i : Int), 0 ≤ i → i + d = n → (¬ (∀ j : Int, i ≤ j → j < n → p j) → r = bad) → ((∀ j : Int, i ≤ j → j < n → p j) → Ev (fun k => F k n) r) → Ev (fun k => F k i) r := by
  intro d
  induction d with
  | zero => intro i h0 h1 _ h; obtain rfl : i = n := by omega
            exact h (fun j h2 h3 => by omega)
  | succ d ih =>
    intro i h0 h1 hb hg
    obtain ⟨h2, h3⟩ := hstep i h0 (by omega)
    by_cases hp : p i
    · refine h2 hp (ih (i + 1) (by omega) (by omega) (fun h => hb (fun q => h (fun j h4 h5 => q j (by omega) h5))) (fun h => hg (fun j h4 h5 => ?_)))
      by_cases hj : j = i
      · rw [hj]; exact hp
      · exact h j (by omega) h5
    · exact h3 hp (hb (fun q => hp (q i (Int.le_refl _) (by omega))))

theorem Ev_allI {τ : Type} {F : Nat → Int → Option τ} {p : Int → Prop} {n : Int} {r bad : τ}
    (hstep : ∀ i : Int, 0 ≤ i → i < n → (∀ j : Int, 0 ≤ j → j < i → p j) → (p i → Ev (fun k => F k (i + 1)) r → Ev (fun k => F k i) r) ∧ (¬ p i → r = bad → Ev (fun k => F k i) r)) :
    ∀ (d : Nat) (i : Int), 0 ≤ i → i + d = n → (∀ j : Int, 0 ≤ j → j < i → p j) → (¬ (∀ j : Int, 0 ≤ j → j < n → p j) → r = bad) → ((∀ j : Int, 0 ≤ j → j < n → p j) → Ev (fun k => F k n) r) → Ev (fun k => F k i) r := by
  intro d
  induction d with
  | zero => intro i h0 h1 hp _ h; obtain rfl : i = n := by omega
            exact h hp
  | succ d ih =>
    intro i h0 h1 hb hbad hg
    obtain ⟨h2, h3⟩ := hstep i h0 (by omega) hb
    by_cases hp : p i
    · refine h2 hp (ih (i + 1) (by omega) (by omega) (fun j h4 h5 => ?_) hbad hg)
      by_cases hj : j = i
      · rw [hj]; exact hp
      · exact hb j h4 (by omega)
    · exact h3 hp (hbad (fun q => hp (q i h0 (by omega))))

theorem isIndex_eq (i : Int) (n : Nat) (hn : n ≤ 9000000000000000000) : impl_isIndex.f i (n : Int) = some (decide (0 ≤ i ∧ i ≤ (n : Int) - 1)) := by
  unfold impl_isIndex.f; rw [w64 (by omega) (by omega), within_eq]; rfl

theorem rdWire {ws : List S59} {i : Int} (h0 : 0 ≤ i) (h1 : i < ws.length) : rd_T59 ws i = ws[i.toNat]'(by omega) := by
  simp [rd_T59, List.getD_eq_getElem?_getD, List.getElem?_eq_getElem (show i.toNat < ws.length by omega)]
theorem rdWire_take {ws : List S59} {m : Nat} {i : Int} (h0 : 0 ≤ i) (h1 : i < m) : rd_T59 (ws.take m) i = rd_T59 ws i := by
  simp only [rd_T59, List.getD_eq_getElem?_getD]
  rw [List.getElem?_take_of_lt (by omega)]
/-- A wire ends at this pin. -/
def AtPin (ws : List S59) (m p i : Int) : Prop := (rd_T59 ws i).f1 = m ∧ (rd_T59 ws i).f2 = p
def PinOk (xs : List S63) (m p : Int) : Prop := (0 ≤ m ∧ m ≤ (xs.length : Int) - 1) ∧ 0 ≤ p ∧ p ≤ (rd_T63 xs m).f1 - 1
def OkWire (xs : List S63) (n : Int) (ws : List S59) (i : Int) : Prop :=
  (0 ≤ (rd_T59 ws i).f0 ∧ (rd_T59 ws i).f0 ≤ n - 1) ∧ PinOk xs (rd_T59 ws i).f1 (rd_T59 ws i).f2 ∧ (0 < i → (rd_T59 ws (i - 1)).f0 < (rd_T59 ws i).f0) ∧ ∀ j : Int, 0 ≤ j → j < i → ¬ AtPin ws (rd_T59 ws i).f1 (rd_T59 ws i).f2 j
def AreW (xs : List S63) (n : Int) (ws : List S59) : Prop := areMods xs = true ∧ (0 ≤ n ∧ n ≤ 20) ∧ ∀ i : Int, 0 ≤ i → i < ws.length → OkWire xs n ws i
noncomputable def areW (xs : List S63) (n : Int) (ws : List S59) : Bool := open Classical in decide (AreW xs n ws)
theorem areW_iff {xs : List S63} {n : Int} {ws : List S59} : areW xs n ws = true ↔ AreW xs n ws := by unfold areW; exact @decide_eq_true_iff _ (Classical.propDecidable _)
instance instPin (xs : List S63) (m p : Int) : Decidable (PinOk xs m p) := by unfold PinOk; infer_instance
theorem mod_pins {xs : List S63} (hx : areMods xs = true) {m : Int} (h0 : 0 ≤ m) (h1 : m < xs.length) : 0 ≤ (rd_T63 xs m).f1 ∧ (rd_T63 xs m).f1 ≤ 32 := (of_decide_eq_true (((areMods_iff xs).1 hx).2 m h0 h1)).1
theorem impl_isPin_eq {xs : List S63} (hx : areMods xs = true) (m p : Int) : impl_isPin.f xs m p = some (decide (PinOk xs m p)) := by
  have hn := ((areMods_iff xs).1 hx).1
  unfold impl_isPin.f
  rw [isIndex_eq m xs.length (by omega)]
  simp only [Option.bind_some]
  by_cases hm : 0 ≤ m ∧ m ≤ (xs.length : Int) - 1
  · have hp := mod_pins hx hm.1 (show m < xs.length by omega)
    rw [if_pos (decide_eq_true hm), if_pos hm.1, if_pos (by omega), w64 (by omega) (by omega), within_eq, Option.bind_some]
    congr 1
    rw [decide_eq_decide]
    exact ⟨fun h => ⟨hm, h⟩, fun h => h.2⟩
  · rw [if_neg (by simpa using hm), decide_eq_false (fun h => hm h.1)]
theorem spec_pin_eq {xs : List S63} (hx : areMods xs = true) (m p : Int) : spec_l13Pin.f xs m p = some (decide (PinOk xs m p)) := by
  have hn := ((areMods_iff xs).1 hx).1
  unfold spec_l13Pin.f
  rw [w64 (x := (xs.length : Int) - 1) (by omega) (by omega), l01In_eq]
  simp only [Option.bind_some]
  by_cases hm : 0 ≤ m ∧ m ≤ (xs.length : Int) - 1
  · have hp := mod_pins hx hm.1 (show m < xs.length by omega)
    rw [if_pos (decide_eq_true hm), if_pos hm.1, if_pos (by omega), w64 (by omega) (by omega), l01In_eq, Option.bind_some]
    congr 1
    rw [decide_eq_decide]
    exact ⟨fun h => ⟨hm, h⟩, fun h => h.2⟩
  · rw [if_neg (by simpa using hm), decide_eq_false (fun h => hm h.1)]
theorem cueAt_ev (us : List S59) (hn : us.length ≤ 1000000) (m p : Int) (hc : ∀ j : Int, 0 ≤ j → j < us.length → 0 ≤ (rd_T59 us j).f0) : ∃ c, Ev (fun k => impl_cueAt.f k us m p) c ∧ (0 ≤ c ↔ ∃ j : Int, 0 ≤ j ∧ j < us.length ∧ AtPin us m p j) := by
  have h : ∀ (d : Nat) (i : Int), 0 ≤ i → i + d = us.length → ∃ c, Ev (fun k => impl_cueAt.l0 k m p us (us.length : Int) i) c ∧ (0 ≤ c ↔ ∃ j : Int, i ≤ j ∧ j < us.length ∧ AtPin us m p j) := by
    intro d
    induction d with
    | zero => intro i h0 h1
              exact ⟨-1, Ev_succ (by simp only [impl_cueAt.l0]; exact Ev_neg (by omega) (Ev.now _)), ⟨fun h => by omega, fun ⟨j, h2, h3, _⟩ => by omega⟩⟩
    | succ d ih =>
      intro i h0 h1
      by_cases hm : AtPin us m p i
      · exact ⟨(rd_T59 us i).f0, Ev_succ (by
          simp only [impl_cueAt.l0]
          exact Ev_pos (by omega) (Ev_pos h0 (Ev_pos (by omega) (Ev_pos hm.1 (Ev_pos hm.2 (Ev.now _)))))), ⟨fun _ => ⟨i, Int.le_refl _, by omega, hm⟩, fun _ => hc i h0 (by omega)⟩⟩
      · obtain ⟨c, he, hi⟩ := ih (i + 1) (by omega) (by omega)
        refine ⟨c, Ev_succ (by
          simp only [impl_cueAt.l0]
          refine Ev_pos (by omega) (Ev_pos h0 (Ev_pos (by omega) ?_))
          rw [w64 (by omega) (by omega)]
          exact Ev_ite (fun ha => Ev_neg (fun hb => hm ⟨ha, hb⟩) he) (fun _ => he)), hi.trans ⟨fun ⟨j, h2, h3, h4⟩ => ⟨j, by omega, h3, h4⟩, fun ⟨j, h2, h3, h4⟩ => ⟨j, ?_, h3, h4⟩⟩⟩
        by_cases hj : j = i
        · rw [hj] at h4; exact absurd h4 hm
        · omega
  exact h us.length 0 (by omega) (by omega)
theorem l13At_ev (ws : List S59) (hn : ws.length ≤ 1000000) {i : Int} (hi0 : 0 ≤ i) (hi1 : i < ws.length) : ∃ c, Ev (fun k => spec_l13At.f k ws (rd_T59 ws i).f1 (rd_T59 ws i).f2) c ∧ (c = i ↔ ∀ j : Int, 0 ≤ j → j < i → ¬ AtPin ws (rd_T59 ws i).f1 (rd_T59 ws i).f2 j) := by
  have h : ∀ (d : Nat) (s : Int), 0 ≤ s → s + d = i → (∀ j : Int, 0 ≤ j → j < s → ¬ AtPin ws (rd_T59 ws i).f1 (rd_T59 ws i).f2 j) → ∃ c, Ev (fun k => spec_l13At.l0 k ws (rd_T59 ws i).f1 (rd_T59 ws i).f2 s) c ∧ (c = i ↔ ∀ j : Int, 0 ≤ j → j < i → ¬ AtPin ws (rd_T59 ws i).f1 (rd_T59 ws i).f2 j) := by
    intro d
    induction d with
    | zero =>
      intro s h0 h1 hno
      obtain rfl : s = i := by omega
      exact ⟨s, Ev_succ (by
        simp only [spec_l13At.l0, if_true]
        exact Ev_pos hi1 (Ev_pos h0 (Ev.now _))), ⟨fun _ => hno, fun _ => rfl⟩⟩
    | succ d ih =>
      intro s h0 h1 hno
      by_cases hm : AtPin ws (rd_T59 ws i).f1 (rd_T59 ws i).f2 s
      · exact ⟨s, Ev_succ (by
          simp only [spec_l13At.l0]
          exact Ev_pos (by omega) (Ev_pos h0 (Ev_pos hm.1 (Ev_pos hm.2 (Ev.now _))))), ⟨fun h => by omega, fun h => absurd hm (h s h0 (by omega))⟩⟩
      · obtain ⟨c, he, hi⟩ := ih (s + 1) (by omega) (by omega) (fun j h2 h3 => by
          by_cases hj : j = s
          · rw [hj]; exact hm
          · exact hno j h2 (by omega))
        refine ⟨c, Ev_succ (by
          simp only [spec_l13At.l0]
          refine Ev_pos (by omega) (Ev_pos h0 ?_)
          rw [w64 (by omega) (by omega)]
          exact Ev_ite (fun ha => Ev_neg (fun hb => hm ⟨ha, hb⟩) he) (fun _ => he)), hi⟩
  exact h i.toNat 0 (by omega) (by omega) (fun j h0 h1 => by omega)

theorem impl_AreWires_ev (xs : List S63) (n : Int) (ws : List S59) (hw : ws.length ≤ 1000000) : Ev (fun k => impl_AreWires.f k xs n ws) (areW xs n ws) := by
  unfold impl_AreWires.f
  have hj0 : ∀ r, r = false → Ev (fun k => impl_AreWires.j0 k xs n ws true) r := fun r h => Ev_succ (by
    simp only [impl_AreWires.j0, if_true]
    exact Ev_some h.symm)
  have hno : ¬ AreW xs n ws → areW xs n ws = false := fun h => by rw [Bool.eq_false_iff]; exact fun q => h (areW_iff.1 q)
  refine Ev.bind (impl_AreModules_ev xs) (Ev_ite (fun hx => ?_) (fun hx => hj0 _ (hno (fun q => hx q.1))))
  rw [within_eq]
  simp only [Option.bind_some]
  by_cases hn : 0 ≤ n ∧ n ≤ 20
  · rw [decide_eq_true hn]
    refine Ev_succ (by
      simp only [impl_AreWires.j0, Bool.not_true, Bool.false_eq_true, if_false]
      refine Ev_allI (F := fun k i => impl_AreWires.l0 k xs n ws ws (ws.length : Int) i) (p := OkWire xs n ws) (n := ws.length) (bad := false) (fun i h0 h1 hb => ?_) ws.length 0 (by omega) (by omega) (fun j h0 h1 => by omega) (fun h => hno (fun q => h q.2.2)) (fun h => Ev_succ (by
        simp only [impl_AreWires.l0]
        exact Ev_neg (by omega) (Ev_some (areW_iff.2 ⟨hx, hn, h⟩).symm)))
      have hi2 : ∀ j : Int, 0 ≤ j → j < i → rd_T59 (ws.take i.toNat) j = rd_T59 ws j := fun j h2 h3 => rdWire_take h2 (by omega)
      have hl : ((ws.take i.toNat).length : Int) = i := by rw [List.length_take]; omega
      obtain ⟨c, hce, hci⟩ := cueAt_ev (ws.take i.toNat) (by omega) (rd_T59 ws i).f1 (rd_T59 ws i).f2 (fun j h2 h3 => by rw [hi2 j h2 (by omega)]; exact (hb j h2 (by omega)).1.1)
      have hc : 0 ≤ c ↔ ∃ j : Int, 0 ≤ j ∧ j < i ∧ AtPin ws (rd_T59 ws i).f1 (rd_T59 ws i).f2 j := by
        rw [hci]
        constructor
        · rintro ⟨j, h2, h3, h4⟩
          refine ⟨j, h2, by omega, ?_⟩
          unfold AtPin at h4 ⊢
          rw [hi2 j h2 (by omega)] at h4
          exact h4
        · rintro ⟨j, h2, h3, h4⟩
          refine ⟨j, h2, by omega, ?_⟩
          unfold AtPin at h4 ⊢
          rw [hi2 j h2 (by omega)]
          exact h4
      have hj2t : ∀ r, r = false → Ev (fun k => impl_AreWires.j2 k xs n ws i ws (ws.length : Int) i true (rd_T59 ws i).f0 (rd_T59 ws i).f1 (rd_T59 ws i).f2) r := fun r h => Ev_succ (by
        simp only [impl_AreWires.j2, if_true]
        exact Ev_some h.symm)
      have hj2 : ∀ r, (0 ≤ c → r = false) → (¬ 0 ≤ c → Ev (fun k => impl_AreWires.l0 k xs n ws ws (ws.length : Int) (i + 1)) r) → Ev (fun k => impl_AreWires.j2 k xs n ws i ws (ws.length : Int) i false (rd_T59 ws i).f0 (rd_T59 ws i).f1 (rd_T59 ws i).f2) r := fun r hf hg => Ev_succ (by
        simp only [impl_AreWires.j2, Bool.false_eq_true, if_false]
        refine Ev_pos h0 (Ev_pos (by omega) (Ev.bind hce ?_))
        rw [w64 (by omega) (by omega)]
        exact Ev_ite (fun q => Ev_some (hf q).symm) (fun q => hg q))
      -- one round, by the four tests
      have hround : ∀ r, (¬ OkWire xs n ws i → r = false) → (OkWire xs n ws i → Ev (fun k => impl_AreWires.l0 k xs n ws ws (ws.length : Int) (i + 1)) r) → Ev (fun k => impl_AreWires.l0 k xs n ws ws (ws.length : Int) i) r := fun r hf hg => Ev_succ (by
        simp only [impl_AreWires.l0, within_eq, impl_isPin_eq hx, Option.bind_some]
        refine Ev_pos h1 (Ev_pos h0 (Ev_pos h1 ?_))
        rw [w64 (x := n - 1) (by omega) (by omega)]
        refine Ev_ite (fun ha => Ev_ite (fun hp => ?_) (fun hp => hj2t _ (hf (fun q => hp (decide_eq_true q.2.1))))) (fun ha => hj2t _ (hf (fun q => ha (decide_eq_true q.1))))
        have ha' := of_decide_eq_true ha
        have hp' := of_decide_eq_true hp
        have hlast : (0 < i → (rd_T59 ws (i - 1)).f0 < (rd_T59 ws i).f0) → Ev (fun k => impl_AreWires.j2 k xs n ws i ws (ws.length : Int) i false (rd_T59 ws i).f0 (rd_T59 ws i).f1 (rd_T59 ws i).f2) r := fun hprev =>
          hj2 r (fun q => hf (fun w => by
            obtain ⟨j, h2, h3, h4⟩ := hc.1 q
            exact w.2.2.2 j h2 h3 h4)) (fun q => hg ⟨ha', hp', hprev, fun j h2 h3 h4 => q (hc.2 ⟨j, h2, h3, h4⟩)⟩)
        refine Ev_ite (fun hi => ?_) (fun hi => hlast (fun q => absurd q hi))
        rw [w64 (x := i - 1) (by omega) (by omega)]
        refine Ev_pos (by omega) (Ev_pos (by omega) ?_)
        by_cases hlt : (rd_T59 ws (i - 1)).f0 ≥ (rd_T59 ws i).f0
        · rw [decide_eq_true hlt]
          exact hj2t _ (hf (fun q => by have := q.2.2.1 hi; omega))
        · rw [decide_eq_false hlt]
          exact hlast (fun _ => by omega))
      exact ⟨fun hp hr => hround _ (fun q => absurd hp q) (fun _ => hr), fun hp hr => hround _ (fun _ => hr) (fun q => absurd q hp)⟩)
  · rw [decide_eq_false hn]
    exact hj0 _ (hno (fun q => hn q.2.1))
theorem spec_AreWires_ev (xs : List S63) (hxn : xs.length ≤ 1000000) (n : Int) (ws : List S59) (hw : ws.length ≤ 1000000) : Ev (fun k => spec_AreWires.f k xs n ws) (areW xs n ws) := by
  unfold spec_AreWires.f
  have hj0 : ∀ r, r = false → Ev (fun k => spec_AreWires.j0 k xs n ws true) r := fun r h => Ev_succ (by
    simp only [spec_AreWires.j0, if_true]
    exact Ev_some h.symm)
  have hno : ¬ AreW xs n ws → areW xs n ws = false := fun h => by rw [Bool.eq_false_iff]; exact fun q => h (areW_iff.1 q)
  refine Ev.bind (spec_AreModules_ev xs hxn) (Ev_ite (fun hx => ?_) (fun hx => hj0 _ (hno (fun q => hx q.1))))
  rw [l01In_eq]
  simp only [Option.bind_some]
  by_cases hn : 0 ≤ n ∧ n ≤ 20
  · rw [decide_eq_true hn]
    refine Ev_succ (by
      simp only [spec_AreWires.j0, Bool.not_true, Bool.false_eq_true, if_false]
      refine Ev_allI (F := fun k i => spec_AreWires.l0 k xs n ws i) (p := OkWire xs n ws) (n := ws.length) (bad := false) (fun i h0 h1 hb => ?_) ws.length 0 (by omega) (by omega) (fun j h0 h1 => by omega) (fun h => hno (fun q => h q.2.2)) (fun h => Ev_succ (by
        simp only [spec_AreWires.l0]
        exact Ev_neg (by omega) (Ev_some (areW_iff.2 ⟨hx, hn, h⟩).symm)))
      obtain ⟨c, hce, hc⟩ := l13At_ev ws hw h0 h1
      have hround : ∀ r, (¬ OkWire xs n ws i → r = false) → (OkWire xs n ws i → Ev (fun k => spec_AreWires.l0 k xs n ws (i + 1)) r) → Ev (fun k => spec_AreWires.l0 k xs n ws i) r := fun r hf hg => Ev_succ (by
        simp only [spec_AreWires.l0, l01In_eq, spec_pin_eq hx, Option.bind_some]
        refine Ev_pos h1 (Ev_pos h0 ?_)
        rw [w64 (x := n - 1) (by omega) (by omega), w64 (x := i + 1) (by omega) (by omega)]
        refine Ev_ite (fun ha => Ev_ite (fun hp => ?_) (fun hp => Ev_some (hf (fun q => hp (decide_eq_true q.2.1))).symm)) (fun ha => Ev_some (hf (fun q => ha (decide_eq_true q.1))).symm)
        have ha' := of_decide_eq_true ha
        have hp' := of_decide_eq_true hp
        refine Ev_ite (fun hi => ?_) (fun hi => Ev.bind hce (Ev_ite (fun q => hg ⟨ha', hp', fun w => absurd w hi, hc.1 q⟩) (fun q => Ev_some (hf (fun w => q (hc.2 w.2.2.2))).symm)))
        rw [w64 (x := i - 1) (by omega) (by omega)]
        refine Ev_pos (by omega) (Ev_pos (by omega) (Ev_ite (fun hlt => Ev_some (hf (fun q => by have := q.2.2.1 hi; omega)).symm) (fun hlt => Ev.bind hce (Ev_ite (fun q => hg ⟨ha', hp', fun _ => by omega, hc.1 q⟩) (fun q => Ev_some (hf (fun w => q (hc.2 w.2.2.2))).symm)))))
        )
      exact ⟨fun hp hr => hround _ (fun q => absurd hp q) (fun _ => hr), fun hp hr => hround _ (fun _ => hr) (fun q => absurd q hp)⟩)
  · rw [decide_eq_false hn]
    exact hj0 _ (hno (fun q => hn q.2.1))

def codeS (xs : List S63) (hop sent : Int) : Int := if areMods xs = true then (if (1 ≤ hop ∧ hop ≤ 10) ∧ 0 ≤ sent ∧ sent ≤ 100000 then 0 else 2) else 1
theorem codeS_0 {xs : List S63} {hop sent : Int} (h : codeS xs hop sent = 0) : areMods xs = true ∧ (1 ≤ hop ∧ hop ≤ 10) ∧ 0 ≤ sent ∧ sent ≤ 100000 := by
  unfold codeS at h
  by_cases h1 : areMods xs = true
  · rw [if_pos h1] at h
    by_cases h2 : (1 ≤ hop ∧ hop ≤ 10) ∧ 0 ≤ sent ∧ sent ≤ 100000
    · exact ⟨h1, h2⟩
    · rw [if_neg h2] at h; exact absurd h (by decide)
  · rw [if_neg h1] at h; exact absurd h (by decide)
theorem l23Code_ev (xs : List S63) (hn : xs.length ≤ 1000000) (hop sent : Int) : Ev (fun k => spec_l23Code.f k xs hop sent 0) (codeS xs hop sent) := by
  unfold spec_l23Code.f
  have h12 : Ev (fun k => spec_l12Code.f k xs 0) (if areMods xs = true then 0 else 1) := by
    unfold spec_l12Code.f
    refine Ev.bind (spec_AreModules_ev xs hn) (Ev_ite (fun h => ?_) (fun h => by rw [if_neg h]; exact Ev.now _))
    have h2 := ((areMods_iff xs).1 h).1
    rw [if_pos h, l01In_eq, w64 (by omega) (by omega)]
    simp only [Option.bind_some, decide_eq_true_eq]
    exact Ev_pos (by omega) (Ev.now _)
  refine Ev.bind h12 ?_
  unfold codeS
  by_cases h : areMods xs = true
  · rw [if_pos h, if_pos h, l01In_eq, l01In_eq]
    simp only [Option.bind_some, decide_eq_true_eq]
    refine Ev_pos trivial (Ev_ite (fun h1 => Ev_ite (fun h2 => ?_) (fun h2 => ?_)) (fun h1 => ?_))
    · rw [if_pos ⟨h1, h2⟩]; exact Ev.now _
    · rw [if_neg (fun q => h2 q.2)]; exact Ev.now _
    · rw [if_neg (fun q => h1 q.1)]; exact Ev.now _
  · rw [if_neg h, if_neg h]
    exact Ev_neg (by decide) (Ev.now _)

theorem isHop_eq (a : Int) : impl_isHop.f a = some (decide (1 ≤ a ∧ a ≤ 10)) := by unfold impl_isHop.f; rw [within_eq]; rfl
theorem isTick_eq (a : Int) : impl_isTick.f a = some (decide (0 ≤ a ∧ a ≤ 100000)) := by unfold impl_isTick.f; rw [within_eq]; rfl

def TicksOk (ts : List Int) : Prop := ∀ i : Int, 0 ≤ i → i < ts.length → -1 ≤ rd ts i ∧ rd ts i ≤ 100000
noncomputable def codeC (xs : List S63) (n : Int) (ws : List S59) (hop sent : Int) (ts : List Int) : Int := open Classical in if AreW xs n ws then (if ((1 ≤ hop ∧ hop ≤ 10) ∧ 0 ≤ sent ∧ sent ≤ 100000) ∧ (ts.length : Int) = n ∧ TicksOk ts then 0 else 2) else 1
theorem codeC_of {xs : List S63} {n : Int} {ws : List S59} {hop sent : Int} {ts : List Int} (h : AreW xs n ws) (h2 : ((1 ≤ hop ∧ hop ≤ 10) ∧ 0 ≤ sent ∧ sent ≤ 100000) ∧ (ts.length : Int) = n ∧ TicksOk ts) : codeC xs n ws hop sent ts = 0 := by unfold codeC; rw [if_pos h, if_pos h2]
theorem codeC_1 {xs : List S63} {n : Int} {ws : List S59} {hop sent : Int} {ts : List Int} (h : ¬ AreW xs n ws) : codeC xs n ws hop sent ts = 1 := by unfold codeC; rw [if_neg h]
theorem codeC_2 {xs : List S63} {n : Int} {ws : List S59} {hop sent : Int} {ts : List Int} (h : AreW xs n ws) (h2 : ¬ (((1 ≤ hop ∧ hop ≤ 10) ∧ 0 ≤ sent ∧ sent ≤ 100000) ∧ (ts.length : Int) = n ∧ TicksOk ts)) : codeC xs n ws hop sent ts = 2 := by unfold codeC; rw [if_pos h, if_neg h2]
theorem codeC_0 {xs : List S63} {n : Int} {ws : List S59} {hop sent : Int} {ts : List Int} (h : codeC xs n ws hop sent ts = 0) : AreW xs n ws ∧ ((1 ≤ hop ∧ hop ≤ 10) ∧ 0 ≤ sent ∧ sent ≤ 100000) ∧ (ts.length : Int) = n ∧ TicksOk ts := by
  by_cases h1 : AreW xs n ws
  · by_cases h2 : ((1 ≤ hop ∧ hop ≤ 10) ∧ 0 ≤ sent ∧ sent ≤ 100000) ∧ (ts.length : Int) = n ∧ TicksOk ts
    · exact ⟨h1, h2⟩
    · rw [codeC_2 h1 h2] at h; exact absurd h (by decide)
  · rw [codeC_1 h1] at h; exact absurd h (by decide)
theorem stopsAsked_ev (xs : List S63) (n : Int) (ws : List S59) (hop sent : Int) (ts : List Int) (hw : ws.length ≤ 1000000) (ht : ts.length ≤ 1000000) : Ev (fun k => impl_stopsAsked.f k xs n ws hop sent ts) (codeC xs n ws hop sent ts) := by
  unfold impl_stopsAsked.f
  refine Ev.bind (impl_AreWires_ev xs n ws hw) (Ev_ite (fun h => ?_) (fun h => Ev_some (codeC_1 (fun q => h (areW_iff.2 q))).symm))
  have hA := areW_iff.1 h
  rw [isHop_eq, isTick_eq]
  simp only [Option.bind_some]
  refine Ev_ite (fun h1 => Ev_ite (fun h2 => Ev_ite (fun h3 => ?_) (fun h3 => Ev_some (codeC_2 hA (fun q => h3 q.2.1)).symm)) (fun h2 => Ev_some (codeC_2 hA (fun q => h2 (decide_eq_true q.1.2))).symm)) (fun h1 => Ev_some (codeC_2 hA (fun q => h1 (decide_eq_true q.1.1))).symm)
  have hall : Ev (fun k => impl_allWithin.f k ts (-1) 100000) (open Classical in decide (TicksOk ts)) := by
    unfold impl_allWithin.f
    refine Ev_allK (F := fun k i => impl_allWithin.l0 k (-1) 100000 ts (ts.length : Int) i) (p := fun i => -1 ≤ rd ts i ∧ rd ts i ≤ 100000) (n := ts.length) (bad := false) (fun i h4 h5 => ⟨fun hp hr => Ev_succ (by
      simp only [impl_allWithin.l0, within_eq, Option.bind_some, decide_eq_true_eq]
      rw [w64 (by omega) (by omega)]
      exact Ev_pos h5 (Ev_pos h4 (Ev_pos h5 (Ev_pos hp hr)))), fun hp hr => Ev_succ (by
      simp only [impl_allWithin.l0, within_eq, Option.bind_some, decide_eq_true_eq]
      exact Ev_pos h5 (Ev_pos h4 (Ev_pos h5 (Ev_neg hp (Ev_some hr.symm)))))⟩) ts.length 0 (by omega) (by omega) (fun hno => @decide_eq_false _ (Classical.propDecidable _) hno) (fun hv => Ev_succ (by
      simp only [impl_allWithin.l0]
      exact Ev_neg (by omega) (Ev_some (@decide_eq_true _ (Classical.propDecidable _) hv).symm)))
  refine Ev.bind hall (Ev_ite (fun h4 => Ev_some (codeC_of hA ⟨⟨of_decide_eq_true h1, of_decide_eq_true h2⟩, h3, @of_decide_eq_true _ (Classical.propDecidable _) h4⟩).symm) (fun h4 => Ev_some (codeC_2 hA (fun q => h4 (@decide_eq_true _ (Classical.propDecidable _) q.2.2))).symm))
theorem l23Cues_ev (xs : List S63) (hxn : xs.length ≤ 1000000) (n : Int) (ws : List S59) (hop sent : Int) (ts : List Int) (hw : ws.length ≤ 1000000) (ht : ts.length ≤ 1000000) : Ev (fun k => spec_l23Cues.f k xs n ws hop sent ts) (codeC xs n ws hop sent ts) := by
  unfold spec_l23Cues.f
  refine Ev.bind (spec_AreWires_ev xs hxn n ws hw) (Ev_ite (fun h => ?_) (fun h => Ev_some (codeC_1 (fun q => h (areW_iff.2 q))).symm))
  have hA := areW_iff.1 h
  refine Ev.bind (l23Code_ev xs hxn hop sent) ?_
  have hinv : ∀ (s i : Int), 0 ≤ i → i < ts.length → ((s = codeS xs hop sent ∧ ∀ j : Int, 0 ≤ j → j < i → -1 ≤ rd ts j ∧ rd ts j ≤ 100000) ∨ (s = 2 ∧ ∃ j : Int, 0 ≤ j ∧ j < ts.length ∧ ¬ (-1 ≤ rd ts j ∧ rd ts j ≤ 100000))) → (((if -1 ≤ rd ts i ∧ rd ts i ≤ 100000 then s else 2) = codeS xs hop sent ∧ ∀ j : Int, 0 ≤ j → j < i + 1 → -1 ≤ rd ts j ∧ rd ts j ≤ 100000) ∨ ((if -1 ≤ rd ts i ∧ rd ts i ≤ 100000 then s else 2) = 2 ∧ ∃ j : Int, 0 ≤ j ∧ j < ts.length ∧ ¬ (-1 ≤ rd ts j ∧ rd ts j ≤ 100000))) := fun s i h0 h1 hI => by
    by_cases hc : -1 ≤ rd ts i ∧ rd ts i ≤ 100000
    · rw [if_pos hc]
      rcases hI with ⟨h2, h3⟩ | h2
      · refine .inl ⟨h2, fun j h4 h5 => ?_⟩
        by_cases hj : j = i
        · rw [hj]; exact hc
        · exact h3 j h4 (by omega)
      · exact .inr h2
    · rw [if_neg hc]
      exact .inr ⟨rfl, i, h0, h1, hc⟩
  have hfin := foldU_ind (upd := fun (s i : Int) => if -1 ≤ rd ts i ∧ rd ts i ≤ 100000 then s else 2) (n := ts.length) (fun s i => (s = codeS xs hop sent ∧ ∀ j : Int, 0 ≤ j → j < i → -1 ≤ rd ts j ∧ rd ts j ≤ 100000) ∨ (s = 2 ∧ ∃ j : Int, 0 ≤ j ∧ j < ts.length ∧ ¬ (-1 ≤ rd ts j ∧ rd ts j ≤ 100000))) hinv ts.length (codeS xs hop sent) 0 (by omega) (by omega) (.inl ⟨rfl, fun j h0 h1 => by omega⟩)
  refine Ev_forK (F := fun k s i => spec_l23Cues.l0 k n ts s i) (upd := fun (s i : Int) => if -1 ≤ rd ts i ∧ rd ts i ≤ 100000 then s else 2) (n := ts.length) (fun _ _ => True) (fun s i h0 h1 _ => ⟨trivial, fun hr => Ev_succ (by
    simp only [spec_l23Cues.l0, l01In_eq, Option.bind_some, decide_eq_true_eq]
    rw [w64 (by omega) (by omega)]
    refine Ev_pos h1 (Ev_pos h0 (Ev_ite (fun hc => ?_) (fun hc => ?_)))
    · rw [if_pos hc] at hr; exact hr
    · rw [if_neg hc] at hr; exact hr)⟩) ts.length (codeS xs hop sent) 0 (by omega) (by omega) trivial (fun _ => Ev_succ (by
    simp only [spec_l23Cues.l0]
    refine Ev_neg (by omega) (Ev_ite (fun hl => Ev_some ?_) (fun hl => Ev_some (codeC_2 hA (fun q => hl q.2.1)).symm))
    have hcs : codeS xs hop sent = if (1 ≤ hop ∧ hop ≤ 10) ∧ 0 ≤ sent ∧ sent ≤ 100000 then 0 else 2 := by unfold codeS; rw [if_pos hA.1]
    rcases hfin with ⟨h2, h3⟩ | ⟨h2, j, h3, h4, h5⟩
    · rw [h2, hcs]
      by_cases hok : (1 ≤ hop ∧ hop ≤ 10) ∧ 0 ≤ sent ∧ sent ≤ 100000
      · rw [if_pos hok, codeC_of hA ⟨hok, hl, h3⟩]
      · rw [if_neg hok, codeC_2 hA (fun q => hok q.1)]
    · rw [h2, codeC_2 hA (fun q => h5 (q.2.2 j h3 h4))]))

def lateB (xs : List S63) (hop sent : Int) (ts : List Int) (ws : List S59) (i : Int) : Bool := decide (rd ts (rd_T59 ws i).f0 ≥ sent ∧ rd ts (rd_T59 ws i).f0 < tickS xs hop sent (rd_T59 ws i).f1)
def goneB (xs : List S63) (hop sent : Int) (ts : List Int) (ws : List S59) (i : Int) : Bool := decide (rd ts (rd_T59 ws i).f0 ≥ 0 ∧ tickS xs hop sent (rd_T59 ws i).f1 ≤ rd ts (rd_T59 ws i).f0)
def pickW (ws : List S59) (p : Int → Bool) (o : List Int) (i : Int) : List Int := if p i = true then o ++ [(rd_T59 ws i).f0] else o
def pickedW (ws : List S59) (p : Int → Bool) : List Int := foldU (pickW ws p) ws.length [] 0
theorem pickW_length {ws : List S59} {p : Int → Bool} {o : List Int} {i : Int} (h : (o.length : Int) ≤ i) : ((pickW ws p o i).length : Int) ≤ i + 1 := by
  unfold pickW
  split
  · rw [List.length_append]; simp; omega
  · omega
theorem pickedW_length (ws : List S59) (p : Int → Bool) : (pickedW ws p).length ≤ ws.length := by
  have := foldU_ind (upd := pickW ws p) (n := ws.length) (fun o i => (o.length : Int) ≤ i) (fun o i _ _ hI => pickW_length hI) ws.length [] 0 (by omega) (by omega) (by simp)
  unfold pickedW
  omega
/-- What a wire's place gives, where the cue ticks may be asked. -/
theorem wire_at {xs : List S63} {n : Int} {ws : List S59} {hop sent : Int} {ts : List Int} (h : codeC xs n ws hop sent ts = 0) {i : Int} (h0 : 0 ≤ i) (h1 : i < ws.length) : areMods xs = true ∧ (1 ≤ hop ∧ hop ≤ 10) ∧ (0 ≤ sent ∧ sent ≤ 100000) ∧ 0 ≤ (rd_T59 ws i).f0 ∧ (rd_T59 ws i).f0 < ts.length ∧ (rd_T59 ws i).f1 < xs.length := by
  obtain ⟨hA, ⟨hh, hs⟩, hl, _⟩ := codeC_0 h
  have hw := hA.2.2 i h0 h1
  exact ⟨hA.1, hh, hs, hw.1.1, by have := hw.1.2; omega, by have := hw.2.1.1.2; omega⟩

theorem spec_late_ev {xs : List S63} {n : Int} {ws : List S59} {hop sent : Int} {ts : List Int} (hw : ws.length ≤ 1000000) (h : codeC xs n ws hop sent ts = 0) : Ev (fun k => spec_l23Some.f k xs ws hop sent ts false) (pickedW ws (lateB xs hop sent ts ws)) := by
  unfold spec_l23Some.f pickedW
  refine Ev_forK (F := fun k o i => spec_l23Some.l0 k xs ws hop sent ts false o i) (upd := pickW ws (lateB xs hop sent ts ws)) (n := ws.length) (fun o i => (o.length : Int) ≤ i) (fun o i h0 h1 hI => ⟨pickW_length hI, fun hr => ?_⟩) ws.length [] 0 (by omega) (by omega) (by simp) (fun _ => Ev_succ (by simp only [spec_l23Some.l0]; exact Ev_neg (by omega) (Ev.now _)))
  obtain ⟨hx, hh, hs, h2, h3, h4⟩ := wire_at h h0 h1
  refine Ev_succ (by
    simp only [spec_l23Some.l0, Bool.false_eq_true, if_false]
    refine Ev_pos h1 (Ev_pos h0 (Ev_pos h2 (Ev_pos h3 (Ev.bind (spec_tick_ev hx hh hs h4) ?_))))
    rw [w64 (by omega) (by omega)]
    unfold pickW at hr
    by_cases hp : lateB xs hop sent ts ws i = true
    · rw [if_pos hp] at hr
      obtain ⟨ha, hb⟩ := of_decide_eq_true hp
      exact Ev_pos (by omega) (Ev_pos ha (Ev_pos hb (Ev_pos (by omega) hr)))
    · rw [if_neg hp] at hr
      exact Ev_ite (fun _ => Ev_ite (fun ha => Ev_neg (fun hb => hp (decide_eq_true ⟨ha, hb⟩)) hr) (fun _ => hr)) (fun _ => hr))
theorem spec_gone_ev {xs : List S63} {n : Int} {ws : List S59} {hop sent : Int} {ts : List Int} (hw : ws.length ≤ 1000000) (h : codeC xs n ws hop sent ts = 0) : Ev (fun k => spec_l23Some.f k xs ws hop sent ts true) (pickedW ws (goneB xs hop sent ts ws)) := by
  unfold spec_l23Some.f pickedW
  refine Ev_forK (F := fun k o i => spec_l23Some.l0 k xs ws hop sent ts true o i) (upd := pickW ws (goneB xs hop sent ts ws)) (n := ws.length) (fun o i => (o.length : Int) ≤ i) (fun o i h0 h1 hI => ⟨pickW_length hI, fun hr => ?_⟩) ws.length [] 0 (by omega) (by omega) (by simp) (fun _ => Ev_succ (by simp only [spec_l23Some.l0]; exact Ev_neg (by omega) (Ev.now _)))
  obtain ⟨hx, hh, hs, h2, h3, h4⟩ := wire_at h h0 h1
  refine Ev_succ (by
    simp only [spec_l23Some.l0, if_true]
    refine Ev_pos h1 (Ev_pos h0 (Ev_pos h2 (Ev_pos h3 (Ev.bind (spec_tick_ev hx hh hs h4) ?_))))
    rw [w64 (by omega) (by omega)]
    unfold pickW at hr
    by_cases hp : goneB xs hop sent ts ws i = true
    · rw [if_pos hp] at hr
      obtain ⟨ha, hb⟩ := of_decide_eq_true hp
      exact Ev_pos ha (Ev_pos hb (Ev_pos (by omega) hr))
    · rw [if_neg hp] at hr
      exact Ev_ite (fun ha => Ev_neg (fun hb => hp (decide_eq_true ⟨ha, hb⟩)) hr) (fun _ => hr))

theorem impl_isLate_ev {xs : List S63} {n : Int} {ws : List S59} {hop sent : Int} {ts : List Int} (h : codeC xs n ws hop sent ts = 0) {i : Int} (h0 : 0 ≤ i) (h1 : i < ws.length) (p : Int) : Ev (fun k => impl_isLate.f k xs (rd_T59 ws i).f0 (rd_T59 ws i).f1 p hop sent ts) (lateB xs hop sent ts ws i) := by
  obtain ⟨hx, hh, hs, h2, h3, h4⟩ := wire_at h h0 h1
  unfold impl_isLate.f lateB
  refine Ev_pos h2 (Ev_pos h3 (Ev_ite (fun hc => Ev.bind (impl_tick_ev hx hh hs h4) (Ev_some ?_)) (fun hc => Ev_some (decide_eq_false (fun q => hc q.1)).symm)))
  rw [decide_eq_decide]
  exact ⟨fun q => ⟨hc, q⟩, fun q => q.2⟩

theorem impl_isStopped_ev {xs : List S63} {n : Int} {ws : List S59} {hop sent : Int} {ts : List Int} (h : codeC xs n ws hop sent ts = 0) {i : Int} (h0 : 0 ≤ i) (h1 : i < ws.length) (p : Int) : Ev (fun k => impl_isStopped.f k xs (rd_T59 ws i).f0 (rd_T59 ws i).f1 p hop sent ts) (goneB xs hop sent ts ws i) := by
  obtain ⟨hx, hh, hs, h2, h3, h4⟩ := wire_at h h0 h1
  unfold impl_isStopped.f goneB
  refine Ev_pos h2 (Ev_pos h3 (Ev_ite (fun hc => Ev.bind (impl_tick_ev hx hh hs h4) (Ev_some ?_)) (fun hc => Ev_some (decide_eq_false (fun q => hc q.1)).symm)))
  rw [decide_eq_decide]
  exact ⟨fun q => ⟨hc, q⟩, fun q => q.2⟩

theorem rd_here {b : List Int} {i : Int} (h0 : 0 ≤ i) (h1 : i < b.length) : rd b i = b[i.toNat]'(by omega) := by
  simp [rd, List.getD_eq_getElem?_getD, List.getElem?_eq_getElem (show i.toNat < b.length by omega)]
theorem l01Has_ev (l : List Int) (h : l.length ≤ 100000000) (v : Int) : Ev (fun k => spec_l01Has.f k l v) (decide (v ∈ l)) := by
  unfold spec_l01Has.f
  exact Ev_allK (F := fun k i => spec_l01Has.l0 k l v i) (p := fun i => ¬ rd l i = v) (n := l.length) (bad := true) (fun i h0 h1 => ⟨fun hp hr => Ev_succ (by
    simp only [spec_l01Has.l0]
    rw [w64 (by omega) (by omega)]
    exact Ev_pos h1 (Ev_pos h0 (Ev_neg hp hr))), fun hp hr => Ev_succ (by
    simp only [spec_l01Has.l0]
    exact Ev_pos h1 (Ev_pos h0 (Ev_pos (by simpa using hp) (Ev_some hr.symm))))⟩) l.length 0 (by omega) (by omega) (fun hno => by
    rw [decide_eq_true_eq]
    by_cases hm : v ∈ l
    · exact hm
    · refine absurd (fun j h0 h1 he => hm ?_) hno
      rw [← he, rd_here h0 h1]
      exact List.getElem_mem _) (fun hall => Ev_succ (by
    simp only [spec_l01Has.l0]
    refine Ev_neg (by omega) (Ev_some ?_)
    symm
    rw [decide_eq_false_iff_not]
    intro hm
    obtain ⟨j, hj⟩ := List.mem_iff_getElem?.1 hm
    obtain ⟨hl, he⟩ := List.getElem?_eq_some_iff.1 hj
    refine hall (j : Int) (by omega) (by omega) ?_
    rw [rd_here (by omega) (by omega), ← he]
    congr 1))

theorem pickedW_mem {ws : List S59} {p : Int → Bool} {v : Int} : v ∈ pickedW ws p ↔ ∃ j : Int, 0 ≤ j ∧ j < ws.length ∧ p j = true ∧ (rd_T59 ws j).f0 = v := by
  have := foldU_ind (upd := pickW ws p) (n := ws.length) (fun o i => ∀ v, v ∈ o ↔ ∃ j : Int, 0 ≤ j ∧ j < i ∧ p j = true ∧ (rd_T59 ws j).f0 = v) (fun o i h0 h1 hI v => by
    unfold pickW
    by_cases hp : p i = true
    · rw [if_pos hp, List.mem_append, List.mem_singleton, hI v]
      constructor
      · rintro (⟨j, h2, h3, h4⟩ | h2)
        · exact ⟨j, h2, by omega, h4⟩
        · exact ⟨i, h0, by omega, hp, h2.symm⟩
      · rintro ⟨j, h2, h3, h4, h5⟩
        by_cases hj : j = i
        · rw [hj] at h5; exact .inr h5.symm
        · exact .inl ⟨j, h2, by omega, h4, h5⟩
    · rw [if_neg hp, hI v]
      constructor
      · rintro ⟨j, h2, h3, h4⟩
        exact ⟨j, h2, by omega, h4⟩
      · rintro ⟨j, h2, h3, h4, h5⟩
        by_cases hj : j = i
        · rw [hj] at h4; exact absurd h4 hp
        · exact ⟨j, h2, by omega, h4, h5⟩) ws.length [] 0 (by omega) (by omega) (fun v => ⟨(fun h => by cases h), fun ⟨j, h2, h3, _⟩ => by omega⟩)
  exact this v
theorem copyList_eq {b : List Int} (h : b.length ≤ 1000000) : impl_copyList.f b = some b := by
  unfold impl_copyList.f
  rw [Option.bind_some, if_pos (by simp; omega), List.nil_append]
theorem rd_set {s : List Int} {j v u : Int} (h0 : 0 ≤ j) (h1 : j < s.length) (h2 : 0 ≤ u) : rd (s.set j.toNat v) u = if u = j then v else rd s u := by
  by_cases h : u = j
  · rw [if_pos h, h]
    simp [rd, List.getD_eq_getElem?_getD, List.getElem?_set_self (show j.toNat < s.length by omega)]
  · rw [if_neg h]
    simp only [rd, List.getD_eq_getElem?_getD]
    rw [List.getElem?_set_ne (by omega)]
/-- The cue ticks without those of the cues told. -/
def restM (G ts : List Int) : List Int := (List.range ts.length).map fun (i : Nat) => if (i : Int) ∈ G then -1 else rd ts (i : Int)
theorem restM_length (G ts : List Int) : (restM G ts).length = ts.length := by unfold restM; simp
theorem restM_at {G ts : List Int} {i : Int} (h0 : 0 ≤ i) (h1 : i < ts.length) : rd (restM G ts) i = if i ∈ G then -1 else rd ts i := by
  rw [rd_here h0 (by rw [restM_length]; exact h1)]
  unfold restM
  simp only [List.getElem_map, List.getElem_range]
  rw [show ((i.toNat : Nat) : Int) = i by omega]
theorem list_same {a b : List Int} (hl : a.length = b.length) (h : ∀ i : Int, 0 ≤ i → i < a.length → rd a i = rd b i) : a = b := by
  apply List.ext_getElem hl
  intro i h1 h2
  have := h (i : Int) (by omega) (by omega)
  rw [rd_here (by omega) (by omega), rd_here (by omega) (by omega)] at this
  exact this
theorem core_FnExactWithoutLateCues (xs : List S63) (n : Int) (ws : List S59) (hop sent : Int) (ts : List Int) (hxn : xs.length ≤ 1000000) (hw : ws.length ≤ 1000000) (ht : ts.length ≤ 1000000) (_w1 : (Lit.int .i64 n).wf = true) (_w2 : (Lit.int .i64 hop).wf = true) (_w3 : (Lit.int .i64 sent).wf = true) : ∃ r1 r2, Ev (fun k => spec_WithoutLateCues.f k xs n ws hop sent ts) (r1, r2) ∧ Ev (fun k => impl_WithoutLateCues.f k xs n ws hop sent ts) (r1, r2) ∧ r1.length ≤ 1000000 := by
  unfold spec_WithoutLateCues.f impl_WithoutLateCues.f
  by_cases h : codeC xs n ws hop sent ts = 0
  · have hs := l23Cues_ev xs hxn n ws hop sent ts hw ht
    have hi := stopsAsked_ev xs n ws hop sent ts hw ht
    rw [h] at hs hi
    obtain ⟨_, _, hnl, _⟩ := codeC_0 h
    obtain ⟨G, hG⟩ : ∃ G, G = pickedW ws (lateB xs hop sent ts ws) ++ pickedW ws (goneB xs hop sent ts ws) := ⟨_, rfl⟩
    have hGl : G.length ≤ 2000000 := by
      have := pickedW_length ws (lateB xs hop sent ts ws)
      have := pickedW_length ws (goneB xs hop sent ts ws)
      rw [hG, List.length_append]
      omega
    have hGm : ∀ v, v ∈ G ↔ ∃ j : Int, 0 ≤ j ∧ j < ws.length ∧ (lateB xs hop sent ts ws j = true ∨ goneB xs hop sent ts ws j = true) ∧ (rd_T59 ws j).f0 = v := fun v => by
      rw [hG, List.mem_append, pickedW_mem, pickedW_mem]
      constructor
      · rintro (⟨j, h2, h3, h4, h5⟩ | ⟨j, h2, h3, h4, h5⟩)
        · exact ⟨j, h2, h3, .inl h4, h5⟩
        · exact ⟨j, h2, h3, .inr h4, h5⟩
      · rintro ⟨j, h2, h3, h4 | h4, h5⟩
        · exact .inl ⟨j, h2, h3, h4, h5⟩
        · exact .inr ⟨j, h2, h3, h4, h5⟩
    refine ⟨restM G ts, 0, Ev.bind hs (Ev_pos rfl (Ev.bind (spec_late_ev hw h) (Ev.bind (spec_gone_ev hw h) ?_))), Ev.bind hi (Ev_pos rfl (Ev_bindc (copyList_eq ht) ?_)), by rw [restM_length]; exact ht⟩
    · rw [← hG]
      have hgl : (pickedW ws (lateB xs hop sent ts ws)).length + (pickedW ws (goneB xs hop sent ts ws)).length < 17592186044416 := by
        rw [hG, List.length_append] at hGl
        omega
      refine Ev_pos hgl ?_
      have hfin := foldU_ind (upd := fun (o : List Int) i => o ++ [if i ∈ G then -1 else rd ts i]) (n := n) (fun o i => o = (List.range i.toNat).map fun (i : Nat) => if (i : Int) ∈ G then -1 else rd ts (i : Int)) (fun o i h0 h1 hI => by
        rw [hI, show (i + 1).toNat = i.toNat + 1 by omega, List.range_succ, List.map_append]
        simp only [List.map_cons, List.map_nil]
        rw [show ((i.toNat : Nat) : Int) = i by omega]) ts.length [] 0 (by omega) (by omega) rfl
      refine Ev_forK (F := fun k o i => spec_WithoutLateCues.l0 k n ts G o i) (upd := fun (o : List Int) i => o ++ [if i ∈ G then -1 else rd ts i]) (n := n) (fun o i => (o.length : Int) = i) (fun o i h0 h1 hI => ⟨by rw [List.length_append]; simp; omega, fun hr => Ev_succ (by
        simp only [spec_WithoutLateCues.l0]
        refine Ev_pos h1 (Ev.bind (l01Has_ev G (by omega) i) ?_)
        rw [w64 (by omega) (by omega)]
        refine Ev_ite (fun hm => ?_) (fun hm => ?_)
        · rw [if_pos (of_decide_eq_true hm)] at hr
          exact Ev_pos (by omega) hr
        · rw [if_neg (fun q => hm (decide_eq_true q))] at hr
          exact Ev_pos h0 (Ev_pos (by omega) (Ev_pos (by omega) hr)))⟩) ts.length [] 0 (by omega) (by omega) (by simp) (fun _ => Ev_succ (by
        simp only [spec_WithoutLateCues.l0]
        refine Ev_neg (by omega) (Ev_some ?_)
        rw [hfin]
        unfold restM
        rw [show n.toNat = ts.length by omega]))
    · have hstep : ∀ (o : List Int) (i : Int), 0 ≤ i → i < ws.length → (o.length = ts.length ∧ ∀ u : Int, 0 ≤ u → u < ts.length → ((∃ j : Int, 0 ≤ j ∧ j < i ∧ (lateB xs hop sent ts ws j = true ∨ goneB xs hop sent ts ws j = true) ∧ (rd_T59 ws j).f0 = u) → rd o u = -1) ∧ (¬ (∃ j : Int, 0 ≤ j ∧ j < i ∧ (lateB xs hop sent ts ws j = true ∨ goneB xs hop sent ts ws j = true) ∧ (rd_T59 ws j).f0 = u) → rd o u = rd ts u)) →
          ((if lateB xs hop sent ts ws i = true ∨ goneB xs hop sent ts ws i = true then o.set (rd_T59 ws i).f0.toNat (-1) else o).length = ts.length ∧ ∀ u : Int, 0 ≤ u → u < ts.length → ((∃ j : Int, 0 ≤ j ∧ j < i + 1 ∧ (lateB xs hop sent ts ws j = true ∨ goneB xs hop sent ts ws j = true) ∧ (rd_T59 ws j).f0 = u) → rd (if lateB xs hop sent ts ws i = true ∨ goneB xs hop sent ts ws i = true then o.set (rd_T59 ws i).f0.toNat (-1) else o) u = -1) ∧ (¬ (∃ j : Int, 0 ≤ j ∧ j < i + 1 ∧ (lateB xs hop sent ts ws j = true ∨ goneB xs hop sent ts ws j = true) ∧ (rd_T59 ws j).f0 = u) → rd (if lateB xs hop sent ts ws i = true ∨ goneB xs hop sent ts ws i = true then o.set (rd_T59 ws i).f0.toNat (-1) else o) u = rd ts u)) := fun o i h0 h1 hI => by
        obtain ⟨hx, hh, hsn, h2, h3, h4⟩ := wire_at h h0 h1
        by_cases hp : lateB xs hop sent ts ws i = true ∨ goneB xs hop sent ts ws i = true
        · rw [if_pos hp]
          refine ⟨by rw [List.length_set]; exact hI.1, fun u h5 h6 => ?_⟩
          rw [rd_set h2 (by rw [hI.1]; exact h3) h5]
          by_cases hu : u = (rd_T59 ws i).f0
          · rw [if_pos hu]
            exact ⟨fun _ => rfl, fun q => absurd ⟨i, h0, by omega, hp, hu.symm⟩ q⟩
          · rw [if_neg hu]
            refine ⟨fun ⟨j, h7, h8, h9, h10⟩ => (hI.2 u h5 h6).1 ⟨j, h7, ?_, h9, h10⟩, fun q => (hI.2 u h5 h6).2 (fun ⟨j, h7, h8, h9⟩ => q ⟨j, h7, by omega, h9⟩)⟩
            by_cases hj : j = i
            · rw [hj] at h10; exact absurd h10.symm hu
            · omega
        · rw [if_neg hp]
          refine ⟨hI.1, fun u h5 h6 => ⟨fun ⟨j, h7, h8, h9, h10⟩ => (hI.2 u h5 h6).1 ⟨j, h7, ?_, h9, h10⟩, fun q => (hI.2 u h5 h6).2 (fun ⟨j, h7, h8, h9⟩ => q ⟨j, h7, by omega, h9⟩)⟩⟩
          by_cases hj : j = i
          · rw [hj] at h9; exact absurd h9 hp
          · omega
      have hfin := foldU_ind (upd := fun (o : List Int) i => if lateB xs hop sent ts ws i = true ∨ goneB xs hop sent ts ws i = true then o.set (rd_T59 ws i).f0.toNat (-1) else o) (n := ws.length) (fun o i => o.length = ts.length ∧ ∀ u : Int, 0 ≤ u → u < ts.length → ((∃ j : Int, 0 ≤ j ∧ j < i ∧ (lateB xs hop sent ts ws j = true ∨ goneB xs hop sent ts ws j = true) ∧ (rd_T59 ws j).f0 = u) → rd o u = -1) ∧ (¬ (∃ j : Int, 0 ≤ j ∧ j < i ∧ (lateB xs hop sent ts ws j = true ∨ goneB xs hop sent ts ws j = true) ∧ (rd_T59 ws j).f0 = u) → rd o u = rd ts u)) hstep ws.length ts 0 (by omega) (by omega) ⟨rfl, fun u _ _ => ⟨fun ⟨j, h7, h8, _⟩ => by omega, fun _ => rfl⟩⟩
      refine Ev_forK (F := fun k o i => impl_WithoutLateCues.l0 k xs hop sent ts o ws (ws.length : Int) i) (upd := fun (o : List Int) i => if lateB xs hop sent ts ws i = true ∨ goneB xs hop sent ts ws i = true then o.set (rd_T59 ws i).f0.toNat (-1) else o) (n := ws.length) (fun o _ => o.length = ts.length) (fun o i h0 h1 hI => ⟨by split <;> simp [hI], fun hr => ?_⟩) ws.length ts 0 (by omega) (by omega) rfl (fun _ => Ev_succ (by
        simp only [impl_WithoutLateCues.l0]
        refine Ev_neg (by omega) (Ev_some ?_)
        congr 1
        refine list_same (by rw [restM_length]; exact hfin.1) (fun u h5 h6 => ?_)
        have h7 := hfin.2 u h5 (by rw [← hfin.1]; exact h6)
        rw [restM_at h5 (by rw [← hfin.1]; exact h6)]
        by_cases hm : u ∈ G
        · rw [if_pos hm]; exact h7.1 ((hGm u).1 hm)
        · rw [if_neg hm]; exact h7.2 (fun q => hm ((hGm u).2 q))))
      obtain ⟨hx, hh, hsn, h2, h3, h4⟩ := wire_at h h0 h1
      refine Ev_succ (by
        simp only [impl_WithoutLateCues.l0]
        refine Ev_pos h1 (Ev_pos h0 (Ev_pos h1 (Ev.bind (impl_isLate_ev h h0 h1 _) ?_)))
        rw [w64 (by omega) (by omega)]
        refine Ev_ite (fun hp => ?_) (fun hp => Ev.bind (impl_isStopped_ev h h0 h1 _) (Ev_ite (fun hq => ?_) (fun hq => ?_)))
        · rw [if_pos (.inl hp)] at hr
          exact Ev_pos h2 (Ev_pos (by omega) hr)
        · rw [if_pos (.inr hq)] at hr
          exact Ev_pos h2 (Ev_pos (by omega) hr)
        · rw [if_neg (fun q => q.elim hp hq)] at hr
          exact hr)
  · exact ⟨[], codeC xs n ws hop sent ts, Ev.bind (l23Cues_ev xs hxn n ws hop sent ts hw ht) (Ev_neg h (Ev.now _)), Ev.bind (stopsAsked_ev xs n ws hop sent ts hw ht) (Ev_neg h (Ev.now _)), by simp⟩

/-- How much room to..S leaves behind a row of n elements. -/
def room (n : Nat) : Nat := if n % 6 = 5 then 0 else if n % 3 = 0 then 1 else n
theorem room_le (n : Nat) : room n ≤ n + 1 := by unfold room; split <;> (try split) <;> omega
theorem room_eq (n : Nat) (h : n ≤ 9223372036854775807) : laws_roomBehind.f (n : Int) = some (room n : Int) := by
  unfold laws_roomBehind.f room
  rw [Int.tmod_eq_emod_of_nonneg (by omega), Int.tmod_eq_emod_of_nonneg (by omega)]
  by_cases h1 : n % 6 = 5
  · rw [if_pos (by omega), if_pos h1]; rfl
  · rw [if_neg (by omega), if_neg h1]
    by_cases h2 : n % 3 = 0
    · rw [if_pos (by omega), if_pos h2]; rfl
    · rw [if_neg (by omega), if_neg h2]
theorem take_set_far {α : Type} (xs : List α) (y : α) {n m : Nat} (h : n ≤ m) : (xs.set m y).take n = xs.take n := by
  apply List.ext_getElem?
  intro i
  by_cases hi : i < n
  · rw [List.getElem?_take_of_lt hi, List.getElem?_take_of_lt hi, List.getElem?_set_ne (by omega)]
  · rw [List.getElem?_eq_none (by simp; omega), List.getElem?_eq_none (by simp; omega)]
theorem take_set_at {α : Type} (xs : List α) (y : α) {n : Nat} (h : n < xs.length) : (xs.set n y).take (n + 1) = xs.take n ++ [y] := by
  rw [List.take_succ_eq_append_getElem (by rw [List.length_set]; exact h), take_set_far xs y (Nat.le_refl n)]
  simp
theorem rooms {n : Nat} (h : n ≤ 1000000) : wrap64 ((n : Int) + (room n : Int)) = ((n + room n : Nat) : Int) := by
  have := room_le n
  rw [w64 (by omega) (by omega)]; omega

theorem eqInt64S_loop (xs : List Int) (hn : xs.length ≤ 9000000000000000000) (d : Nat) : ∀ (k : Nat) (i : Int), 0 ≤ i → i ≤ xs.length → ((xs.length : Int) - i).toNat ≤ d → d < k → laws_eqInt64S.l0 k xs xs i = some true := by
  induction d with
  | zero =>
    intro k i h0 h1 hd hk
    obtain ⟨k, rfl⟩ : ∃ m, k = m + 1 := ⟨k - 1, by omega⟩
    simp only [laws_eqInt64S.l0]
    rw [if_neg (by omega)]
  | succ d ih =>
    intro k i h0 h1 hd hk
    obtain ⟨k, rfl⟩ : ∃ m, k = m + 1 := ⟨k - 1, by omega⟩
    simp only [laws_eqInt64S.l0]
    by_cases hlt : i < (xs.length : Int)
    · rw [if_pos hlt, if_pos h0, if_pos hlt]
      simp only [if_true]
      rw [w64 (by omega) (by omega)]
      exact ih k (i + 1) (by omega) (by omega) (by omega) (by omega)
    · rw [if_neg hlt]
theorem eqInt64S_refl (xs : List Int) (hn : xs.length ≤ 9000000000000000000) : Ev (fun k => laws_eqInt64S.f k xs xs) true :=
  ⟨xs.length + 1, fun k hk => by
    simp only [laws_eqInt64S.f, if_true]
    exact eqInt64S_loop xs hn xs.length k 0 (by omega) (by omega) (by omega) (by omega)⟩

theorem eqModuleS_loop (xs : List S63) (hn : xs.length ≤ 9000000000000000000) (d : Nat) : ∀ (k : Nat) (i : Int), 0 ≤ i → i ≤ xs.length → ((xs.length : Int) - i).toNat ≤ d → d < k → laws_eqModuleS.l0 k xs xs i = some true := by
  induction d with
  | zero =>
    intro k i h0 h1 hd hk
    obtain ⟨k, rfl⟩ : ∃ m, k = m + 1 := ⟨k - 1, by omega⟩
    simp only [laws_eqModuleS.l0]
    rw [if_neg (by omega)]
  | succ d ih =>
    intro k i h0 h1 hd hk
    obtain ⟨k, rfl⟩ : ∃ m, k = m + 1 := ⟨k - 1, by omega⟩
    simp only [laws_eqModuleS.l0]
    by_cases hlt : i < (xs.length : Int)
    · rw [if_pos hlt, if_pos h0, if_pos hlt]
      simp only [laws_eqModule.f, if_true, Option.bind_some]
      rw [w64 (by omega) (by omega)]
      exact ih k (i + 1) (by omega) (by omega) (by omega) (by omega)
    · rw [if_neg hlt]
theorem eqModuleS_refl (xs : List S63) (hn : xs.length ≤ 9000000000000000000) : Ev (fun k => laws_eqModuleS.f k xs xs) true :=
  ⟨xs.length + 1, fun k hk => by
    simp only [laws_eqModuleS.f, if_true]
    exact eqModuleS_loop xs hn xs.length k 0 (by omega) (by omega) (by omega) (by omega)⟩

theorem eqWireS_loop (xs : List S59) (hn : xs.length ≤ 9000000000000000000) (d : Nat) : ∀ (k : Nat) (i : Int), 0 ≤ i → i ≤ xs.length → ((xs.length : Int) - i).toNat ≤ d → d < k → laws_eqWireS.l0 k xs xs i = some true := by
  induction d with
  | zero =>
    intro k i h0 h1 hd hk
    obtain ⟨k, rfl⟩ : ∃ m, k = m + 1 := ⟨k - 1, by omega⟩
    simp only [laws_eqWireS.l0]
    rw [if_neg (by omega)]
  | succ d ih =>
    intro k i h0 h1 hd hk
    obtain ⟨k, rfl⟩ : ∃ m, k = m + 1 := ⟨k - 1, by omega⟩
    simp only [laws_eqWireS.l0]
    by_cases hlt : i < (xs.length : Int)
    · rw [if_pos hlt, if_pos h0, if_pos hlt]
      simp only [laws_eqWire.f, if_true, Option.bind_some]
      rw [w64 (by omega) (by omega)]
      exact ih k (i + 1) (by omega) (by omega) (by omega) (by omega)
    · rw [if_neg hlt]
theorem eqWireS_refl (xs : List S59) (hn : xs.length ≤ 9000000000000000000) : Ev (fun k => laws_eqWireS.f k xs xs) true :=
  ⟨xs.length + 1, fun k hk => by
    simp only [laws_eqWireS.f, if_true]
    exact eqWireS_loop xs hn xs.length k 0 (by omega) (by omega) (by omega) (by omega)⟩

theorem rdSetModuleS (xs : List S63) {i : Int} (h0 : 0 ≤ i) (h1 : i < xs.length) (v : S63) : rd_T63 (xs.set i.toNat v) i = v := by
  simp [rd_T63, List.getD_eq_getElem?_getD, List.getElem?_set_self (show i.toNat < xs.length by omega)]
theorem markModuleS_loop (d : Nat) : ∀ (x0 : List S63) (m i : Int), 0 ≤ i → i ≤ x0.length → ((x0.length : Int) - i).toNat ≤ d → 0 ≤ m → m + 2 * d ≤ 4000000000000000000 → x0.length ≤ 4000000000000000000 →
    ∃ (m' : Int) (x' : List S63), x'.length = x0.length ∧ (∀ j : Nat, j < i.toNat → x'[j]? = x0[j]?) ∧ m ≤ m' ∧ m' ≤ m + 2 * d ∧ ∀ k, d < k → laws_markModuleS.l0 k x0 m i = some (m', x') := by
  induction d with
  | zero =>
    intro x0 m i h0 h1 hd hm hm2 hn
    refine ⟨m, x0, rfl, fun _ _ => rfl, by omega, by omega, fun k hk => ?_⟩
    obtain ⟨k, rfl⟩ : ∃ m, k = m + 1 := ⟨k - 1, by omega⟩
    simp only [laws_markModuleS.l0]
    rw [if_neg (by omega)]
  | succ d ih =>
    intro x0 m i h0 h1 hd hm hm2 hn
    by_cases hlt : i < (x0.length : Int)
    · obtain ⟨m', x', hl, hx, hm1, hm3, hk⟩ := ih (x0.set i.toNat (⟨m, m + 1⟩ : S63)) (m + 2) (i + 1) (by omega) (by rw [List.length_set]; omega) (by rw [List.length_set]; omega) (by omega) (by omega) (by rw [List.length_set]; omega)
      rw [List.length_set] at hl
      refine ⟨m', x', hl, fun j hj => ?_, by omega, by omega, fun k hkd => ?_⟩
      · rw [hx j (by omega), List.getElem?_set_ne (by omega)]
      obtain ⟨k, rfl⟩ : ∃ m, k = m + 1 := ⟨k - 1, by omega⟩
      have h2 := hk k (by omega)
      have w1 : wrap64 (m + 1) = m + 1 := by rw [w64 (by omega) (by omega)] <;> omega
      have w2 : wrap64 ((m + 1) + 1) = m + 2 := by rw [w64 (by omega) (by omega)] <;> omega
      have wi : wrap64 (i + 1) = i + 1 := w64 (by omega) (by omega)
      · simp only [laws_markModuleS.l0]
        rw [if_pos hlt, if_pos h0]
        simp only [Option.bind_some, rdSetModuleS x0 h0 hlt, List.set_set, w1, w2, wi]
        exact h2
    · refine ⟨m, x0, rfl, fun _ _ => rfl, by omega, by omega, fun k hk => ?_⟩
      obtain ⟨k, rfl⟩ : ∃ m, k = m + 1 := ⟨k - 1, by omega⟩
      simp only [laws_markModuleS.l0]
      rw [if_neg hlt]
theorem markModuleS_tells (xs : List S63) (hn : xs.length ≤ 2000000) (m : Int) (h0 : 0 ≤ m) (h1 : m ≤ 1000000000000) :
    ∃ (m' : Int) (l' : List S63), Ev (fun k => laws_markModuleS.f k xs m) (m', l') ∧ m ≤ m' ∧ m' ≤ m + 2 * xs.length ∧ l'.length = xs.length := by
  obtain ⟨m', x', hl, _, h2, h3, hk⟩ := markModuleS_loop xs.length xs m 0 (by omega) (by omega) (by omega) h0 (by omega) (by omega)
  exact ⟨m', x', ⟨xs.length + 1, fun k h => hk k (by omega)⟩, h2, h3, hl⟩

theorem rdSetWireS (xs : List S59) {i : Int} (h0 : 0 ≤ i) (h1 : i < xs.length) (v : S59) : rd_T59 (xs.set i.toNat v) i = v := by
  simp [rd_T59, List.getD_eq_getElem?_getD, List.getElem?_set_self (show i.toNat < xs.length by omega)]
theorem markWireS_loop (d : Nat) : ∀ (x0 : List S59) (m i : Int), 0 ≤ i → i ≤ x0.length → ((x0.length : Int) - i).toNat ≤ d → 0 ≤ m → m + 3 * d ≤ 4000000000000000000 → x0.length ≤ 4000000000000000000 →
    ∃ (m' : Int) (x' : List S59), x'.length = x0.length ∧ (∀ j : Nat, j < i.toNat → x'[j]? = x0[j]?) ∧ m ≤ m' ∧ m' ≤ m + 3 * d ∧ ∀ k, d < k → laws_markWireS.l0 k x0 m i = some (m', x') := by
  induction d with
  | zero =>
    intro x0 m i h0 h1 hd hm hm2 hn
    refine ⟨m, x0, rfl, fun _ _ => rfl, by omega, by omega, fun k hk => ?_⟩
    obtain ⟨k, rfl⟩ : ∃ m, k = m + 1 := ⟨k - 1, by omega⟩
    simp only [laws_markWireS.l0]
    rw [if_neg (by omega)]
  | succ d ih =>
    intro x0 m i h0 h1 hd hm hm2 hn
    by_cases hlt : i < (x0.length : Int)
    · obtain ⟨m', x', hl, hx, hm1, hm3, hk⟩ := ih (x0.set i.toNat (⟨m, m + 1, m + 2⟩ : S59)) (m + 3) (i + 1) (by omega) (by rw [List.length_set]; omega) (by rw [List.length_set]; omega) (by omega) (by omega) (by rw [List.length_set]; omega)
      rw [List.length_set] at hl
      refine ⟨m', x', hl, fun j hj => ?_, by omega, by omega, fun k hkd => ?_⟩
      · rw [hx j (by omega), List.getElem?_set_ne (by omega)]
      obtain ⟨k, rfl⟩ : ∃ m, k = m + 1 := ⟨k - 1, by omega⟩
      have h2 := hk k (by omega)
      have w1 : wrap64 (m + 1) = m + 1 := by rw [w64 (by omega) (by omega)] <;> omega
      have w2 : wrap64 ((m + 1) + 1) = m + 2 := by rw [w64 (by omega) (by omega)] <;> omega
      have w3 : wrap64 ((m + 2) + 1) = m + 3 := by rw [w64 (by omega) (by omega)] <;> omega
      have wi : wrap64 (i + 1) = i + 1 := w64 (by omega) (by omega)
      · simp only [laws_markWireS.l0]
        rw [if_pos hlt, if_pos h0]
        simp only [Option.bind_some, rdSetWireS x0 h0 hlt, List.set_set, w1, w2, w3, wi]
        exact h2
    · refine ⟨m, x0, rfl, fun _ _ => rfl, by omega, by omega, fun k hk => ?_⟩
      obtain ⟨k, rfl⟩ : ∃ m, k = m + 1 := ⟨k - 1, by omega⟩
      simp only [laws_markWireS.l0]
      rw [if_neg hlt]
theorem markWireS_tells (xs : List S59) (hn : xs.length ≤ 2000000) (m : Int) (h0 : 0 ≤ m) (h1 : m ≤ 1000000000000) :
    ∃ (m' : Int) (l' : List S59), Ev (fun k => laws_markWireS.f k xs m) (m', l') ∧ m ≤ m' ∧ m' ≤ m + 3 * xs.length ∧ l'.length = xs.length := by
  obtain ⟨m', x', hl, _, h2, h3, hk⟩ := markWireS_loop xs.length xs m 0 (by omega) (by omega) (by omega) h0 (by omega) (by omega)
  exact ⟨m', x', ⟨xs.length + 1, fun k h => hk k (by omega)⟩, h2, h3, hl⟩

theorem rdSetInt64S (xs : List Int) {i : Int} (h0 : 0 ≤ i) (h1 : i < xs.length) (v : Int) : rd (xs.set i.toNat v) i = v := by
  simp [rd, List.getD_eq_getElem?_getD, List.getElem?_set_self (show i.toNat < xs.length by omega)]
theorem markInt64S_loop (d : Nat) : ∀ (x0 : List Int) (m i : Int), 0 ≤ i → i ≤ x0.length → ((x0.length : Int) - i).toNat ≤ d → 0 ≤ m → m + 1 * d ≤ 4000000000000000000 → x0.length ≤ 4000000000000000000 →
    ∃ (m' : Int) (x' : List Int), x'.length = x0.length ∧ (∀ j : Nat, j < i.toNat → x'[j]? = x0[j]?) ∧ m ≤ m' ∧ m' ≤ m + 1 * d ∧ ∀ k, d < k → laws_markInt64S.l0 k x0 m i = some (m', x') ∧ laws_heldInt64S.l0 k x' m i = some m' := by
  induction d with
  | zero =>
    intro x0 m i h0 h1 hd hm hm2 hn
    refine ⟨m, x0, rfl, fun _ _ => rfl, by omega, by omega, fun k hk => ?_⟩
    obtain ⟨k, rfl⟩ : ∃ m, k = m + 1 := ⟨k - 1, by omega⟩
    simp only [laws_markInt64S.l0, laws_heldInt64S.l0]
    rw [if_neg (by omega), if_neg (by omega)]
    exact ⟨rfl, rfl⟩
  | succ d ih =>
    intro x0 m i h0 h1 hd hm hm2 hn
    by_cases hlt : i < (x0.length : Int)
    · obtain ⟨m', x', hl, hx, hm1, hm3, hk⟩ := ih (x0.set i.toNat m) (m + 1) (i + 1) (by omega) (by rw [List.length_set]; omega) (by rw [List.length_set]; omega) (by omega) (by omega) (by rw [List.length_set]; omega)
      rw [List.length_set] at hl
      refine ⟨m', x', hl, fun j hj => ?_, by omega, by omega, fun k hkd => ?_⟩
      · rw [hx j (by omega), List.getElem?_set_ne (by omega)]
      obtain ⟨k, rfl⟩ : ∃ m, k = m + 1 := ⟨k - 1, by omega⟩
      obtain ⟨h2, h3⟩ := hk k (by omega)
      have hr : rd x' i = m := by
        have := hx i.toNat (by omega)
        rw [List.getElem?_set_self (show i.toNat < x0.length by omega)] at this
        simp [rd, List.getD_eq_getElem?_getD, this]
      have w1 : wrap64 (m + 1) = m + 1 := by rw [w64 (by omega) (by omega)] <;> omega
      have wi : wrap64 (i + 1) = i + 1 := w64 (by omega) (by omega)
      refine ⟨?_, ?_⟩
      · simp only [laws_markInt64S.l0]
        rw [if_pos hlt, if_pos h0]
        simp only [Option.bind_some, rdSetInt64S x0 h0 hlt, List.set_set, w1, wi]
        exact h2
      · simp only [laws_heldInt64S.l0]
        rw [if_pos (by omega), if_pos h0, hr]
        simp only [w1, wi, if_true]
        exact h3
    · refine ⟨m, x0, rfl, fun _ _ => rfl, by omega, by omega, fun k hk => ?_⟩
      obtain ⟨k, rfl⟩ : ∃ m, k = m + 1 := ⟨k - 1, by omega⟩
      simp only [laws_markInt64S.l0, laws_heldInt64S.l0]
      rw [if_neg hlt, if_neg hlt]
      exact ⟨rfl, rfl⟩
theorem markInt64S_tells (xs : List Int) (hn : xs.length ≤ 2000000) (m : Int) (h0 : 0 ≤ m) (h1 : m ≤ 1000000000000) :
    ∃ (m' : Int) (l' : List Int), Ev (fun k => laws_markInt64S.f k xs m) (m', l') ∧ m ≤ m' ∧ m' ≤ m + 1 * xs.length ∧ l'.length = xs.length ∧ Ev (fun k => laws_heldInt64S.f k l' m) m' := by
  obtain ⟨m', x', hl, _, h2, h3, hk⟩ := markInt64S_loop xs.length xs m 0 (by omega) (by omega) (by omega) h0 (by omega) (by omega)
  exact ⟨m', x', ⟨xs.length + 1, fun k h => (hk k (by omega)).1⟩, h2, h3, hl, ⟨xs.length + 1, fun k h => (hk k (by omega)).2⟩⟩

theorem szModuleS_eq (l0 : List S65) (b : Int) (h : -9223372036854775808 ≤ b - (l0.length : Int)) (hb : b ≤ 1000000) : laws_szModuleS.f l0 b = some (if (l0.length : Int) ≤ b then b - (l0.length : Int) else -1) := by
  unfold laws_szModuleS.f
  rw [w64 (by omega) (by omega)]
  by_cases hl : (l0.length : Int) ≤ b
  · rw [if_neg (by omega), if_pos hl]
  · rw [if_pos (by omega), if_neg hl]

theorem szWireS_eq (l0 : List S82) (b : Int) (h : -9223372036854775808 ≤ b - (l0.length : Int)) (hb : b ≤ 1000000) : laws_szWireS.f l0 b = some (if (l0.length : Int) ≤ b then b - (l0.length : Int) else -1) := by
  unfold laws_szWireS.f
  rw [w64 (by omega) (by omega)]
  by_cases hl : (l0.length : Int) ≤ b
  · rw [if_neg (by omega), if_pos hl]
  · rw [if_pos (by omega), if_neg hl]

def convInt64S (x : Int) : Int := x
theorem toInt64S_l1 (l0 : List Int) (N : Nat) (hN : N ≤ 4000000) (hn : l0.length ≤ N) (d : Nat) : ∀ (k : Nat) (x5 : List Int) (i : Int), x5.length = N → (l0.length : Int) ≤ i → i ≤ N → ((N : Int) - i).toNat ≤ d → d < k →
    ∃ ext, laws_toInt64SX.l1 k l0 x5 i = some ext ∧ ext.length = N ∧ ext.take l0.length = x5.take l0.length := by
  induction d with
  | zero =>
    intro k x5 i h1 h2 h3 hd hk
    obtain ⟨k, rfl⟩ : ∃ m, k = m + 1 := ⟨k - 1, by omega⟩
    refine ⟨x5, ?_, h1, rfl⟩
    simp only [laws_toInt64SX.l1]
    rw [if_neg (by omega), if_pos (by omega), if_pos (by omega)]
  | succ d ih =>
    intro k x5 i h1 h2 h3 hd hk
    obtain ⟨k, rfl⟩ : ∃ m, k = m + 1 := ⟨k - 1, by omega⟩
    simp only [laws_toInt64SX.l1]
    by_cases hlt : i < (x5.length : Int)
    · rw [if_pos hlt]
      skip
      rw [if_pos (show 0 ≤ i by omega), w64 (by omega) (by omega)]
      refine (ih k _ (i + 1) (by rw [List.length_set]; exact h1) (by omega) (by omega) (by omega) (by omega)).imp fun ext h => ⟨h.1, h.2.1, h.2.2.trans ?_⟩
      exact take_set_far _ _ (by omega)
    · rw [if_neg hlt, if_pos (by omega), if_pos (by omega)]
      exact ⟨x5, rfl, h1, rfl⟩
theorem toInt64S_l0 (l0 : List Int) (N : Nat) (hN : N ≤ 4000000) (hn : l0.length ≤ N) (d : Nat) : ∀ (k : Nat) (x5 : List Int) (i : Int), x5.length = N → 0 ≤ i → i ≤ l0.length → ((l0.length : Int) - i).toNat ≤ d → d + N + 1 < k → x5.take i.toNat = (l0.take i.toNat).map convInt64S →
    ∃ ext, laws_toInt64SX.l0 k l0 x5 i = some ext ∧ ext.length = N ∧ ext.take l0.length = l0.map convInt64S := by
  induction d with
  | zero =>
    intro k x5 i h1 h2 h3 hd hk hx
    obtain ⟨k, rfl⟩ : ∃ m, k = m + 1 := ⟨k - 1, by omega⟩
    simp only [laws_toInt64SX.l0]
    rw [if_neg (by omega)]
    obtain ⟨ext, h4, h5, h6⟩ := toInt64S_l1 l0 N hN hn N k x5 (l0.length : Int) h1 (by omega) (by omega) (by omega) (by omega)
    refine ⟨ext, h4, h5, h6.trans ?_⟩
    have : i.toNat = l0.length := by omega
    rw [this, List.take_length] at hx
    exact hx
  | succ d ih =>
    intro k x5 i h1 h2 h3 hd hk hx
    obtain ⟨k, rfl⟩ : ∃ m, k = m + 1 := ⟨k - 1, by omega⟩
    simp only [laws_toInt64SX.l0]
    by_cases hlt : i < (l0.length : Int)
    · rw [if_pos hlt, if_pos h2]
      skip
      rw [if_pos (show i < (x5.length : Int) by omega), w64 (by omega) (by omega)]
      refine ih k _ (i + 1) (by rw [List.length_set]; exact h1) (by omega) (by omega) (by omega) (by omega) ?_
      have e : (i + 1).toNat = i.toNat + 1 := by omega
      rw [e, take_set_at _ _ (show i.toNat < x5.length by omega), hx, List.take_succ_eq_append_getElem (show i.toNat < l0.length by omega), List.map_append]
      have hr : rd l0 i = l0[i.toNat]'(by omega) := by
        simp [rd, List.getD_eq_getElem?_getD, List.getElem?_eq_getElem (show i.toNat < l0.length by omega)]
      simp [hr, convInt64S]
    · rw [if_neg hlt]
      obtain ⟨ext, h4, h5, h6⟩ := toInt64S_l1 l0 N hN hn N k x5 (l0.length : Int) h1 (by omega) (by omega) (by omega) (by omega)
      refine ⟨ext, h4, h5, h6.trans ?_⟩
      have : i.toNat = l0.length := by omega
      rw [this, List.take_length] at hx
      exact hx
theorem toInt64S_false (l0 : List Int) (h : l0.length ≤ 1000000) : ∃ ext, Ev (fun k => laws_toInt64SX.f k l0 false) ext ∧ ext.length = l0.length + room l0.length ∧ ext.take l0.length = l0.map convInt64S := by
  have hr := room_le l0.length
  obtain ⟨k0, hk0⟩ : ∃ k0 : Nat, l0.length + (l0.length + room l0.length) + 1 < k0 := ⟨_, Nat.lt_succ_self _⟩
  obtain ⟨ext, h1, h2, h3⟩ := toInt64S_l0 l0 (l0.length + room l0.length) (by omega) (by omega) l0.length k0 (List.replicate (l0.length + room l0.length) 0) 0 (by simp) (by omega) (by omega) (by omega) hk0 (by simp)
  have hm := laws_toInt64SX.mono l0 false
  refine ⟨ext, Ev.of (k := k0 + 1) hm ?_, h2, h3⟩
  have e : wrap64 ((l0.length : Int) + (room l0.length : Int)) = ((l0.length + room l0.length : Nat) : Int) := by
    rw [w64 (by omega) (by omega)]; omega
  simp only [laws_toInt64SX.f, laws_toInt64SX.j0, Bool.false_eq_true, if_false]
  rw [room_eq l0.length (by omega), Option.bind_some, e, if_pos (by omega), Int.toNat_natCast, if_pos (by omega)]
  exact h1
theorem toInt64S_true (l0 : List Int) (h : l0.length ≤ 1000000) : ∃ extb, Ev (fun k => laws_toInt64SX.f k l0 true) extb ∧ l0.length ≤ extb.length ∧ extb.take l0.length = l0.map convInt64S ∧ (extb = [] → l0.length = 0) := by
  by_cases hz : l0.length = 0
  · have : l0 = [] := List.eq_nil_of_length_eq_zero hz
    subst this
    refine ⟨[], ⟨1, fun k hk => ?_⟩, by simp, by simp, fun _ => rfl⟩
    obtain ⟨k, rfl⟩ : ∃ m, k = m + 1 := ⟨k - 1, by omega⟩
    simp [laws_toInt64SX.f, laws_toInt64SX.j0]
  · obtain ⟨ext, h1, h2, h3⟩ := toInt64S_false l0 h
    refine ⟨ext, Ev.congr (fun k => ?_) h1, by omega, h3, fun e => by rw [e] at h2; simp at h2; omega⟩
    have e : ((l0.length : Int) == 0) = false := by simpa using hz
    simp only [laws_toInt64SX.f, e, Bool.false_eq_true, if_false, if_true]

def convModuleS (x : S65) : S63 := ⟨x.f0, x.f1⟩
theorem toModuleS_l1 (l0 : List S65) (N : Nat) (hN : N ≤ 4000000) (hn : l0.length ≤ N) (d : Nat) : ∀ (k : Nat) (x5 : List S63) (i : Int), x5.length = N → (l0.length : Int) ≤ i → i ≤ N → ((N : Int) - i).toNat ≤ d → d < k →
    ∃ ext, laws_toModuleSX.l1 k l0 x5 i = some ext ∧ ext.length = N ∧ ext.take l0.length = x5.take l0.length := by
  induction d with
  | zero =>
    intro k x5 i h1 h2 h3 hd hk
    obtain ⟨k, rfl⟩ : ∃ m, k = m + 1 := ⟨k - 1, by omega⟩
    refine ⟨x5, ?_, h1, rfl⟩
    simp only [laws_toModuleSX.l1]
    rw [if_neg (by omega), if_pos (by omega), if_pos (by omega)]
  | succ d ih =>
    intro k x5 i h1 h2 h3 hd hk
    obtain ⟨k, rfl⟩ : ∃ m, k = m + 1 := ⟨k - 1, by omega⟩
    simp only [laws_toModuleSX.l1]
    by_cases hlt : i < (x5.length : Int)
    · rw [if_pos hlt]
      simp only [laws_fillerModule.f, Option.bind_some]
      rw [if_pos (show 0 ≤ i by omega), w64 (by omega) (by omega)]
      refine (ih k _ (i + 1) (by rw [List.length_set]; exact h1) (by omega) (by omega) (by omega) (by omega)).imp fun ext h => ⟨h.1, h.2.1, h.2.2.trans ?_⟩
      exact take_set_far _ _ (by omega)
    · rw [if_neg hlt, if_pos (by omega), if_pos (by omega)]
      exact ⟨x5, rfl, h1, rfl⟩
theorem toModuleS_l0 (l0 : List S65) (N : Nat) (hN : N ≤ 4000000) (hn : l0.length ≤ N) (d : Nat) : ∀ (k : Nat) (x5 : List S63) (i : Int), x5.length = N → 0 ≤ i → i ≤ l0.length → ((l0.length : Int) - i).toNat ≤ d → d + N + 1 < k → x5.take i.toNat = (l0.take i.toNat).map convModuleS →
    ∃ ext, laws_toModuleSX.l0 k l0 x5 i = some ext ∧ ext.length = N ∧ ext.take l0.length = l0.map convModuleS := by
  induction d with
  | zero =>
    intro k x5 i h1 h2 h3 hd hk hx
    obtain ⟨k, rfl⟩ : ∃ m, k = m + 1 := ⟨k - 1, by omega⟩
    simp only [laws_toModuleSX.l0]
    rw [if_neg (by omega)]
    obtain ⟨ext, h4, h5, h6⟩ := toModuleS_l1 l0 N hN hn N k x5 (l0.length : Int) h1 (by omega) (by omega) (by omega) (by omega)
    refine ⟨ext, h4, h5, h6.trans ?_⟩
    have : i.toNat = l0.length := by omega
    rw [this, List.take_length] at hx
    exact hx
  | succ d ih =>
    intro k x5 i h1 h2 h3 hd hk hx
    obtain ⟨k, rfl⟩ : ∃ m, k = m + 1 := ⟨k - 1, by omega⟩
    simp only [laws_toModuleSX.l0]
    by_cases hlt : i < (l0.length : Int)
    · rw [if_pos hlt, if_pos h2]
      simp only [laws_toModule.f, Option.bind_some]
      rw [if_pos (show i < (x5.length : Int) by omega), w64 (by omega) (by omega)]
      refine ih k _ (i + 1) (by rw [List.length_set]; exact h1) (by omega) (by omega) (by omega) (by omega) ?_
      have e : (i + 1).toNat = i.toNat + 1 := by omega
      rw [e, take_set_at _ _ (show i.toNat < x5.length by omega), hx, List.take_succ_eq_append_getElem (show i.toNat < l0.length by omega), List.map_append]
      have hr : rd_T65 l0 i = l0[i.toNat]'(by omega) := by
        simp [rd_T65, List.getD_eq_getElem?_getD, List.getElem?_eq_getElem (show i.toNat < l0.length by omega)]
      simp [hr, convModuleS]
    · rw [if_neg hlt]
      obtain ⟨ext, h4, h5, h6⟩ := toModuleS_l1 l0 N hN hn N k x5 (l0.length : Int) h1 (by omega) (by omega) (by omega) (by omega)
      refine ⟨ext, h4, h5, h6.trans ?_⟩
      have : i.toNat = l0.length := by omega
      rw [this, List.take_length] at hx
      exact hx
theorem toModuleS_false (l0 : List S65) (h : l0.length ≤ 1000000) : ∃ ext, Ev (fun k => laws_toModuleSX.f k l0 false) ext ∧ ext.length = l0.length + room l0.length ∧ ext.take l0.length = l0.map convModuleS := by
  have hr := room_le l0.length
  obtain ⟨k0, hk0⟩ : ∃ k0 : Nat, l0.length + (l0.length + room l0.length) + 1 < k0 := ⟨_, Nat.lt_succ_self _⟩
  obtain ⟨ext, h1, h2, h3⟩ := toModuleS_l0 l0 (l0.length + room l0.length) (by omega) (by omega) l0.length k0 (List.replicate (l0.length + room l0.length) z63) 0 (by simp) (by omega) (by omega) (by omega) hk0 (by simp)
  have hm := laws_toModuleSX.mono l0 false
  refine ⟨ext, Ev.of (k := k0 + 1) hm ?_, h2, h3⟩
  have e : wrap64 ((l0.length : Int) + (room l0.length : Int)) = ((l0.length + room l0.length : Nat) : Int) := by
    rw [w64 (by omega) (by omega)]; omega
  simp only [laws_toModuleSX.f, laws_toModuleSX.j0, Bool.false_eq_true, if_false]
  rw [room_eq l0.length (by omega), Option.bind_some, e, if_pos (by omega), Int.toNat_natCast, if_pos (by omega)]
  exact h1
theorem toModuleS_true (l0 : List S65) (h : l0.length ≤ 1000000) : ∃ extb, Ev (fun k => laws_toModuleSX.f k l0 true) extb ∧ l0.length ≤ extb.length ∧ extb.take l0.length = l0.map convModuleS ∧ (extb = [] → l0.length = 0) := by
  by_cases hz : l0.length = 0
  · have : l0 = [] := List.eq_nil_of_length_eq_zero hz
    subst this
    refine ⟨[], ⟨1, fun k hk => ?_⟩, by simp, by simp, fun _ => rfl⟩
    obtain ⟨k, rfl⟩ : ∃ m, k = m + 1 := ⟨k - 1, by omega⟩
    simp [laws_toModuleSX.f, laws_toModuleSX.j0]
  · obtain ⟨ext, h1, h2, h3⟩ := toModuleS_false l0 h
    refine ⟨ext, Ev.congr (fun k => ?_) h1, by omega, h3, fun e => by rw [e] at h2; simp at h2; omega⟩
    have e : ((l0.length : Int) == 0) = false := by simpa using hz
    simp only [laws_toModuleSX.f, e, Bool.false_eq_true, if_false, if_true]

def convWireS (x : S82) : S59 := ⟨x.f0, x.f1, x.f2⟩
theorem toWireS_l1 (l0 : List S82) (N : Nat) (hN : N ≤ 4000000) (hn : l0.length ≤ N) (d : Nat) : ∀ (k : Nat) (x5 : List S59) (i : Int), x5.length = N → (l0.length : Int) ≤ i → i ≤ N → ((N : Int) - i).toNat ≤ d → d < k →
    ∃ ext, laws_toWireSX.l1 k l0 x5 i = some ext ∧ ext.length = N ∧ ext.take l0.length = x5.take l0.length := by
  induction d with
  | zero =>
    intro k x5 i h1 h2 h3 hd hk
    obtain ⟨k, rfl⟩ : ∃ m, k = m + 1 := ⟨k - 1, by omega⟩
    refine ⟨x5, ?_, h1, rfl⟩
    simp only [laws_toWireSX.l1]
    rw [if_neg (by omega), if_pos (by omega), if_pos (by omega)]
  | succ d ih =>
    intro k x5 i h1 h2 h3 hd hk
    obtain ⟨k, rfl⟩ : ∃ m, k = m + 1 := ⟨k - 1, by omega⟩
    simp only [laws_toWireSX.l1]
    by_cases hlt : i < (x5.length : Int)
    · rw [if_pos hlt]
      simp only [laws_fillerWire.f, Option.bind_some]
      rw [if_pos (show 0 ≤ i by omega), w64 (by omega) (by omega)]
      refine (ih k _ (i + 1) (by rw [List.length_set]; exact h1) (by omega) (by omega) (by omega) (by omega)).imp fun ext h => ⟨h.1, h.2.1, h.2.2.trans ?_⟩
      exact take_set_far _ _ (by omega)
    · rw [if_neg hlt, if_pos (by omega), if_pos (by omega)]
      exact ⟨x5, rfl, h1, rfl⟩
theorem toWireS_l0 (l0 : List S82) (N : Nat) (hN : N ≤ 4000000) (hn : l0.length ≤ N) (d : Nat) : ∀ (k : Nat) (x5 : List S59) (i : Int), x5.length = N → 0 ≤ i → i ≤ l0.length → ((l0.length : Int) - i).toNat ≤ d → d + N + 1 < k → x5.take i.toNat = (l0.take i.toNat).map convWireS →
    ∃ ext, laws_toWireSX.l0 k l0 x5 i = some ext ∧ ext.length = N ∧ ext.take l0.length = l0.map convWireS := by
  induction d with
  | zero =>
    intro k x5 i h1 h2 h3 hd hk hx
    obtain ⟨k, rfl⟩ : ∃ m, k = m + 1 := ⟨k - 1, by omega⟩
    simp only [laws_toWireSX.l0]
    rw [if_neg (by omega)]
    obtain ⟨ext, h4, h5, h6⟩ := toWireS_l1 l0 N hN hn N k x5 (l0.length : Int) h1 (by omega) (by omega) (by omega) (by omega)
    refine ⟨ext, h4, h5, h6.trans ?_⟩
    have : i.toNat = l0.length := by omega
    rw [this, List.take_length] at hx
    exact hx
  | succ d ih =>
    intro k x5 i h1 h2 h3 hd hk hx
    obtain ⟨k, rfl⟩ : ∃ m, k = m + 1 := ⟨k - 1, by omega⟩
    simp only [laws_toWireSX.l0]
    by_cases hlt : i < (l0.length : Int)
    · rw [if_pos hlt, if_pos h2]
      simp only [laws_toWire.f, Option.bind_some]
      rw [if_pos (show i < (x5.length : Int) by omega), w64 (by omega) (by omega)]
      refine ih k _ (i + 1) (by rw [List.length_set]; exact h1) (by omega) (by omega) (by omega) (by omega) ?_
      have e : (i + 1).toNat = i.toNat + 1 := by omega
      rw [e, take_set_at _ _ (show i.toNat < x5.length by omega), hx, List.take_succ_eq_append_getElem (show i.toNat < l0.length by omega), List.map_append]
      have hr : rd_T82 l0 i = l0[i.toNat]'(by omega) := by
        simp [rd_T82, List.getD_eq_getElem?_getD, List.getElem?_eq_getElem (show i.toNat < l0.length by omega)]
      simp [hr, convWireS]
    · rw [if_neg hlt]
      obtain ⟨ext, h4, h5, h6⟩ := toWireS_l1 l0 N hN hn N k x5 (l0.length : Int) h1 (by omega) (by omega) (by omega) (by omega)
      refine ⟨ext, h4, h5, h6.trans ?_⟩
      have : i.toNat = l0.length := by omega
      rw [this, List.take_length] at hx
      exact hx
theorem toWireS_false (l0 : List S82) (h : l0.length ≤ 1000000) : ∃ ext, Ev (fun k => laws_toWireSX.f k l0 false) ext ∧ ext.length = l0.length + room l0.length ∧ ext.take l0.length = l0.map convWireS := by
  have hr := room_le l0.length
  obtain ⟨k0, hk0⟩ : ∃ k0 : Nat, l0.length + (l0.length + room l0.length) + 1 < k0 := ⟨_, Nat.lt_succ_self _⟩
  obtain ⟨ext, h1, h2, h3⟩ := toWireS_l0 l0 (l0.length + room l0.length) (by omega) (by omega) l0.length k0 (List.replicate (l0.length + room l0.length) z59) 0 (by simp) (by omega) (by omega) (by omega) hk0 (by simp)
  have hm := laws_toWireSX.mono l0 false
  refine ⟨ext, Ev.of (k := k0 + 1) hm ?_, h2, h3⟩
  have e : wrap64 ((l0.length : Int) + (room l0.length : Int)) = ((l0.length + room l0.length : Nat) : Int) := by
    rw [w64 (by omega) (by omega)]; omega
  simp only [laws_toWireSX.f, laws_toWireSX.j0, Bool.false_eq_true, if_false]
  rw [room_eq l0.length (by omega), Option.bind_some, e, if_pos (by omega), Int.toNat_natCast, if_pos (by omega)]
  exact h1
theorem toWireS_true (l0 : List S82) (h : l0.length ≤ 1000000) : ∃ extb, Ev (fun k => laws_toWireSX.f k l0 true) extb ∧ l0.length ≤ extb.length ∧ extb.take l0.length = l0.map convWireS ∧ (extb = [] → l0.length = 0) := by
  by_cases hz : l0.length = 0
  · have : l0 = [] := List.eq_nil_of_length_eq_zero hz
    subst this
    refine ⟨[], ⟨1, fun k hk => ?_⟩, by simp, by simp, fun _ => rfl⟩
    obtain ⟨k, rfl⟩ : ∃ m, k = m + 1 := ⟨k - 1, by omega⟩
    simp [laws_toWireSX.f, laws_toWireSX.j0]
  · obtain ⟨ext, h1, h2, h3⟩ := toWireS_false l0 h
    refine ⟨ext, Ev.congr (fun k => ?_) h1, by omega, h3, fun e => by rw [e] at h2; simp at h2; omega⟩
    have e : ((l0.length : Int) == 0) = false := by simpa using hz
    simp only [laws_toWireSX.f, e, Bool.false_eq_true, if_false, if_true]

theorem FnExactWithoutLateCues : laws_FnExactWithoutLateCues.Pure := by
  intro l0 a1 l2 a3 a4 l5 hnl0 hnl2 hnl5 wa1 wa3 wa4
  by_cases hs1 : (l0.length : Int) ≤ (1000000 - (l5.length : Int))
  case neg =>
    exact .inl ⟨-1, by rw [w64 (x := 1000000 - (l5.length : Int)) (by omega) (by omega), szModuleS_eq _ _ (by omega) (by omega), if_neg hs1], by decide⟩
  by_cases hs2 : (l2.length : Int) ≤ ((1000000 - (l5.length : Int)) - (l0.length : Int))
  case neg =>
    exact .inr (.inl ⟨((1000000 - (l5.length : Int)) - (l0.length : Int)), -1, by rw [w64 (x := 1000000 - (l5.length : Int)) (by omega) (by omega), szModuleS_eq _ _ (by omega) (by omega), if_pos hs1], decide_eq_false (by omega), by rw [szWireS_eq _ _ (by omega) (by omega), if_neg hs2], by decide⟩)
  refine .inr (.inr (?_))
  have hb0 : l0.length ≤ 1000000 := by omega
  have hm0 := room_le l0.length
  obtain ⟨ext0, e0, el0, et0⟩ := toModuleS_false l0 hb0
  obtain ⟨extb0, b0, bl0, bt0, bn0⟩ := toModuleS_true l0 hb0
  have q0 := eqModuleS_refl ext0 (by omega)
  have hb2 : l2.length ≤ 1000000 := by omega
  have hm2 := room_le l2.length
  obtain ⟨ext2, e2, el2, et2⟩ := toWireS_false l2 hb2
  obtain ⟨extb2, b2, bl2, bt2, bn2⟩ := toWireS_true l2 hb2
  have q2 := eqWireS_refl ext2 (by omega)
  have hb5 : l5.length ≤ 1000000 := by omega
  have hm5 := room_le l5.length
  obtain ⟨ext5, e5, el5, et5⟩ := toInt64S_false l5 hb5
  obtain ⟨extb5, b5, bl5, bt5, bn5⟩ := toInt64S_true l5 hb5
  have q5 := eqInt64S_refl ext5 (by omega)
  obtain ⟨z_r1, z_r2, s1, s2, hl_z_r1⟩ := core_FnExactWithoutLateCues (l0.map convModuleS) a1 (l2.map convWireS) a3 a4 (l5.map convInt64S) (by rw [List.length_map]; exact hb0) (by rw [List.length_map]; exact hb2) (by rw [List.length_map]; exact hb5) wa1 wa3 wa4
  have qq_he_gs_r1_ws_r1 := eqInt64S_refl z_r1 (by omega)
  obtain ⟨mk_0, ml_0, mm0, mp0, mu0, ml0⟩ := markModuleS_tells (l0.map convModuleS) (by (try rw [List.length_map]); omega) 101 (by omega) (by omega)
  have mv0 := mu0
  (try rw [List.length_map] at mv0)
  obtain ⟨mk_1, ml_1, mm1, mp1, mu1, ml1⟩ := markWireS_tells (l2.map convWireS) (by (try rw [List.length_map]); omega) mk_0 (by omega) (by omega)
  have mv1 := mu1
  (try rw [List.length_map] at mv1)
  obtain ⟨mk_2, ml_2, mm2, mp2, mu2, ml2, mh2⟩ := markInt64S_tells (l5.map convInt64S) (by (try rw [List.length_map]); omega) mk_1 (by omega) (by omega)
  have mv2 := mu2
  (try rw [List.length_map] at mv2)
  obtain ⟨mk_3, ml_3, mm3, mp3, mu3, ml3, mh3⟩ := markInt64S_tells z_r1 (by (try rw [List.length_map]); omega) 101 (by omega) (by omega)
  have mv3 := mu3
  (try rw [List.length_map] at mv3)
  obtain ⟨K0_, v_e0⟩ := e0
  obtain ⟨K1_, v_b0⟩ := b0
  obtain ⟨K2_, v_q0⟩ := q0
  obtain ⟨K3_, v_e2⟩ := e2
  obtain ⟨K4_, v_b2⟩ := b2
  obtain ⟨K5_, v_q2⟩ := q2
  obtain ⟨K6_, v_e5⟩ := e5
  obtain ⟨K7_, v_b5⟩ := b5
  obtain ⟨K8_, v_q5⟩ := q5
  obtain ⟨K9_, v_s1⟩ := s1
  obtain ⟨K10_, v_s2⟩ := s2
  obtain ⟨K11_, v_qq_he_gs_r1_ws_r1⟩ := qq_he_gs_r1_ws_r1
  obtain ⟨K12_, v_mm0⟩ := mm0
  obtain ⟨K13_, v_mm1⟩ := mm1
  obtain ⟨K14_, v_mm2⟩ := mm2
  obtain ⟨K15_, v_mh2⟩ := mh2
  obtain ⟨K16_, v_mm3⟩ := mm3
  obtain ⟨K17_, v_mh3⟩ := mh3
  refine ⟨K0_ + K1_ + K2_ + K3_ + K4_ + K5_ + K6_ + K7_ + K8_ + K9_ + K10_ + K11_ + K12_ + K13_ + K14_ + K15_ + K16_ + K17_, (l0.map convModuleS), ext0, extb0, (room l0.length : Int), (l2.map convWireS), ext2, extb2, (room l2.length : Int), (l5.map convInt64S), ext5, extb5, (room l5.length : Int), ((1000000 - (l5.length : Int)) - (l0.length : Int)), (((1000000 - (l5.length : Int)) - (l0.length : Int)) - (l2.length : Int)), z_r1, z_r2, z_r1, mk_0, ml_0, mk_1, ml_1, mk_2, ml_2, mk_3, ml_3, ?_⟩
  exact { hto0 := v_e0 (K0_ + K1_ + K2_ + K3_ + K4_ + K5_ + K6_ + K7_ + K8_ + K9_ + K10_ + K11_ + K12_ + K13_ + K14_ + K15_ + K16_ + K17_) (by omega), htob0 := v_b0 (K0_ + K1_ + K2_ + K3_ + K4_ + K5_ + K6_ + K7_ + K8_ + K9_ + K10_ + K11_ + K12_ + K13_ + K14_ + K15_ + K16_ + K17_) (by omega), hxl0 := List.length_map .., hnb0 := bn0, hne0 := fun h => by rw [h] at el0; simp at el0; unfold room at el0; split at el0 <;> (try split at el0) <;> omega, hxe0 := by rw [List.length_map]; exact et0.symm, hxb0 := by rw [List.length_map]; exact bt0.symm, hle0 := by rw [List.length_map]; omega, hlb0 := by rw [List.length_map]; exact bl0, hrm0 := by rw [List.length_map]; exact room_eq _ (by omega), hj0 := by rw [List.length_map, el0]; exact rooms hb0, heqx0 := v_q0 (K0_ + K1_ + K2_ + K3_ + K4_ + K5_ + K6_ + K7_ + K8_ + K9_ + K10_ + K11_ + K12_ + K13_ + K14_ + K15_ + K16_ + K17_) (by omega), hto2 := v_e2 (K0_ + K1_ + K2_ + K3_ + K4_ + K5_ + K6_ + K7_ + K8_ + K9_ + K10_ + K11_ + K12_ + K13_ + K14_ + K15_ + K16_ + K17_) (by omega), htob2 := v_b2 (K0_ + K1_ + K2_ + K3_ + K4_ + K5_ + K6_ + K7_ + K8_ + K9_ + K10_ + K11_ + K12_ + K13_ + K14_ + K15_ + K16_ + K17_) (by omega), hxl2 := List.length_map .., hnb2 := bn2, hne2 := fun h => by rw [h] at el2; simp at el2; unfold room at el2; split at el2 <;> (try split at el2) <;> omega, hxe2 := by rw [List.length_map]; exact et2.symm, hxb2 := by rw [List.length_map]; exact bt2.symm, hle2 := by rw [List.length_map]; omega, hlb2 := by rw [List.length_map]; exact bl2, hrm2 := by rw [List.length_map]; exact room_eq _ (by omega), hj2 := by rw [List.length_map, el2]; exact rooms hb2, heqx2 := v_q2 (K0_ + K1_ + K2_ + K3_ + K4_ + K5_ + K6_ + K7_ + K8_ + K9_ + K10_ + K11_ + K12_ + K13_ + K14_ + K15_ + K16_ + K17_) (by omega), hto5 := v_e5 (K0_ + K1_ + K2_ + K3_ + K4_ + K5_ + K6_ + K7_ + K8_ + K9_ + K10_ + K11_ + K12_ + K13_ + K14_ + K15_ + K16_ + K17_) (by omega), htob5 := v_b5 (K0_ + K1_ + K2_ + K3_ + K4_ + K5_ + K6_ + K7_ + K8_ + K9_ + K10_ + K11_ + K12_ + K13_ + K14_ + K15_ + K16_ + K17_) (by omega), hxl5 := List.length_map .., hnb5 := bn5, hne5 := fun h => by rw [h] at el5; simp at el5; unfold room at el5; split at el5 <;> (try split at el5) <;> omega, hxe5 := by rw [List.length_map]; exact et5.symm, hxb5 := by rw [List.length_map]; exact bt5.symm, hle5 := by rw [List.length_map]; omega, hlb5 := by rw [List.length_map]; exact bl5, hrm5 := by rw [List.length_map]; exact room_eq _ (by omega), hj5 := by rw [List.length_map, el5]; exact rooms hb5, heqx5 := v_q5 (K0_ + K1_ + K2_ + K3_ + K4_ + K5_ + K6_ + K7_ + K8_ + K9_ + K10_ + K11_ + K12_ + K13_ + K14_ + K15_ + K16_ + K17_) (by omega), hz1 := by rw [w64 (x := 1000000 - (l5.length : Int)) (by omega) (by omega), szModuleS_eq _ _ (by omega) (by omega), if_pos hs1], hn1 := decide_eq_false (by omega), hz2 := by rw [szWireS_eq _ _ (by omega) (by omega), if_pos hs2], hn2 := decide_eq_false (by omega), hfspec := v_s1 (K0_ + K1_ + K2_ + K3_ + K4_ + K5_ + K6_ + K7_ + K8_ + K9_ + K10_ + K11_ + K12_ + K13_ + K14_ + K15_ + K16_ + K17_) (by omega), hfimpl := v_s2 (K0_ + K1_ + K2_ + K3_ + K4_ + K5_ + K6_ + K7_ + K8_ + K9_ + K10_ + K11_ + K12_ + K13_ + K14_ + K15_ + K16_ + K17_) (by omega), he_gs_r1_ws_r1 := v_qq_he_gs_r1_ws_r1 (K0_ + K1_ + K2_ + K3_ + K4_ + K5_ + K6_ + K7_ + K8_ + K9_ + K10_ + K11_ + K12_ + K13_ + K14_ + K15_ + K16_ + K17_) (by omega), hm0 := v_mm0 (K0_ + K1_ + K2_ + K3_ + K4_ + K5_ + K6_ + K7_ + K8_ + K9_ + K10_ + K11_ + K12_ + K13_ + K14_ + K15_ + K16_ + K17_) (by omega), hmn0 := decide_eq_false (by omega), hm1 := v_mm1 (K0_ + K1_ + K2_ + K3_ + K4_ + K5_ + K6_ + K7_ + K8_ + K9_ + K10_ + K11_ + K12_ + K13_ + K14_ + K15_ + K16_ + K17_) (by omega), hmn1 := decide_eq_false (by omega), hm2 := v_mm2 (K0_ + K1_ + K2_ + K3_ + K4_ + K5_ + K6_ + K7_ + K8_ + K9_ + K10_ + K11_ + K12_ + K13_ + K14_ + K15_ + K16_ + K17_) (by omega), hmn2 := decide_eq_false (by omega), hm3 := v_mm3 (K0_ + K1_ + K2_ + K3_ + K4_ + K5_ + K6_ + K7_ + K8_ + K9_ + K10_ + K11_ + K12_ + K13_ + K14_ + K15_ + K16_ + K17_) (by omega), hmn3 := decide_eq_false (by omega), hml3 := ml3.symm, hh_ml_3 := v_mh3 (K0_ + K1_ + K2_ + K3_ + K4_ + K5_ + K6_ + K7_ + K8_ + K9_ + K10_ + K11_ + K12_ + K13_ + K14_ + K15_ + K16_ + K17_) (by omega) }

end Go.Proofs.Ytddejaomlnldiaa.Pure
