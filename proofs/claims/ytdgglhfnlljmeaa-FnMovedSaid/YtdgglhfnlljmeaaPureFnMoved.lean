/- The statement over numbers and lists for FnMoved: the reference and the program answer alike for all arguments. -/
import Derived.Test.YtdgglhfnlljmeaaQFnMovedx28
set_option linter.unusedVariables false
set_option linter.unusedSimpArgs false
namespace Go.Proofs.Ytdgglhfnlljmeaa.Pure
open Go.RowKit Go.Proofs.Ytdgglhfnlljmeaa.PFnMoved Go.Proofs.YtdgglhfnlljmeaaW.PrintWords Go.Proofs.YtdgglhfnlljmeaaW.PrintLast Go.Proofs.YtdgglhfnlljmeaaW.PrintMore


theorem w64 {x : Int} (h0 : -9223372036854775808 ≤ x) (h1 : x ≤ 9223372036854775807) : wrap64 x = x := by unfold wrap64; omega
theorem Ev_ite {α : Type} {c : Prop} [Decidable c] {g h : Nat → Option α} {r : α} (h1 : c → Ev g r) (h2 : ¬ c → Ev h r) : Ev (fun k => if c then g k else h k) r := by
  by_cases hc : c
  · obtain ⟨K, hK⟩ := h1 hc
    exact ⟨K, fun k hk => (if_pos hc).trans (hK k hk)⟩
  · obtain ⟨K, hK⟩ := h2 hc
    exact ⟨K, fun k hk => (if_neg hc).trans (hK k hk)⟩
theorem Ev_pos {α : Type} {c : Prop} [Decidable c] {g h : Nat → Option α} {r : α} (hc : c) (h1 : Ev g r) : Ev (fun k => if c then g k else h k) r := Ev_ite (fun _ => h1) (fun n => absurd hc n)
theorem Ev_neg {α : Type} {c : Prop} [Decidable c] {g h : Nat → Option α} {r : α} (hc : ¬ c) (h1 : Ev h r) : Ev (fun k => if c then g k else h k) r := Ev_ite (fun n => absurd n hc) (fun _ => h1)
theorem Ev_some {α : Type} {r q : α} (h : r = q) : Ev (fun _ => some r) q := h ▸ Ev.now r
theorem Ev_eq {α : Type} {g : Nat → Option α} {r q : α} (h : r = q) (k : Ev g r) : Ev g q := h ▸ k
theorem Ev_const {α : Type} {o : Option α} {r : α} (h : o = some r) : Ev (fun _ => o) r := by subst h; exact Ev.now r
theorem Ev_bindc {α β : Type} {o : Option α} {f : Nat → α → Option β} {a : α} {r : β} (h : o = some a) (k : Ev (fun n => f n a) r) : Ev (fun n => o.bind (f n)) r := by subst h; exact k
theorem Ev_unique {α : Type} {g : Nat → Option α} {r q : α} (h : Ev g r) (k : Ev g q) : r = q := by
  obtain ⟨K, h⟩ := h
  obtain ⟨L, k⟩ := k
  have h1 := h (max K L) (by omega)
  have h2 := k (max K L) (by omega)
  rw [h1] at h2
  exact Option.some.inj h2
theorem lit64 {x : Int} (h : (Lit.int .i64 x).wf = true) : -9223372036854775808 ≤ x ∧ x ≤ 9223372036854775807 := by
  have h := h
  simp [Lit.wf, IntKind.min, IntKind.max, IntKind.bits, IntKind.signed] at h
  omega
theorem mn_eq (a b : Int) : mn a b = min a b := by unfold mn; omega
theorem mx_eq (a b : Int) : mx a b = max a b := by unfold mx; omega

/-- A loop over the numbers 0 to n - 1: d rounds from i on. -/
def forM {S ρ : Type} (step : S → Int → ρ ⊕ S) (out : S → ρ) : Nat → S → Int → ρ
  | 0, s, _ => out s
  | d + 1, s, i => match step s i with
    | .inl r => r
    | .inr s' => forM step out d s' (i + 1)
theorem Ev_for {S ρ : Type} {F : Nat → S → Int → Option ρ} {step : S → Int → ρ ⊕ S} {out : S → ρ} {n : Nat} (Inv : S → Int → Prop)
    (hend : ∀ s, Inv s n → ∃ K, ∀ k, K ≤ k → F k s n = some (out s))
    (hstep : ∀ (s : S) (i : Int), 0 ≤ i → i < n → Inv s i → (∃ r, step s i = .inl r ∧ ∃ K, ∀ k, K ≤ k → F k s i = some r) ∨ (∃ s', step s i = .inr s' ∧ Inv s' (i + 1) ∧ ∃ K, ∀ k, K ≤ k → F (k + 1) s i = F k s' (i + 1))) :
    ∀ (d : Nat) (s : S) (i : Int), 0 ≤ i → i + d = n → Inv s i → Ev (fun k => F k s i) (forM step out d s i) := by
  intro d
  induction d with
  | zero =>
    intro s i h0 h1 hI
    obtain rfl : i = n := by omega
    exact hend s hI
  | succ d ih =>
    intro s i h0 h1 hI
    rcases hstep s i h0 (by omega) hI with ⟨r, hr, hK⟩ | ⟨s', hs, hI', K, hK⟩
    · simp only [forM, hr]
      exact hK
    · simp only [forM, hs]
      obtain ⟨K', h⟩ := ih s' (i + 1) (by omega) (by omega) hI'
      refine ⟨K + K' + 1, fun k hk => ?_⟩
      obtain ⟨k, rfl⟩ : ∃ m, k = m + 1 := ⟨k - 1, by omega⟩
      exact (hK k (by omega)).trans (h k (by omega))
/-- What holds at the end of a loop. -/
theorem forM_ind {S ρ : Type} {step : S → Int → ρ ⊕ S} {out : S → ρ} {n : Nat} (Inv : S → Int → Prop) (Post : ρ → Prop) (hend : ∀ s, Inv s n → Post (out s))
    (hstep : ∀ (s : S) (i : Int), 0 ≤ i → i < n → Inv s i → (∀ r, step s i = .inl r → Post r) ∧ ∀ s', step s i = .inr s' → Inv s' (i + 1)) : ∀ (d : Nat) (s : S) (i : Int), 0 ≤ i → i + d = n → Inv s i → Post (forM step out d s i) := by
  intro d
  induction d with
  | zero =>
    intro s i h0 h1 hI
    obtain rfl : i = n := by omega
    exact hend s hI
  | succ d ih =>
    intro s i h0 h1 hI
    obtain ⟨h2, h3⟩ := hstep s i h0 (by omega) hI
    simp only [forM]
    cases hs : step s i with
    | inl r => exact h2 r hs
    | inr s' => exact ih s' (i + 1) (by omega) (by omega) (h3 s' hs)

theorem Ev_succ {α : Type} {g : Nat → Option α} {r : α} (h : Ev (fun k => g (k + 1)) r) : Ev g r := Ev.step (fun _ => rfl) h
theorem Ev_for2 {S ρ : Type} {F : Nat → S → Int → Option ρ} {step : S → Int → ρ ⊕ S} {out : S → ρ} {n : Nat} (Inv : S → Int → Prop)
    (hend : ∀ s, Inv s n → Ev (fun k => F k s n) (out s))
    (hstep : ∀ (s : S) (i : Int), 0 ≤ i → i < n → Inv s i → (∃ r, step s i = .inl r ∧ Ev (fun k => F k s i) r) ∨ (∃ s', step s i = .inr s' ∧ Inv s' (i + 1) ∧ ∀ r, Ev (fun k => F k s' (i + 1)) r → Ev (fun k => F k s i) r)) :
    ∀ (d : Nat) (s : S) (i : Int), 0 ≤ i → i + d = n → Inv s i → Ev (fun k => F k s i) (forM step out d s i) := by
  intro d
  induction d with
  | zero =>
    intro s i h0 h1 hI
    obtain rfl : i = n := by omega
    exact hend s hI
  | succ d ih =>
    intro s i h0 h1 hI
    rcases hstep s i h0 (by omega) hI with ⟨r, hr, hK⟩ | ⟨s', hs, hI', hK⟩
    · simp only [forM, hr]
      exact hK
    · simp only [forM, hs]
      exact hK _ (ih s' (i + 1) (by omega) (by omega) hI')
/-- A loop over a list that only gathers: a fold. -/
theorem forM_fold {S ρ α : Type} (xs : List α) (rdx : Int → α) (hrd : ∀ (j : Nat) (h : j < xs.length), rdx j = xs[j]) (upd : S → α → S) (out : S → ρ) (d : Nat) : ∀ (s : S) (i : Nat), i + d = xs.length →
    forM (ρ := ρ) (fun s i => .inr (upd s (rdx i))) out d s i = out ((xs.drop i).foldl upd s) := by
  induction d with
  | zero =>
    intro s i hi
    rw [List.drop_eq_nil_of_le (by omega)]
    rfl
  | succ d ih =>
    intro s i hi
    rw [List.drop_eq_getElem_cons (show i < xs.length by omega)]
    simp only [forM, List.foldl_cons]
    have := ih (upd s (rdx i)) (i + 1) (by omega)
    rw [← hrd i (by omega)]
    exact this
theorem forM_fold0 {S ρ α : Type} (xs : List α) (rdx : Int → α) (hrd : ∀ (j : Nat) (h : j < xs.length), rdx j = xs[j]) (upd : S → α → S) (out : S → ρ) (s : S) :
    forM (ρ := ρ) (fun s i => .inr (upd s (rdx i))) out xs.length s 0 = out (xs.foldl upd s) := by
  have := forM_fold xs rdx hrd upd out xs.length s 0 (by omega)
  rw [List.drop_zero] at this
  exact this
/-- A loop that looks at each place, and stops at the first that fails. -/
theorem forM_all {p : Int → Bool} {b : Bool} {n : Nat} (d : Nat) : ∀ i : Int, 0 ≤ i → i + d = n → (forM (S := Unit) (ρ := Bool) (fun _ i => if p i = true then .inr () else .inl false) (fun _ => b) d () i = true ↔ b = true ∧ ∀ j : Int, i ≤ j → j < n → p j = true) := by
  induction d with
  | zero =>
    intro i h0 hi
    simp only [forM]
    exact ⟨fun h => ⟨h, fun j h1 h2 => by omega⟩, fun h => h.1⟩
  | succ d ih =>
    intro i h0 hi
    simp only [forM]
    by_cases hp : p i = true
    · rw [if_pos hp]
      refine (ih (i + 1) (by omega) (by omega)).trans ⟨fun h => ⟨h.1, fun j h1 h2 => ?_⟩, fun h => ⟨h.1, fun j h1 h2 => h.2 j (by omega) h2⟩⟩
      by_cases hj : j = i
      · rw [hj]; exact hp
      · exact h.2 j (by omega) h2
    · rw [if_neg hp]
      exact ⟨(fun h => by cases h), fun h => absurd (h.2 i (Int.le_refl _) (by omega)) hp⟩

/-- A loop that never stops before its end. -/
def foldU {S : Type} (upd : S → Int → S) : Nat → S → Int → S
  | 0, s, _ => s
  | d + 1, s, i => foldU upd d (upd s i) (i + 1)
theorem foldU_ind {S : Type} {upd : S → Int → S} {n : Int} (Inv : S → Int → Prop) (hstep : ∀ (s : S) (i : Int), 0 ≤ i → i < n → Inv s i → Inv (upd s i) (i + 1)) : ∀ (d : Nat) (s : S) (i : Int), 0 ≤ i → i + d = n → Inv s i → Inv (foldU upd d s i) n := by
  intro d
  induction d with
  | zero => intro s i h0 h1 hI; obtain rfl : i = n := by omega
            exact hI
  | succ d ih => intro s i h0 h1 hI; exact ih _ _ (by omega) (by omega) (hstep s i h0 (by omega) hI)
theorem Ev_forK {S τ : Type} {F : Nat → S → Int → Option τ} {upd : S → Int → S} {n : Int} {r : τ} (Inv : S → Int → Prop)
    (hstep : ∀ (s : S) (i : Int), 0 ≤ i → i < n → Inv s i → Inv (upd s i) (i + 1) ∧ (Ev (fun k => F k (upd s i) (i + 1)) r → Ev (fun k => F k s i) r)) :
    ∀ (d : Nat) (s : S) (i : Int), 0 ≤ i → i + d = n → Inv s i → (Inv (foldU upd d s i) n → Ev (fun k => F k (foldU upd d s i) n) r) → Ev (fun k => F k s i) r := by
  intro d
  induction d with
  | zero => intro s i h0 h1 hI h; obtain rfl : i = n := by omega
            exact h hI
  | succ d ih =>
    intro s i h0 h1 hI h
    obtain ⟨h2, h3⟩ := hstep s i h0 (by omega) hI
    exact h3 (ih _ _ (by omega) (by omega) h2 h)

theorem Ev_allK {τ : Type} {F : Nat → Int → Option τ} {p : Int → Prop} {n : Int} {r bad : τ}
    (hstep : ∀ i : Int, 0 ≤ i → i < n → (p i → Ev (fun k => F k (i + 1)) r → Ev (fun k => F k i) r) ∧ (¬ p i → r = bad → Ev (fun k => F k i) r)) :
    ∀ (d : Nat) (i : Int), 0 ≤ i → i + d = n → (¬ (∀ j : Int, i ≤ j → j < n → p j) → r = bad) → ((∀ j : Int, i ≤ j → j < n → p j) → Ev (fun k => F k n) r) → Ev (fun k => F k i) r := by
  intro d
  induction d with
  | zero => intro i h0 h1 _ h; obtain rfl : i = n := by omega
            exact h (fun j h2 h3 => by omega)
  | succ d ih =>
    intro i h0 h1 hb hg
    obtain ⟨h2, h3⟩ := hstep i h0 (by omega)
    by_cases hp : p i
    · refine h2 hp (ih (i + 1) (by omega) (by omega) (fun h => hb (fun q => h (fun j h4 h5 => q j (by omega) h5))) (fun h => hg (fun j h4 h5 => ?_)))
      by_cases hj : j = i
      · rw [hj]; exact hp
      · exact h j (by omega) h5
    · exact h3 hp (hb (fun q => hp (q i (Int.le_refl _) (by omega))))

theorem within_eq (a lo hi : Int) : impl_within.f a lo hi = some (decide (lo ≤ a ∧ a ≤ hi)) := by
  unfold impl_within.f
  by_cases h : lo ≤ a <;> simp [h]

theorem l01In_eq (a lo hi : Int) : spec_l01In.f a lo hi = some (decide (lo ≤ a ∧ a ≤ hi)) := by
  unfold spec_l01In.f
  by_cases h : a ≥ lo
  · have : lo ≤ a := h
    simp [this]
  · have : ¬ lo ≤ a := h
    simp [this]

def WordOk (s : ByteArray) : Prop := (1 ≤ (s.size : Int) ∧ (s.size : Int) ≤ 16) ∧ ∀ i : Int, 0 ≤ i → i < s.size → ¬ bt s i < 97 ∧ ¬ bt s i > 122
noncomputable def wordB (s : ByteArray) : Bool := open Classical in decide (WordOk s)
theorem wordB_iff {s : ByteArray} : wordB s = true ↔ WordOk s := by unfold wordB; exact @decide_eq_true_iff _ (Classical.propDecidable _)
theorem wordB_no {s : ByteArray} (h : ¬ WordOk s) : wordB s = false := by rw [Bool.eq_false_iff]; exact fun q => h (wordB_iff.1 q)
theorem spec_IsWord_ev (s : ByteArray) (hs : s.size ≤ maxLen) : Ev (fun k => spec_IsWord.f k s) (wordB s) := by
  have hm : s.size ≤ 9223372036854775807 := hs
  unfold spec_IsWord.f
  refine Ev_allK (F := fun k i => spec_IsWord.l0 k s i) (p := fun i => ¬ bt s i < 97 ∧ ¬ bt s i > 122) (n := s.size) (bad := false) (fun i h0 h1 => ⟨fun hp hr => Ev_succ (by
    simp only [spec_IsWord.l0]
    rw [w64 (by omega) (by omega)]
    exact Ev_pos h1 (Ev_pos h0 (Ev_neg hp.1 (Ev_neg hp.2 hr)))), fun hp hr => Ev_succ (by
    simp only [spec_IsWord.l0]
    exact Ev_pos h1 (Ev_pos h0 (Ev_ite (fun _ => Ev_some hr.symm) (fun ha => Ev_ite (fun _ => Ev_some hr.symm) (fun hb => absurd ⟨ha, hb⟩ hp)))))⟩) s.size 0 (by omega) (by omega) (fun hno => wordB_no (fun q => hno q.2)) (fun hv => Ev_succ (by
    simp only [spec_IsWord.l0, l01In_eq, Option.bind_some]
    refine Ev_neg (by omega) (Ev_some ?_)
    by_cases hz : 1 ≤ (s.size : Int) ∧ (s.size : Int) ≤ 16
    · rw [decide_eq_true hz]; exact (wordB_iff.2 ⟨hz, hv⟩).symm
    · rw [decide_eq_false hz]; exact (wordB_no (fun q => hz q.1)).symm))
theorem impl_IsWord_ev (s : ByteArray) : Ev (fun k => impl_IsWord.f k s) (wordB s) := by
  unfold impl_IsWord.f
  have hj : ∀ r, r = false → Ev (fun k => impl_IsWord.j0 k s true) r := fun r h => Ev_succ (by
    simp only [impl_IsWord.j0, if_true]
    exact Ev_some h.symm)
  refine Ev_ite (fun h => hj _ (wordB_no (fun q => absurd q.1.1 (by omega)))) (fun h => ?_)
  by_cases h2 : (s.size : Int) > 16
  · rw [decide_eq_true h2]
    exact hj _ (wordB_no (fun q => absurd q.1.2 (by omega)))
  · rw [decide_eq_false h2]
    refine Ev_succ (by
      simp only [impl_IsWord.j0, Bool.false_eq_true, if_false]
      exact Ev_allK (F := fun k i => impl_IsWord.l0 k s i) (p := fun i => ¬ bt s i < 97 ∧ ¬ bt s i > 122) (n := s.size) (bad := false) (fun i h0 h1 => ⟨fun hp hr => Ev_succ (by
        simp only [impl_IsWord.l0]
        rw [w64 (by omega) (by omega)]
        exact Ev_pos h1 (Ev_pos h0 (Ev_neg hp.1 (Ev_neg hp.2 hr)))), fun hp hr => Ev_succ (by
        simp only [impl_IsWord.l0]
        exact Ev_pos h1 (Ev_pos h0 (Ev_ite (fun _ => Ev_some hr.symm) (fun ha => Ev_ite (fun _ => Ev_some hr.symm) (fun hb => absurd ⟨ha, hb⟩ hp)))))⟩) s.size 0 (by omega) (by omega) (fun hno => wordB_no (fun q => hno q.2)) (fun hv => Ev_succ (by
        simp only [impl_IsWord.l0]
        exact Ev_neg (by omega) (Ev_some (wordB_iff.2 ⟨⟨by omega, by omega⟩, hv⟩).symm))))

def ArtOk (x : S65) : Prop := WordOk x.f0 ∧ (0 ≤ x.f1 ∧ x.f1 ≤ 3) ∧ (20 ≤ x.f2 ∧ x.f2 ≤ 300) ∧ (0 ≤ x.f3 ∧ x.f3 ≤ 10000) ∧ (0 ≤ x.f4 ∧ x.f4 ≤ x.f3) ∧ (1 ≤ x.f5 ∧ x.f5 ≤ 50) ∧ (0 ≤ x.f6 ∧ x.f6 ≤ 10000) ∧ (1 ≤ x.f7 ∧ x.f7 ≤ 100000) ∧ 0 ≤ x.f8 ∧ x.f8 ≤ 3
noncomputable def artB (x : S65) : Bool := open Classical in decide (ArtOk x)
theorem artB_iff {x : S65} : artB x = true ↔ ArtOk x := by unfold artB; exact @decide_eq_true_iff _ (Classical.propDecidable _)
theorem artB_no {x : S65} (h : ¬ ArtOk x) : artB x = false := by rw [Bool.eq_false_iff]; exact fun q => h (artB_iff.1 q)
theorem spec_IsArticle_ev (x : S65) (hs : x.f0.size ≤ maxLen) : Ev (fun k => spec_IsArticle.f k x.f0 x.f1 x.f2 x.f3 x.f4 x.f5 x.f6 x.f7 x.f8) (artB x) := by
  unfold spec_IsArticle.f
  refine Ev.bind (spec_IsWord_ev _ hs) ?_
  simp only [l01In_eq, Option.bind_some, decide_eq_true_eq]
  by_cases h : ArtOk x
  · rw [artB_iff.2 h]
    obtain ⟨h0, h1, h2, h3, h4, h5, h6, h7, h8⟩ := h
    exact Ev_pos (wordB_iff.2 h0) (Ev_pos h1 (Ev_pos h2 (Ev_pos h3 (Ev_pos h4 (Ev_pos h5 (Ev_pos h6 (Ev_pos h7 (Ev_some (decide_eq_true h8)))))))))
  · rw [artB_no h]
    exact Ev_ite (fun g0 => Ev_ite (fun g1 => Ev_ite (fun g2 => Ev_ite (fun g3 => Ev_ite (fun g4 => Ev_ite (fun g5 => Ev_ite (fun g6 => Ev_ite (fun g7 => Ev_some (decide_eq_false (fun g8 => h ⟨wordB_iff.1 g0, g1, g2, g3, g4, g5, g6, g7, g8⟩))) (fun _ => Ev.now _)) (fun _ => Ev.now _)) (fun _ => Ev.now _)) (fun _ => Ev.now _)) (fun _ => Ev.now _)) (fun _ => Ev.now _)) (fun _ => Ev.now _)) (fun _ => Ev.now _)
theorem impl_IsArticle_ev (x : S65) : Ev (fun k => impl_IsArticle.f k x.f0 x.f1 x.f2 x.f3 x.f4 x.f5 x.f6 x.f7 x.f8) (artB x) := by
  unfold impl_IsArticle.f
  refine Ev.bind (impl_IsWord_ev _) ?_
  simp only [within_eq, Option.bind_some, decide_eq_true_eq]
  by_cases h : ArtOk x
  · rw [artB_iff.2 h]
    obtain ⟨h0, h1, h2, h3, h4, h5, h6, h7, h8⟩ := h
    exact Ev_pos (wordB_iff.2 h0) (Ev_pos h1 (Ev_pos h2 (Ev_pos h3 (Ev_pos h4 (Ev_pos h5 (Ev_pos h6 (Ev_pos h7 (Ev_some (decide_eq_true h8)))))))))
  · rw [artB_no h]
    exact Ev_ite (fun g0 => Ev_ite (fun g1 => Ev_ite (fun g2 => Ev_ite (fun g3 => Ev_ite (fun g4 => Ev_ite (fun g5 => Ev_ite (fun g6 => Ev_ite (fun g7 => Ev_some (decide_eq_false (fun g8 => h ⟨wordB_iff.1 g0, g1, g2, g3, g4, g5, g6, g7, g8⟩))) (fun _ => Ev.now _)) (fun _ => Ev.now _)) (fun _ => Ev.now _)) (fun _ => Ev.now _)) (fun _ => Ev.now _)) (fun _ => Ev.now _)) (fun _ => Ev.now _)) (fun _ => Ev.now _)

theorem rdArt_mem {xs : List S65} {i : Int} (h0 : 0 ≤ i) (h1 : i < xs.length) : rd_T65 xs i ∈ xs := by
  have : rd_T65 xs i = xs[i.toNat]'(by omega) := by simp [rd_T65, List.getD_eq_getElem?_getD, List.getElem?_eq_getElem (show i.toNat < xs.length by omega)]
  rw [this]
  exact List.getElem_mem _
def StepOk (xs : List S65) (i : Int) : Prop := ArtOk (rd_T65 xs i) ∧ (0 < i → Op.bytesLess (rd_T65 xs (i - 1)).f0.toList (rd_T65 xs i).f0.toList = true)
def ArtsOk (xs : List S65) : Prop := (xs.length : Int) ≤ 12 ∧ ∀ i : Int, 0 ≤ i → i < xs.length → StepOk xs i
noncomputable def artsB (xs : List S65) : Bool := open Classical in decide (ArtsOk xs)
theorem artsB_iff {xs : List S65} : artsB xs = true ↔ ArtsOk xs := by unfold artsB; exact @decide_eq_true_iff _ (Classical.propDecidable _)
theorem artsB_no {xs : List S65} (h : ¬ ArtsOk xs) : artsB xs = false := by rw [Bool.eq_false_iff]; exact fun q => h (artsB_iff.1 q)
theorem spec_AreArticles_ev (xs : List S65) (hn : xs.length ≤ 1000000) (hs : ∀ x ∈ xs, x.f0.size ≤ maxLen) : Ev (fun k => spec_AreArticles.f k xs) (artsB xs) := by
  unfold spec_AreArticles.f
  refine Ev_allK (F := fun k i => spec_AreArticles.l0 k xs i) (p := StepOk xs) (n := xs.length) (bad := false) (fun i h0 h1 => ⟨fun hp hr => Ev_succ (by
    simp only [spec_AreArticles.l0]
    refine Ev_pos h1 (Ev_pos h0 (Ev.bind (spec_IsArticle_ev _ (hs _ (rdArt_mem h0 h1))) ?_))
    rw [artB_iff.2 hp.1, w64 (x := i + 1) (by omega) (by omega), w64 (x := i - 1) (by omega) (by omega)]
    exact Ev_pos rfl (Ev_ite (fun hi => Ev_pos (by omega) (Ev_pos (by omega) (Ev_pos (hp.2 hi) hr))) (fun _ => hr))), fun hp hr => Ev_succ (by
    simp only [spec_AreArticles.l0]
    refine Ev_pos h1 (Ev_pos h0 (Ev.bind (spec_IsArticle_ev _ (hs _ (rdArt_mem h0 h1))) ?_))
    rw [w64 (x := i - 1) (by omega) (by omega)]
    exact Ev_ite (fun ha => Ev_ite (fun hi => Ev_pos (by omega) (Ev_pos (by omega) (Ev_neg (fun hb => hp ⟨artB_iff.1 ha, fun _ => hb⟩) (Ev_some hr.symm)))) (fun hi => absurd ⟨artB_iff.1 ha, fun q => absurd q hi⟩ hp)) (fun _ => Ev_some hr.symm))⟩) xs.length 0 (by omega) (by omega) (fun hno => artsB_no (fun q => hno q.2)) (fun hv => Ev_succ (by
    simp only [spec_AreArticles.l0]
    refine Ev_neg (by omega) (Ev_some ?_)
    by_cases hz : (xs.length : Int) ≤ 12
    · rw [decide_eq_true hz]; exact (artsB_iff.2 ⟨hz, hv⟩).symm
    · rw [decide_eq_false hz]; exact (artsB_no (fun q => hz q.1)).symm))
theorem impl_AreArticles_ev (xs : List S65) : Ev (fun k => impl_AreArticles.f k xs) (artsB xs) := by
  unfold impl_AreArticles.f
  refine Ev_ite (fun h => Ev_some (artsB_no (fun q => absurd q.1 (by omega))).symm) (fun h => ?_)
  refine Ev_allK (F := fun k i => impl_AreArticles.l0 k xs xs (xs.length : Int) i) (p := StepOk xs) (n := xs.length) (bad := false) (fun i h0 h1 => ⟨fun hp hr => Ev_succ (by
    simp only [impl_AreArticles.l0]
    refine Ev_pos h1 (Ev_pos h0 (Ev_pos h1 (Ev.bind (impl_IsArticle_ev _) ?_)))
    rw [artB_iff.2 hp.1, w64 (x := i + 1) (by omega) (by omega), w64 (x := i - 1) (by omega) (by omega)]
    exact Ev_pos rfl (Ev_ite (fun hi => Ev_pos (by omega) (Ev_pos (by omega) (Ev_pos (hp.2 hi) hr))) (fun _ => hr))), fun hp hr => Ev_succ (by
    simp only [impl_AreArticles.l0]
    refine Ev_pos h1 (Ev_pos h0 (Ev_pos h1 (Ev.bind (impl_IsArticle_ev _) ?_)))
    rw [w64 (x := i - 1) (by omega) (by omega)]
    exact Ev_ite (fun ha => Ev_ite (fun hi => Ev_pos (by omega) (Ev_pos (by omega) (Ev_neg (fun hb => hp ⟨artB_iff.1 ha, fun _ => hb⟩) (Ev_some hr.symm)))) (fun hi => absurd ⟨artB_iff.1 ha, fun q => absurd q hi⟩ hp)) (fun _ => Ev_some hr.symm))⟩) xs.length 0 (by omega) (by omega) (fun hno => artsB_no (fun q => hno q.2)) (fun hv => Ev_succ (by
    simp only [impl_AreArticles.l0]
    exact Ev_neg (by omega) (Ev_some (artsB_iff.2 ⟨by omega, hv⟩).symm)))

theorem find_tells (xs : List S65) (hn : xs.length ≤ 1000000) (c : ByteArray) : ∃ f : Int, Ev (fun k => spec_l03Find.f k xs c) f ∧ Ev (fun k => impl_articleOf.f k xs c) f ∧ (f = -1 ∨ 0 ≤ f ∧ f < xs.length) := by
  have h : ∀ (d : Nat) (i : Int), 0 ≤ i → i + d = xs.length → ∃ f : Int, Ev (fun k => spec_l03Find.l0 k xs c i) f ∧ Ev (fun k => impl_articleOf.l0 k c xs (xs.length : Int) i) f ∧ (f = -1 ∨ 0 ≤ f ∧ f < xs.length) := by
    intro d
    induction d with
    | zero =>
      intro i h0 h1
      exact ⟨-1, Ev_succ (by simp only [spec_l03Find.l0]; exact Ev_neg (by omega) (Ev.now _)), Ev_succ (by simp only [impl_articleOf.l0]; exact Ev_neg (by omega) (Ev.now _)), .inl rfl⟩
    | succ d ih =>
      intro i h0 h1
      by_cases hc : (rd_T65 xs i).f0.toList = c.toList
      · exact ⟨i, Ev_succ (by simp only [spec_l03Find.l0]; exact Ev_pos (by omega) (Ev_pos h0 (Ev_pos hc (Ev.now _)))), Ev_succ (by simp only [impl_articleOf.l0]; exact Ev_pos (by omega) (Ev_pos h0 (Ev_pos (by omega) (Ev_pos hc (Ev.now _))))), .inr ⟨h0, by omega⟩⟩
      · obtain ⟨f, h2, h3, h4⟩ := ih (i + 1) (by omega) (by omega)
        refine ⟨f, Ev_succ (by simp only [spec_l03Find.l0]; rw [w64 (by omega) (by omega)]; exact Ev_pos (by omega) (Ev_pos h0 (Ev_neg hc h2))), Ev_succ (by simp only [impl_articleOf.l0]; rw [w64 (by omega) (by omega)]; exact Ev_pos (by omega) (Ev_pos h0 (Ev_pos (by omega) (Ev_neg hc h3)))), h4⟩
  exact h xs.length 0 (by omega) (by omega)

def CountsOk (xs : List S65) (cs : List Int) : Prop := (cs.length : Int) = (xs.length : Int) ∧ ∀ i : Int, 0 ≤ i → i < cs.length → 0 ≤ rd cs i ∧ rd cs i ≤ 1000
def MagOk (xs : List S65) (lim : Int) (cs : List Int) : Prop := ArtsOk xs ∧ (0 ≤ lim ∧ lim ≤ 1000000000) ∧ CountsOk xs cs
noncomputable def magB (xs : List S65) (lim : Int) (cs : List Int) : Bool := open Classical in decide (MagOk xs lim cs)
theorem magB_iff {xs : List S65} {lim : Int} {cs : List Int} : magB xs lim cs = true ↔ MagOk xs lim cs := by unfold magB; exact @decide_eq_true_iff _ (Classical.propDecidable _)
theorem magB_no {xs : List S65} {lim : Int} {cs : List Int} (h : ¬ MagOk xs lim cs) : magB xs lim cs = false := by rw [Bool.eq_false_iff]; exact fun q => h (magB_iff.1 q)
theorem spec_l03Code_ev (xs : List S65) (hn : xs.length ≤ 1000000) (hs : ∀ x ∈ xs, x.f0.size ≤ maxLen) (cs : List Int) (hc : cs.length ≤ 1000000) : ∃ c, Ev (fun k => spec_l03Code.f k xs cs) c ∧ (c = 0 ↔ ArtsOk xs ∧ CountsOk xs cs) := by
  unfold spec_l03Code.f
  by_cases ha : ArtsOk xs
  · by_cases hk : CountsOk xs cs
    · refine ⟨0, Ev.bind (spec_AreArticles_ev xs hn hs) (Ev_pos (artsB_iff.2 ha) ?_), ⟨fun _ => ⟨ha, hk⟩, fun _ => rfl⟩⟩
      exact Ev_allK (F := fun k i => spec_l03Code.l0 k xs cs i) (p := fun i => 0 ≤ rd cs i ∧ rd cs i ≤ 1000) (n := cs.length) (bad := 2) (fun i h0 h1 => ⟨fun hp hr => Ev_succ (by
        simp only [spec_l03Code.l0, l01In_eq, Option.bind_some, decide_eq_true_eq]
        rw [w64 (by omega) (by omega)]
        exact Ev_pos h1 (Ev_pos h0 (Ev_pos hp hr))), fun hp _ => absurd (hk.2 i h0 h1) hp⟩) cs.length 0 (by omega) (by omega) (fun hno => absurd (fun j h0 h1 => hk.2 j h0 h1) hno) (fun _ => Ev_succ (by
        simp only [spec_l03Code.l0]
        exact Ev_neg (by omega) (Ev_pos hk.1 (Ev.now _))))
    · refine ⟨2, Ev.bind (spec_AreArticles_ev xs hn hs) (Ev_pos (artsB_iff.2 ha) ?_), ⟨fun h => absurd h (by decide), fun h => absurd h.2 hk⟩⟩
      exact Ev_allK (F := fun k i => spec_l03Code.l0 k xs cs i) (p := fun i => 0 ≤ rd cs i ∧ rd cs i ≤ 1000) (n := cs.length) (bad := 2) (fun i h0 h1 => ⟨fun hp hr => Ev_succ (by
        simp only [spec_l03Code.l0, l01In_eq, Option.bind_some, decide_eq_true_eq]
        rw [w64 (by omega) (by omega)]
        exact Ev_pos h1 (Ev_pos h0 (Ev_pos hp hr))), fun hp _ => Ev_succ (by
        simp only [spec_l03Code.l0, l01In_eq, Option.bind_some, decide_eq_true_eq]
        exact Ev_pos h1 (Ev_pos h0 (Ev_neg hp (Ev.now _))))⟩) cs.length 0 (by omega) (by omega) (fun _ => rfl) (fun hall => Ev_succ (by
        simp only [spec_l03Code.l0]
        exact Ev_neg (by omega) (Ev_neg (fun h => hk ⟨h, fun i h0 h1 => hall i h0 h1⟩) (Ev.now _))))
  · exact ⟨1, Ev.bind (spec_AreArticles_ev xs hn hs) (Ev_neg (fun q => ha (artsB_iff.1 q)) (Ev.now _)), ⟨fun h => absurd h (by decide), fun h => absurd h.1 ha⟩⟩
theorem spec_IsMagazine_ev (xs : List S65) (hn : xs.length ≤ 1000000) (hs : ∀ x ∈ xs, x.f0.size ≤ maxLen) (lim : Int) (cs : List Int) (hc : cs.length ≤ 1000000) : Ev (fun k => spec_IsMagazine.f k xs lim cs) (magB xs lim cs) := by
  obtain ⟨c, he, hi⟩ := spec_l03Code_ev xs hn hs cs hc
  unfold spec_IsMagazine.f
  rw [l01In_eq]
  simp only [Option.bind_some, decide_eq_true_eq]
  refine Ev_ite (fun hl => Ev.bind he (Ev_some ?_)) (fun hl => Ev_some (magB_no (fun q => hl q.2.1)).symm)
  by_cases h0 : c = 0
  · rw [magB_iff.2 ⟨(hi.1 h0).1, hl, (hi.1 h0).2⟩]; simp [h0]
  · rw [magB_no (fun q => h0 (hi.2 ⟨q.1, q.2.2⟩))]; simp [h0]
theorem impl_allWithin_ev (cs : List Int) (hc : cs.length ≤ 9000000000000000000) (lo hi : Int) : Ev (fun k => impl_allWithin.f k cs lo hi) (open Classical in decide (∀ i : Int, 0 ≤ i → i < cs.length → lo ≤ rd cs i ∧ rd cs i ≤ hi)) := by
  unfold impl_allWithin.f
  exact Ev_allK (F := fun k i => impl_allWithin.l0 k lo hi cs (cs.length : Int) i) (p := fun i => lo ≤ rd cs i ∧ rd cs i ≤ hi) (n := cs.length) (bad := false) (fun i h4 h5 => ⟨fun hp hr => Ev_succ (by
    simp only [impl_allWithin.l0, within_eq, Option.bind_some, decide_eq_true_eq]
    rw [w64 (by omega) (by omega)]
    exact Ev_pos h5 (Ev_pos h4 (Ev_pos h5 (Ev_pos hp hr)))), fun hp hr => Ev_succ (by
    simp only [impl_allWithin.l0, within_eq, Option.bind_some, decide_eq_true_eq]
    exact Ev_pos h5 (Ev_pos h4 (Ev_pos h5 (Ev_neg hp (Ev_some hr.symm)))))⟩) cs.length 0 (by omega) (by omega) (fun hno => @decide_eq_false _ (Classical.propDecidable _) hno) (fun hv => Ev_succ (by
    simp only [impl_allWithin.l0]
    exact Ev_neg (by omega) (Ev_some (@decide_eq_true _ (Classical.propDecidable _) hv).symm)))
theorem impl_IsMagazine_ev (xs : List S65) (lim : Int) (cs : List Int) (hc : cs.length ≤ 1000000) : Ev (fun k => impl_IsMagazine.f k xs lim cs) (magB xs lim cs) := by
  unfold impl_IsMagazine.f
  refine Ev.bind (impl_AreArticles_ev xs) (Ev_ite (fun ha => ?_) (fun ha => Ev_some (magB_no (fun q => ha (artsB_iff.2 q.1))).symm))
  rw [within_eq]
  simp only [Option.bind_some, decide_eq_true_eq]
  refine Ev_ite (fun hl => ?_) (fun hl => Ev_some (magB_no (fun q => hl q.2.1)).symm)
  have hk : Ev (fun k => impl_areCounts.f k xs cs) (magB xs lim cs) := by
    unfold impl_areCounts.f
    refine Ev_ite (fun h1 => Ev.bind (impl_allWithin_ev cs (by omega) 0 1000) (Ev_some ?_)) (fun h1 => Ev_some (magB_no (fun q => h1 q.2.2.1)).symm)
    unfold magB
    by_cases h2 : ∀ i : Int, 0 ≤ i → i < cs.length → 0 ≤ rd cs i ∧ rd cs i ≤ 1000
    · rw [@decide_eq_true _ (Classical.propDecidable _) h2, @decide_eq_true _ (Classical.propDecidable _) (show MagOk xs lim cs from ⟨artsB_iff.1 ha, hl, h1, h2⟩)]
    · rw [@decide_eq_false _ (Classical.propDecidable _) h2, @decide_eq_false _ (Classical.propDecidable _) (fun q : MagOk xs lim cs => h2 q.2.2.2)]
  exact Ev.bind hk (Ev.now _)

/-- The counts with some pieces more at one place. -/
def withM (cs : List Int) (f p : Int) : List Int := cs.set f.toNat (rd cs f + p)
theorem withM_length (cs : List Int) (f p : Int) : (withM cs f p).length = cs.length := by unfold withM; rw [List.length_set]
theorem spec_with_eq {a : Int} {cs : List Int} {f p : Int} (hc : cs.length ≤ 1000000) (h0 : 0 ≤ f) (h1 : f < cs.length) (h2 : 0 ≤ rd cs f ∧ rd cs f ≤ 1000) (h3 : -1000 ≤ p ∧ p ≤ 1000) : spec_l26With.f a cs f p = some (a, withM cs f p) := by
  unfold spec_l26With.f spec_l01Own.f withM
  simp only [Option.bind_some, List.nil_append]
  rw [if_pos (by simp; omega), Option.bind_some, if_pos h0, if_pos h1, w64 (by omega) (by omega)]
theorem impl_with_eq {a : Int} {cs : List Int} {f p : Int} (hc : cs.length ≤ 1000000) (h0 : 0 ≤ f) (h1 : f < cs.length) (h2 : 0 ≤ rd cs f ∧ rd cs f ≤ 1000) (h3 : -1000 ≤ p ∧ p ≤ 1000) : impl_withPieces.f a cs f p = some (a, withM cs f p) := by
  unfold impl_withPieces.f impl_copyList.f withM
  simp only [Option.bind_some, List.nil_append]
  rw [if_pos (by simp; omega), Option.bind_some, if_pos h0, if_pos h1, w64 (by omega) (by omega)]

theorem l26Code_ev (xs : List S65) (hn : xs.length ≤ 1000000) (hs : ∀ x ∈ xs, x.f0.size ≤ maxLen) (lim : Int) (cs : List Int) (hc : cs.length ≤ 1000000) (c : ByteArray) (p : Int) {f : Int} (hf : Ev (fun k => spec_l03Find.f k xs c) f) : Ev (fun k => spec_l26Code.f k xs lim cs c p) (if magB xs lim cs = true then (if 0 ≤ p ∧ p ≤ 1000 then (if f < 0 then 4 else 0) else 2) else 1) := by
  unfold spec_l26Code.f
  refine Ev.bind (spec_IsMagazine_ev xs hn hs lim cs hc) (Ev_ite (fun hm => ?_) (fun hm => by rw [if_neg hm]; exact Ev.now _))
  rw [if_pos hm, l01In_eq]
  simp only [Option.bind_some, decide_eq_true_eq]
  refine Ev_ite (fun hp => ?_) (fun hp => by rw [if_neg hp]; exact Ev.now _)
  rw [if_pos hp]
  exact Ev.bind hf (Ev_ite (fun q => by rw [if_pos q]; exact Ev.now _) (fun q => by rw [if_neg q]; exact Ev.now _))

theorem withM_at {cs : List Int} {f p i : Int} (h0 : 0 ≤ f) (h1 : f < cs.length) (h2 : 0 ≤ i) : rd (withM cs f p) i = if i = f then rd cs f + p else rd cs i := by
  unfold withM
  by_cases h : i = f
  · rw [if_pos h, h]
    simp [rd, List.getD_eq_getElem?_getD, List.getElem?_set_self (show f.toNat < cs.length by omega)]
  · rw [if_neg h]
    simp only [rd, List.getD_eq_getElem?_getD]
    rw [List.getElem?_set_ne (by omega)]

theorem take_ok {xs : List S65} {lim : Int} {cs : List Int} (h : MagOk xs lim cs) {f p : Int} (h0 : 0 ≤ f) (h1 : f < xs.length) (h2 : 0 ≤ p ∧ p ≤ 1000) : MagOk xs lim (withM cs f (-p)) ↔ ¬ rd cs f < p := by
  have hk := h.2.2
  have hk1 := hk.1
  have hf := hk.2 f h0 (by omega)
  constructor
  · intro q hlt
    have := q.2.2.2 f h0 (by rw [withM_length]; omega)
    rw [withM_at h0 (by omega) h0, if_pos rfl] at this
    omega
  · intro q
    refine ⟨h.1, h.2.1, by rw [withM_length]; exact hk1, fun i h3 h4 => ?_⟩
    rw [withM_length] at h4
    rw [withM_at h0 (by omega) h3]
    by_cases hi : i = f
    · rw [if_pos hi]; omega
    · rw [if_neg hi]; exact hk.2 i h3 h4

theorem take_tells (xs : List S65) (lim : Int) (cs : List Int) (c : ByteArray) (p : Int) (hn : xs.length ≤ 1000000) (hc : cs.length ≤ 1000000) (hs : ∀ x ∈ xs, x.f0.size ≤ maxLen) : ∃ r1 r2 r3, Ev (fun k => spec_TakePieces.f k xs lim cs c p) (r1, r2, r3) ∧ Ev (fun k => impl_TakePieces.f k xs lim cs c p) (r1, r2, r3) ∧ r2.length ≤ 1000000 ∧
    (r3 = 0 → ∃ f, Ev (fun k => impl_articleOf.f k xs c) f ∧ (0 ≤ f ∧ f < xs.length) ∧ MagOk xs lim cs ∧ (0 ≤ p ∧ p ≤ 1000) ∧ r1 = lim ∧ r2 = withM cs f (-p) ∧ MagOk xs lim (withM cs f (-p))) ∧ (¬ MagOk xs lim cs → r3 = 1) := by
  obtain ⟨f, f1, f2, hf⟩ := find_tells xs hn c
  have hcode := l26Code_ev xs hn hs lim cs hc c p f1
  have hi := impl_IsMagazine_ev xs lim cs hc
  unfold spec_TakePieces.f impl_TakePieces.f
  by_cases h : MagOk xs lim cs
  · rw [if_pos (magB_iff.2 h)] at hcode
    simp only [within_eq, Option.bind_some, decide_eq_true_eq]
    by_cases hp : 0 ≤ p ∧ p ≤ 1000
    · rw [if_pos hp] at hcode
      by_cases hz : f < 0
      · rw [if_pos hz] at hcode
        exact ⟨0, [], 4, Ev.bind hcode (Ev_neg (by decide) (Ev.now _)), Ev.bind hi (Ev_pos (magB_iff.2 h) (Ev_pos hp (Ev.bind f2 (Ev_pos hz (Ev.now _))))), by simp, fun q => absurd q (by decide), fun q => absurd h q⟩
      · rw [if_neg hz] at hcode
        have hk := h.2.2
        have hk1 := hk.1
        have hf1 := hk.2 f (by omega) (by omega)
        have e1 := spec_with_eq (a := lim) hc (f := f) (p := -p) (by omega) (by omega) hf1 (by omega)
        have e2 := impl_with_eq (a := lim) hc (f := f) (p := -p) (by omega) (by omega) hf1 (by omega)
        have ew : wrap64 (-p) = -p := w64 (by omega) (by omega)
        have hm := spec_IsMagazine_ev xs hn hs lim (withM cs f (-p)) (by rw [withM_length]; omega)
        by_cases hlt : rd cs f < p
        · have hb : ¬ magB xs lim (withM cs f (-p)) = true := fun q => (take_ok h (by omega) (by omega) hp).1 (magB_iff.1 q) hlt
          refine ⟨0, [], 5, Ev.bind hcode (Ev_pos rfl (Ev.bind f1 ?_)), Ev.bind hi (Ev_pos (magB_iff.2 h) (Ev_pos hp (Ev.bind f2 (Ev_neg hz (Ev_pos (by omega) (Ev_pos (by omega) (Ev_pos hlt (Ev.now _)))))))), by simp, fun q => absurd q (by decide), fun q => absurd h q⟩
          rw [ew]
          exact Ev_bindc e1 (Ev.bind hm (Ev_neg hb (Ev.now _)))
        · have ho := (take_ok h (by omega) (by omega) hp).2 hlt
          refine ⟨lim, withM cs f (-p), 0, Ev.bind hcode (Ev_pos rfl (Ev.bind f1 ?_)), Ev.bind hi (Ev_pos (magB_iff.2 h) (Ev_pos hp (Ev.bind f2 (Ev_neg hz (Ev_pos (by omega) (Ev_pos (by omega) (Ev_neg hlt ?_))))))), by rw [withM_length]; exact hc, fun _ => ⟨f, f2, ⟨by omega, by omega⟩, h, hp, rfl, rfl, ho⟩, fun q => absurd h q⟩
          · rw [ew]
            exact Ev_bindc e1 (Ev.bind hm (Ev_pos (magB_iff.2 ho) (Ev.now _)))
          · rw [ew]
            exact Ev_bindc e2 (Ev.now _)
    · rw [if_neg hp] at hcode
      exact ⟨0, [], 2, Ev.bind hcode (Ev_neg (by decide) (Ev.now _)), Ev.bind hi (Ev_pos (magB_iff.2 h) (Ev_neg hp (Ev.now _))), by simp, fun q => absurd q (by decide), fun q => absurd h q⟩
  · rw [if_neg (fun q => h (magB_iff.1 q))] at hcode
    exact ⟨0, [], 1, Ev.bind hcode (Ev_neg (by decide) (Ev.now _)), Ev.bind hi (Ev_neg (fun q => h (magB_iff.1 q)) (Ev.now _)), by simp, fun q => absurd q (by decide), fun _ => rfl⟩

/-- The net of an order, up to place i. -/
def netM (xs : List S65) (cs : List Int) : Int := foldU (fun s i => s + (rd_T65 xs i).f7 * rd cs i) xs.length 0 0
theorem net_step {xs : List S65} {cs : List Int} {lim : Int} (h : MagOk xs lim cs) {s i : Int} (h0 : 0 ≤ i) (h1 : i < xs.length) (hI : 0 ≤ s ∧ s ≤ 100000000 * i) : 0 ≤ (rd_T65 xs i).f7 * rd cs i ∧ (rd_T65 xs i).f7 * rd cs i ≤ 100000000 ∧ 0 ≤ s + (rd_T65 xs i).f7 * rd cs i ∧ s + (rd_T65 xs i).f7 * rd cs i ≤ 100000000 * (i + 1) := by
  obtain ⟨⟨hl, ha⟩, _, hk1, hk2⟩ := h
  obtain ⟨_, _, _, _, _, _, _, ⟨h71, h72⟩, _⟩ := (ha i h0 h1).1
  obtain ⟨hc1, hc2⟩ := hk2 i h0 (by omega)
  have hp : 0 ≤ (rd_T65 xs i).f7 * rd cs i := Int.mul_nonneg (by omega) hc1
  have hq : (rd_T65 xs i).f7 * rd cs i ≤ 100000 * 1000 := Int.mul_le_mul h72 hc2 hc1 (by omega)
  omega
theorem netM_bounds {xs : List S65} {cs : List Int} {lim : Int} (h : MagOk xs lim cs) : 0 ≤ netM xs cs ∧ netM xs cs ≤ 1200000000 := by
  have := foldU_ind (upd := fun s i => s + (rd_T65 xs i).f7 * rd cs i) (n := xs.length) (fun s i => 0 ≤ s ∧ s ≤ 100000000 * i) (fun s i h0 h1 hI => (net_step h h0 h1 hI).2.2) xs.length 0 0 (by omega) (by omega) (by omega)
  have hl := h.1.1
  unfold netM
  omega
theorem spec_net_ev {xs : List S65} {cs : List Int} {lim : Int} (h : MagOk xs lim cs) (a : Int) : Ev (fun k => spec_l26Net.f k xs a cs) (netM xs cs) := by
  have hl := h.1.1
  have hk := h.2.2.1
  unfold spec_l26Net.f
  refine Ev_forK (F := fun k s i => spec_l26Net.l0 k xs s i a cs) (upd := fun s i => s + (rd_T65 xs i).f7 * rd cs i) (n := xs.length) (fun s i => 0 ≤ s ∧ s ≤ 100000000 * i) (fun s i h0 h1 hI => ⟨(net_step h h0 h1 hI).2.2, fun hr => Ev_succ (by
    obtain ⟨g1, g2, g3, g4⟩ := net_step h h0 h1 hI
    simp only [spec_l26Net.l0]
    rw [w64 (x := (rd_T65 xs i).f7 * rd cs i) (by omega) (by omega), w64 (x := s + (rd_T65 xs i).f7 * rd cs i) (by omega) (by omega), w64 (x := i + 1) (by omega) (by omega)]
    exact Ev_pos h1 (Ev_pos h0 (Ev_pos (by omega) hr)))⟩) xs.length 0 0 (by omega) (by omega) (by omega) (fun _ => Ev_succ (by
    simp only [spec_l26Net.l0]
    exact Ev_neg (by omega) (Ev.now _)))
theorem impl_net_ev {xs : List S65} {cs : List Int} {lim : Int} (h : MagOk xs lim cs) (a : Int) : Ev (fun k => impl_netIn.f k xs a cs) (netM xs cs) := by
  have hl := h.1.1
  have hk := h.2.2.1
  unfold impl_netIn.f
  refine Ev_forK (F := fun k s i => impl_netIn.l0 k s xs (xs.length : Int) i a cs) (upd := fun s i => s + (rd_T65 xs i).f7 * rd cs i) (n := xs.length) (fun s i => 0 ≤ s ∧ s ≤ 100000000 * i) (fun s i h0 h1 hI => ⟨(net_step h h0 h1 hI).2.2, fun hr => Ev_succ (by
    obtain ⟨g1, g2, g3, g4⟩ := net_step h h0 h1 hI
    simp only [impl_netIn.l0]
    rw [w64 (x := (rd_T65 xs i).f7 * rd cs i) (by omega) (by omega), w64 (x := s + (rd_T65 xs i).f7 * rd cs i) (by omega) (by omega), w64 (x := i + 1) (by omega) (by omega)]
    exact Ev_pos h1 (Ev_pos h0 (Ev_pos h1 (Ev_pos (by omega) hr))))⟩) xs.length 0 0 (by omega) (by omega) (by omega) (fun _ => Ev_succ (by
    simp only [impl_netIn.l0]
    exact Ev_neg (by omega) (Ev.now _)))

def mixS (xs : List S65) (cs : List Int) (s : Bool × Bool) (i : Int) : Bool × Bool := if rd cs i > 0 then (s.1 || ((rd_T65 xs i).f8 == 3), s.2 || ((rd_T65 xs i).f8 != 3)) else s
def mixM (xs : List S65) (cs : List Int) : Bool := (foldU (mixS xs cs) xs.length (false, false) 0).1 && (foldU (mixS xs cs) xs.length (false, false) 0).2
theorem spec_mix_ev {xs : List S65} {cs : List Int} (hl : (xs.length : Int) ≤ 12) (hk : (cs.length : Int) = (xs.length : Int)) (a : Int) : Ev (fun k => spec_l26Mixed.f k xs a cs) (mixM xs cs) := by
  unfold spec_l26Mixed.f
  refine Ev_forK (F := fun k (s : Bool × Bool) i => spec_l26Mixed.l0 k xs s.1 s.2 i a cs) (upd := mixS xs cs) (n := xs.length) (fun _ _ => True) (fun s i h0 h1 _ => ⟨trivial, fun hr => Ev_succ (by
    simp only [spec_l26Mixed.l0]
    rw [w64 (by omega) (by omega)]
    refine Ev_pos h1 (Ev_pos h0 (Ev_pos (by omega) ?_))
    unfold mixS at hr
    refine Ev_ite (fun hc => ?_) (fun hc => ?_)
    · rw [if_pos hc] at hr
      obtain ⟨l, o⟩ := s
      cases l <;> cases o <;> simpa using hr
    · rw [if_neg hc] at hr
      exact hr)⟩) xs.length (false, false) 0 (by omega) (by omega) trivial (fun _ => Ev_succ (by
    simp only [spec_l26Mixed.l0]
    refine Ev_neg (by omega) ?_
    unfold mixM
    cases (foldU (mixS xs cs) xs.length (false, false) 0).1 <;> simp <;> exact Ev.now _))
theorem impl_mix_ev {xs : List S65} {cs : List Int} (hl : (xs.length : Int) ≤ 12) (hk : (cs.length : Int) = (xs.length : Int)) (a : Int) : Ev (fun k => impl_isMixed.f k xs a cs) (mixM xs cs) := by
  unfold impl_isMixed.f
  refine Ev_forK (F := fun k (s : Bool × Bool) i => impl_isMixed.l0 k s.1 s.2 xs (xs.length : Int) i a cs) (upd := mixS xs cs) (n := xs.length) (fun _ _ => True) (fun s i h0 h1 _ => ⟨trivial, fun hr => Ev_succ (by
    simp only [impl_isMixed.l0]
    rw [w64 (by omega) (by omega)]
    refine Ev_pos h1 (Ev_pos h0 (Ev_pos h1 (Ev_pos (by omega) ?_)))
    unfold mixS at hr
    refine Ev_ite (fun hc => ?_) (fun hc => ?_)
    · rw [if_pos hc] at hr
      obtain ⟨l, o⟩ := s
      cases l <;> cases o <;> simpa using hr
    · rw [if_neg hc] at hr
      exact hr)⟩) xs.length (false, false) 0 (by omega) (by omega) trivial (fun _ => Ev_succ (by
    simp only [impl_isMixed.l0]
    refine Ev_neg (by omega) ?_
    unfold mixM
    cases (foldU (mixS xs cs) xs.length (false, false) 0).1 <;> simp <;> exact Ev.now _))

def lawfulM (xs : List S65) (lim : Int) (cs : List Int) : Bool := decide (netM xs cs ≤ lim) && !mixM xs cs
theorem spec_lawful_ev {xs : List S65} {lim : Int} {cs : List Int} (h : MagOk xs lim cs) (lim' : Int) : Ev (fun k => spec_l26Lawful.f k xs lim' cs) (lawfulM xs lim' cs) := by
  unfold spec_l26Lawful.f lawfulM
  refine Ev.bind (spec_net_ev h _) (Ev_ite (fun h1 => Ev.bind (spec_mix_ev h.1.1 h.2.2.1 _) (Ev_some ?_)) (fun h1 => Ev_some ?_))
  · rw [decide_eq_true h1, Bool.true_and]
  · rw [decide_eq_false h1, Bool.false_and]
theorem impl_lawful_ev {xs : List S65} {lim : Int} {cs : List Int} (h : MagOk xs lim cs) (lim' : Int) : Ev (fun k => impl_isLawful.f k xs lim' cs) (lawfulM xs lim' cs) := by
  unfold impl_isLawful.f lawfulM
  refine Ev.bind (impl_net_ev h _) (Ev_ite (fun h1 => Ev.bind (impl_mix_ev h.1.1 h.2.2.1 _) (Ev_some ?_)) (fun h1 => Ev_some ?_))
  · rw [decide_eq_true h1, Bool.true_and]
  · rw [decide_eq_false h1, Bool.false_and]

noncomputable def storeB (xs : List S65) (lim : Int) (cs : List Int) (f p : Int) : Bool := magB xs lim (withM cs f p) && lawfulM xs lim (withM cs f p)
theorem isStored_ev {xs : List S65} {lim : Int} {cs : List Int} (h : MagOk xs lim cs) {f p : Int} (h0 : 0 ≤ f) (h1 : f < xs.length) (h2 : 0 ≤ p ∧ p ≤ 1000) : Ev (fun k => impl_isStored.f k xs lim cs f p) (storeB xs lim cs f p) := by
  have hl := h.1.1
  have hk := h.2.2
  have hk1 := hk.1
  unfold impl_isStored.f storeB
  rw [impl_with_eq (by omega) h0 (by omega) (hk.2 f h0 (by omega)) (by omega)]
  simp only [Option.bind_some]
  refine Ev.bind (impl_IsMagazine_ev xs lim _ (by rw [withM_length]; omega)) (Ev_ite (fun hm => ?_) (fun hm => ?_))
  · rw [hm, Bool.true_and]
    exact Ev.bind (impl_lawful_ev (magB_iff.1 hm) lim) (Ev.now _)
  · have : magB xs lim (withM cs f p) = false := by simpa using hm
    rw [this, Bool.false_and]
    exact Ev.now _
theorem spec_store_ev {xs : List S65} (hn : xs.length ≤ 1000000) (hs : ∀ x ∈ xs, x.f0.size ≤ maxLen) {lim : Int} {cs : List Int} (h : MagOk xs lim cs) (c : ByteArray) {f p : Int} (hf : Ev (fun k => spec_l03Find.f k xs c) f) (h0 : 0 ≤ f) (h1 : f < xs.length) (h2 : 0 ≤ p ∧ p ≤ 1000) : Ev (fun k => spec_StorePieces.f k xs lim cs c p) (if storeB xs lim cs f p = true then (lim, withM cs f p, 0) else (0, [], 5)) := by
  have hl := h.1.1
  have hk := h.2.2
  have hcode := l26Code_ev xs hn hs lim cs (by have := hk.1; omega) c p hf
  rw [if_pos (magB_iff.2 h), if_pos h2, if_neg (by omega)] at hcode
  unfold spec_StorePieces.f storeB
  refine Ev.bind hcode (Ev_pos rfl (Ev.bind hf ?_))
  rw [spec_with_eq (by have := hk.1; omega) h0 (by have := hk.1; omega) (hk.2 f h0 (by have := hk.1; omega)) (by omega)]
  simp only [Option.bind_some]
  refine Ev.bind (spec_IsMagazine_ev xs hn hs lim _ (by rw [withM_length]; have := hk.1; omega)) (Ev_ite (fun hm => ?_) (fun hm => ?_))
  · rw [hm, Bool.true_and]
    refine Ev.bind (spec_lawful_ev (magB_iff.1 hm) lim) (Ev_ite (fun q => by rw [if_pos q]; exact Ev.now _) (fun q => by rw [if_neg q]; exact Ev.now _))
  · have : magB xs lim (withM cs f p) = false := by simpa using hm
    rw [this, Bool.false_and, if_neg (by simp)]
    exact Ev.now _

theorem store_tells (xs : List S65) (lim : Int) (cs : List Int) (c : ByteArray) (p : Int) (hn : xs.length ≤ 1000000) (hc : cs.length ≤ 1000000) (hs : ∀ x ∈ xs, x.f0.size ≤ maxLen) : ∃ r1 r2 r3, Ev (fun k => spec_StorePieces.f k xs lim cs c p) (r1, r2, r3) ∧ Ev (fun k => impl_StorePieces.f k xs lim cs c p) (r1, r2, r3) ∧ r2.length ≤ 1000000 ∧
    (r3 = 0 → ∃ f, Ev (fun k => impl_articleOf.f k xs c) f ∧ (0 ≤ f ∧ f < xs.length) ∧ MagOk xs lim cs ∧ (0 ≤ p ∧ p ≤ 1000) ∧ r1 = lim ∧ r2 = withM cs f p ∧ storeB xs lim cs f p = true) := by
  obtain ⟨f, f1, f2, hf⟩ := find_tells xs hn c
  have hcode := l26Code_ev xs hn hs lim cs hc c p f1
  have hi := impl_IsMagazine_ev xs lim cs hc
  by_cases h : MagOk xs lim cs
  · rw [if_pos (magB_iff.2 h)] at hcode
    by_cases hp : 0 ≤ p ∧ p ≤ 1000
    · rw [if_pos hp] at hcode
      by_cases hz : f < 0
      · rw [if_pos hz] at hcode
        unfold spec_StorePieces.f impl_StorePieces.f
        simp only [within_eq, Option.bind_some, decide_eq_true_eq]
        exact ⟨0, [], 4, Ev.bind hcode (Ev_neg (by decide) (Ev.now _)), Ev.bind hi (Ev_pos (magB_iff.2 h) (Ev_pos hp (Ev.bind f2 (Ev_pos hz (Ev.now _))))), by simp, fun q => absurd q (by decide)⟩
      · have s1 := spec_store_ev hn hs h c f1 (by omega) (by omega) hp
        have s2 := isStored_ev h (f := f) (p := p) (by omega) (by omega) hp
        have hk := h.2.2
        have hk1 := hk.1
        have e2 := impl_with_eq (a := lim) hc (f := f) (p := p) (by omega) (by omega) (hk.2 f (by omega) (by omega)) (by omega)
        by_cases hb : storeB xs lim cs f p = true
        · rw [if_pos hb] at s1
          refine ⟨lim, withM cs f p, 0, s1, ?_, by rw [withM_length]; exact hc, fun _ => ⟨f, f2, ⟨by omega, by omega⟩, h, hp, rfl, rfl, hb⟩⟩
          unfold impl_StorePieces.f
          simp only [within_eq, Option.bind_some, decide_eq_true_eq]
          exact Ev.bind hi (Ev_pos (magB_iff.2 h) (Ev_pos hp (Ev.bind f2 (Ev_neg hz (Ev.bind s2 (Ev_pos hb (Ev_bindc e2 (Ev.now _))))))))
        · rw [if_neg hb] at s1
          refine ⟨0, [], 5, s1, ?_, by simp, fun q => absurd q (by decide)⟩
          unfold impl_StorePieces.f
          simp only [within_eq, Option.bind_some, decide_eq_true_eq]
          exact Ev.bind hi (Ev_pos (magB_iff.2 h) (Ev_pos hp (Ev.bind f2 (Ev_neg hz (Ev.bind s2 (Ev_neg hb (Ev.now _)))))))
    · rw [if_neg hp] at hcode
      unfold spec_StorePieces.f impl_StorePieces.f
      simp only [within_eq, Option.bind_some, decide_eq_true_eq]
      exact ⟨0, [], 2, Ev.bind hcode (Ev_neg (by decide) (Ev.now _)), Ev.bind hi (Ev_pos (magB_iff.2 h) (Ev_neg hp (Ev.now _))), by simp, fun q => absurd q (by decide)⟩
  · rw [if_neg (fun q => h (magB_iff.1 q))] at hcode
    unfold spec_StorePieces.f impl_StorePieces.f
    exact ⟨0, [], 1, Ev.bind hcode (Ev_neg (by decide) (Ev.now _)), Ev.bind hi (Ev_neg (fun q => h (magB_iff.1 q)) (Ev.now _)), by simp, fun q => absurd q (by decide)⟩

theorem move_tells (xs : List S65) (l : Int) (cs : List Int) (m : Int) (ds : List Int) (c : ByteArray) (p : Int) (hn : xs.length ≤ 1000000) (hc : cs.length ≤ 1000000) (hd : ds.length ≤ 1000000) (hs : ∀ x ∈ xs, x.f0.size ≤ maxLen) : ∃ r1 r2 r3 r4 r5, Ev (fun k => spec_MovePieces.f k xs l cs m ds c p) (r1, r2, r3, r4, r5) ∧ Ev (fun k => impl_MovePieces.f k xs l cs m ds c p) (r1, r2, r3, r4, r5) ∧ r2.length ≤ 1000000 ∧ r4.length ≤ 1000000 ∧
    (r5 = 0 → ∃ f : Int, (0 ≤ f ∧ f < xs.length) ∧ MagOk xs l cs ∧ MagOk xs m ds ∧ r2 = withM cs f (-p) ∧ r4 = withM ds f p) := by
  obtain ⟨t1, t2, t3, a1, a2, a3, a4, a5⟩ := take_tells xs l cs c p hn hc hs
  obtain ⟨s1, s2, s3, b1, b2, b3, b4⟩ := store_tells xs m ds c p hn hd hs
  have h1 := spec_IsMagazine_ev xs hn hs m ds hd
  have h2 := impl_IsMagazine_ev xs m ds hd
  have h3 := impl_IsMagazine_ev xs l cs hc
  unfold spec_MovePieces.f impl_MovePieces.f
  by_cases hm2 : MagOk xs m ds
  · have e2 := magB_iff.2 hm2
    by_cases hm1 : MagOk xs l cs
    · have e1 := magB_iff.2 hm1
      by_cases z : t3 = 0
      · by_cases y : s3 = 0
        · refine ⟨t1, t2, s1, s2, 0, Ev.bind h1 (Ev_pos e2 (Ev.bind a1 (Ev_pos z (Ev.bind b1 (Ev_pos y (Ev.now _)))))), Ev.bind h3 (Ev_pos e1 (Ev.bind h2 (Ev_succ (by
            simp only [impl_MovePieces.j0, e2, Bool.not_true, Bool.false_eq_true, if_false]
            exact Ev.bind a2 (Ev_pos z (Ev.bind b2 (Ev_pos y (Ev.now _)))))))), a3, b3, fun _ => ?_⟩
          obtain ⟨f, f1, f2, f3, f4, f5, f6, f7⟩ := a4 z
          obtain ⟨g, g1, g2, g3, g4, g5, g6, g7⟩ := b4 y
          obtain rfl := Ev_unique f1 g1
          exact ⟨f, f2, hm1, hm2, f6, g6⟩
        · exact ⟨0, [], 0, [], s3, Ev.bind h1 (Ev_pos e2 (Ev.bind a1 (Ev_pos z (Ev.bind b1 (Ev_neg y (Ev.now _)))))), Ev.bind h3 (Ev_pos e1 (Ev.bind h2 (Ev_succ (by
            simp only [impl_MovePieces.j0, e2, Bool.not_true, Bool.false_eq_true, if_false]
            exact Ev.bind a2 (Ev_pos z (Ev.bind b2 (Ev_neg y (Ev.now _)))))))), by simp, by simp, fun q => absurd q y⟩
      · exact ⟨0, [], 0, [], t3, Ev.bind h1 (Ev_pos e2 (Ev.bind a1 (Ev_neg z (Ev.now _)))), Ev.bind h3 (Ev_pos e1 (Ev.bind h2 (Ev_succ (by
          simp only [impl_MovePieces.j0, e2, Bool.not_true, Bool.false_eq_true, if_false]
          exact Ev.bind a2 (Ev_neg z (Ev.now _)))))), by simp, by simp, fun q => absurd q z⟩
    · obtain rfl := a5 hm1
      exact ⟨0, [], 0, [], 1, Ev.bind h1 (Ev_pos e2 (Ev.bind a1 (Ev_neg (by show ¬ (1 : Int) = 0; decide) (Ev.now _)))), Ev.bind h3 (Ev_neg (fun q => hm1 (magB_iff.1 q)) (Ev_succ (by
        simp only [impl_MovePieces.j0, if_true]
        exact Ev.now _))), by simp, by simp, fun q => absurd q (by decide)⟩
  · have e2 := magB_no hm2
    exact ⟨0, [], 0, [], 1, Ev.bind h1 (Ev_neg (fun q => hm2 (magB_iff.1 q)) (Ev.now _)), Ev.bind h3 (Ev_ite (fun _ => Ev.bind h2 (Ev_succ (by
      simp only [impl_MovePieces.j0, e2, Bool.not_false, if_true]
      exact Ev.now _))) (fun _ => Ev_succ (by
      simp only [impl_MovePieces.j0, if_true]
      exact Ev.now _))), by simp, by simp, fun q => absurd q (by decide)⟩

theorem impl_store_ev {xs : List S65} {lim : Int} {cs : List Int} (h : MagOk xs lim cs) {c : ByteArray} {f p : Int} (f2 : Ev (fun k => impl_articleOf.f k xs c) f) (h0 : 0 ≤ f) (h1 : f < xs.length) (hp : 0 ≤ p ∧ p ≤ 1000) : Ev (fun k => impl_StorePieces.f k xs lim cs c p) (if storeB xs lim cs f p = true then (lim, withM cs f p, 0) else (0, [], 5)) := by
  have hl := h.1.1
  have hk := h.2.2
  have hk1 := hk.1
  have s2 := isStored_ev h (f := f) (p := p) h0 h1 hp
  have e2 := impl_with_eq (a := lim) (cs := cs) (by omega) (f := f) (p := p) h0 (by omega) (hk.2 f h0 (by omega)) (by omega)
  unfold impl_StorePieces.f
  simp only [within_eq, Option.bind_some, decide_eq_true_eq]
  refine Ev.bind (impl_IsMagazine_ev xs lim cs (by omega)) (Ev_pos (magB_iff.2 h) (Ev_pos hp (Ev.bind f2 (Ev_neg (by omega) (Ev.bind s2 (Ev_ite (fun hb => ?_) (fun hb => ?_)))))))
  · rw [if_pos hb]
    exact Ev_bindc e2 (Ev.now _)
  · rw [if_neg hb]
    exact Ev.now _
theorem room_loop2 {xs : List S65} (hn : xs.length ≤ 1000000) (hs : ∀ x ∈ xs, x.f0.size ≤ maxLen) {lim : Int} {cs : List Int} (h : MagOk xs lim cs) (c : ByteArray) {f : Int} (hf : Ev (fun k => spec_l03Find.f k xs c) f) (h0 : 0 ≤ f) (h1 : f < xs.length) : ∀ n : Nat, n ≤ 1001 → ∃ r1 r2, Ev (fun k => spec_RoomFor.l0 k xs c ((n : Int) - 1) lim cs) (r1, r2) ∧ Ev (fun k => impl_RoomFor.l0 k xs f ((n : Int) - 1) lim cs) (r1, r2) ∧
    (r2 = 0 → (0 ≤ r1 ∧ r1 < n) ∧ storeB xs lim cs f r1 = true ∧ (r1 + 1 < n → storeB xs lim cs f (r1 + 1) = false)) := by
  intro n
  induction n with
  | zero =>
    intro _
    exact ⟨0, 5, Ev_succ (by simp only [spec_RoomFor.l0]; exact Ev_neg (by omega) (Ev.now _)), Ev_succ (by simp only [impl_RoomFor.l0]; exact Ev_neg (by omega) (Ev.now _)), fun q => absurd q (by decide)⟩
  | succ n ih =>
    intro hle
    obtain ⟨r1, r2, e1, e2, e3⟩ := ih (by omega)
    have en : ((n + 1 : Nat) : Int) - 1 = (n : Int) := by omega
    rw [en]
    have s1 := spec_store_ev hn hs h c (p := (n : Int)) hf h0 h1 (by omega)
    have s2 := isStored_ev h (p := (n : Int)) h0 h1 (by omega)
    by_cases hb : storeB xs lim cs f (n : Int) = true
    · rw [if_pos hb] at s1
      exact ⟨(n : Int), 0, Ev_succ (by
        simp only [spec_RoomFor.l0]
        exact Ev_pos (by omega) (Ev.bind s1 (Ev_pos rfl (Ev.now _)))), Ev_succ (by
        simp only [impl_RoomFor.l0]
        exact Ev_pos (by omega) (Ev.bind s2 (Ev_pos hb (Ev.now _)))), fun _ => ⟨⟨by omega, by omega⟩, hb, fun q => by omega⟩⟩
    · rw [if_neg hb] at s1
      refine ⟨r1, r2, Ev_succ (by
        simp only [spec_RoomFor.l0]
        refine Ev_pos (by omega) (Ev.bind s1 (Ev_neg (by decide) ?_))
        rw [w64 (by omega) (by omega)]
        exact e1), Ev_succ (by
        simp only [impl_RoomFor.l0]
        refine Ev_pos (by omega) (Ev.bind s2 (Ev_neg hb ?_))
        rw [w64 (by omega) (by omega)]
        exact e2), fun q => ?_⟩
      obtain ⟨g1, g2, g3⟩ := e3 q
      refine ⟨⟨g1.1, by omega⟩, g2, fun q2 => ?_⟩
      by_cases hlt : r1 + 1 < n
      · exact g3 hlt
      · have : r1 + 1 = (n : Int) := by omega
        rw [this]
        simpa using hb
theorem room_tells (xs : List S65) (lim : Int) (cs : List Int) (c : ByteArray) (hn : xs.length ≤ 1000000) (hc : cs.length ≤ 1000000) (hs : ∀ x ∈ xs, x.f0.size ≤ maxLen) : ∃ r1 r2, Ev (fun k => spec_RoomFor.f k xs lim cs c) (r1, r2) ∧ Ev (fun k => impl_RoomFor.f k xs lim cs c) (r1, r2) ∧
    (r2 = 0 → ∃ f, Ev (fun k => impl_articleOf.f k xs c) f ∧ (0 ≤ f ∧ f < xs.length) ∧ MagOk xs lim cs ∧ (0 ≤ r1 ∧ r1 ≤ 1000) ∧ storeB xs lim cs f r1 = true ∧ (r1 < 1000 → storeB xs lim cs f (r1 + 1) = false)) := by
  obtain ⟨f, f1, f2, hf⟩ := find_tells xs hn c
  have hcode := l26Code_ev xs hn hs lim cs hc c 0 f1
  have hi := impl_IsMagazine_ev xs lim cs hc
  unfold spec_RoomFor.f impl_RoomFor.f
  by_cases h : MagOk xs lim cs
  · rw [if_pos (magB_iff.2 h), if_pos (by decide)] at hcode
    by_cases hz : f < 0
    · rw [if_pos hz] at hcode
      exact ⟨0, 4, Ev.bind hcode (Ev_neg (by decide) (Ev.now _)), Ev.bind hi (Ev_pos (magB_iff.2 h) (Ev.bind f2 (Ev_pos hz (Ev.now _)))), fun q => absurd q (by decide)⟩
    · rw [if_neg hz] at hcode
      obtain ⟨r1, r2, e1, e2, e3⟩ := room_loop2 hn hs h c f1 (by omega) (by omega) 1001 (by omega)
      refine ⟨r1, r2, Ev.bind hcode (Ev_pos rfl e1), Ev.bind hi (Ev_pos (magB_iff.2 h) (Ev.bind f2 (Ev_neg hz e2))), fun q => ?_⟩
      obtain ⟨g1, g2, g3⟩ := e3 q
      exact ⟨f, f2, ⟨by omega, by omega⟩, h, ⟨g1.1, by omega⟩, g2, fun q2 => g3 (by omega)⟩
  · rw [if_neg (fun q => h (magB_iff.1 q))] at hcode
    exact ⟨0, 1, Ev.bind hcode (Ev_neg (by decide) (Ev.now _)), Ev.bind hi (Ev_neg (fun q => h (magB_iff.1 q)) (Ev.now _)), fun q => absurd q (by decide)⟩

theorem foldU_less {f g : Int → Int} {n : Int} (h : ∀ i : Int, 0 ≤ i → i < n → f i ≤ g i) : ∀ (d : Nat) (s t i : Int), 0 ≤ i → i + d = n → s ≤ t → foldU (fun s i => s + f i) d s i ≤ foldU (fun s i => s + g i) d t i := by
  intro d
  induction d with
  | zero => intro s t i _ _ hst; exact hst
  | succ d ih =>
    intro s t i h0 h1 hst
    have := h i h0 (by omega)
    exact ih (s + f i) (t + g i) (i + 1) (by omega) (by omega) (by omega)
theorem net_less {xs : List S65} {lim : Int} {cs : List Int} (h : MagOk xs lim cs) {f p : Int} (h0 : 0 ≤ f) (h1 : f < xs.length) (hp : 0 ≤ p) : netM xs (withM cs f (-p)) ≤ netM xs cs := by
  have hk1 := h.2.2.1
  unfold netM
  refine foldU_less (n := xs.length) (fun i h2 h3 => ?_) xs.length 0 0 0 (by omega) (by omega) (by omega)
  obtain ⟨_, _, _, _, _, _, _, ⟨h71, h72⟩, _⟩ := (h.1.2 i h2 h3).1
  refine Int.mul_le_mul_of_nonneg_left ?_ (by omega)
  rw [withM_at h0 (by omega) h2]
  by_cases hi : i = f
  · rw [if_pos hi, hi]; omega
  · rw [if_neg hi]; omega
theorem impl_netIn_ok {xs : List S65} {lim : Int} {cs : List Int} (h : MagOk xs lim cs) : Ev (fun k => impl_NetIn.f k xs lim cs) (netM xs cs, 0) := by
  have hl := h.1.1
  have hk1 := h.2.2.1
  unfold impl_NetIn.f
  exact Ev.bind (impl_IsMagazine_ev xs lim cs (by omega)) (Ev_pos (magB_iff.2 h) (Ev.bind (impl_net_ev h _) (Ev.now _)))

/-- The source of the draws: the code's bytes, the place in it, the seed. -/
def Rd (c : List Int) (i seed : Int) : Prop := (∀ b ∈ c, 0 ≤ b ∧ b ≤ 255) ∧ c.length ≤ 4096 ∧ 0 ≤ i ∧ i ≤ c.length ∧ 0 ≤ seed ∧ seed < 2147483647
theorem rd_byte {c : List Int} (hc : ∀ b ∈ c, 0 ≤ b ∧ b ≤ 255) (i : Int) : 0 ≤ rd c i ∧ rd c i ≤ 255 := by
  unfold rd
  by_cases h : i.toNat < c.length
  · rw [List.getD_eq_getElem?_getD, List.getElem?_eq_getElem h]
    exact hc _ (List.getElem_mem h)
  · rw [List.getD_eq_getElem?_getD, List.getElem?_eq_none (by omega)]
    simp
theorem next_tells {c : List Int} {i seed : Int} (hr : Rd c i seed) (n : Int) (hn : n ≤ 4000000000000000000) : ∃ x i' s', spec_l01Next.f c i seed n = some (x, i', s') ∧ Rd c i' s' ∧ 0 ≤ x ∧ (1 ≤ n → x < n) := by
  obtain ⟨hc, hl, h0, h1, h2, h3⟩ := hr
  have e1 : wrap64 (wrap64 (seed * 48271) + 29) = seed * 48271 + 29 := by rw [w64 (x := seed * 48271) (by omega) (by omega), w64 (by omega) (by omega)]
  have e2 : Int.tmod (seed * 48271 + 29) 2147483647 = (seed * 48271 + 29) % 2147483647 := Int.tmod_eq_emod_of_nonneg (by omega)
  obtain ⟨s1, hs1⟩ : ∃ s1, s1 = (seed * 48271 + 29) % 2147483647 := ⟨_, rfl⟩
  have b0 : 0 ≤ s1 ∧ s1 < 2147483647 := by omega
  have e3 : wrap64 (Int.tdiv s1 31) = s1 / 31 := by
    rw [Int.tdiv_eq_ediv_of_nonneg b0.1]; exact w64 (by omega) (by omega)
  unfold spec_l01Next.f
  rw [e1, e2, ← hs1, e3]
  by_cases hn1 : n ≤ 1
  · rw [if_pos hn1]
    exact ⟨0, i, seed, rfl, ⟨hc, hl, h0, h1, h2, h3⟩, by omega, by omega⟩
  · rw [if_neg hn1]
    have hm : ∀ x : Int, 0 ≤ x → 0 ≤ Int.tmod x n ∧ Int.tmod x n < n := fun x hx => by
      rw [Int.tmod_eq_emod_of_nonneg hx]
      exact ⟨Int.emod_nonneg x (by omega), Int.emod_lt_of_pos x (by omega)⟩
    by_cases hi : i < (c.length : Int)
    · have hb := rd_byte hc i
      have w1 : wrap64 (i + 1) = i + 1 := w64 (by omega) (by omega)
      have w2 : wrap64 (i + 1 - 1) = i := by rw [w64 (by omega) (by omega)]; omega
      have w3 : wrap64 (rd c i) = rd c i := w64 (by omega) (by omega)
      have w4 : wrap64 (s1 / 31 + rd c i) = s1 / 31 + rd c i := w64 (by omega) (by omega)
      rw [if_pos hi, if_pos h0, w1, w2, w3, w4]
      have r1 := hm (rd c i) hb.1
      have r2 := hm (s1 / 31 + rd c i) (by omega)
      have hR : Rd c (i + 1) s1 := ⟨hc, hl, by omega, by omega, b0.1, b0.2⟩
      by_cases h256 : n ≤ 256
      · rw [if_pos h256]
        by_cases ht : Int.tmod (i + 1) 2 = 0
        · rw [if_pos ht, if_pos h0, if_pos hi, if_neg (by omega)]
          exact ⟨_, _, _, rfl, hR, r1.1, fun _ => r1.2⟩
        · rw [if_neg ht, if_neg (by omega)]
          exact ⟨_, _, _, rfl, hR, r2.1, fun _ => r2.2⟩
      · rw [if_neg h256, if_neg (by omega)]
        exact ⟨_, _, _, rfl, hR, r2.1, fun _ => r2.2⟩
    · have r3 := hm (s1 / 31) (by omega)
      rw [if_neg hi, if_neg (by omega)]
      exact ⟨_, _, _, rfl, ⟨hc, hl, h0, h1, b0.1, b0.2⟩, r3.1, fun _ => r3.2⟩
theorem from_tells (c : List Int) (hc : ∀ b ∈ c, 0 ≤ b ∧ b ≤ 255) (hl : c.length ≤ 4096) : ∃ seed, Ev (fun k => spec_l01From.f k c) (c, 0, seed) ∧ Rd c 0 seed := by
  have h := Ev_for (F := fun k s i => spec_l01From.l0 k c i c 0 s) (step := fun s i => if i < 64 then .inr ((s * 83 + rd c i) % 2147483647) else .inl (c, 0, s)) (out := fun s => (c, 0, s)) (n := c.length) (fun s i => 0 ≤ s ∧ s < 2147483647)
    (fun s hI => ⟨1, fun k hk => by
      obtain ⟨k, rfl⟩ : ∃ m, k = m + 1 := ⟨k - 1, by omega⟩
      simp only [spec_l01From.l0]
      rw [if_neg (by omega)]⟩)
    (fun s i h0 h1 hI => by
      have hb := rd_byte hc i
      by_cases h64 : i < 64
      · refine .inr ⟨_, if_pos h64, by omega, 0, fun k _ => ?_⟩
        simp only [spec_l01From.l0]
        rw [if_pos h1, if_pos h64, if_pos h0, w64 (x := i + 1) (by omega) (by omega), w64 (x := s * 83) (by omega) (by omega), w64 (x := rd c i) (by omega) (by omega), w64 (by omega) (by omega), Int.tmod_eq_emod_of_nonneg (by omega)]
      · refine .inl ⟨_, if_neg h64, 1, fun k hk => ?_⟩
        obtain ⟨k, rfl⟩ : ∃ m, k = m + 1 := ⟨k - 1, by omega⟩
        simp only [spec_l01From.l0]
        rw [if_pos h1, if_neg h64]) c.length 61043 0 (by omega) (by omega) (by omega)
  have h2 := forM_ind (step := fun s i => if i < 64 then .inr ((s * 83 + rd c i) % 2147483647) else .inl (c, 0, s)) (out := fun s => (c, (0 : Int), s)) (n := c.length) (fun s _ => 0 ≤ s ∧ s < 2147483647) (fun r => ∃ s, r = (c, (0 : Int), s) ∧ 0 ≤ s ∧ s < 2147483647) (fun s hI => ⟨s, rfl, hI⟩)
    (fun s i h0 h1 hI => ⟨fun r hr => by
        split at hr
        · cases hr
        · injection hr with hr
          exact ⟨s, hr.symm, hI⟩, fun s' hr => by
        split at hr
        · injection hr with hr
          omega
        · cases hr⟩) c.length 61043 0 (by omega) (by omega) (by omega)
  obtain ⟨s, hs, hb⟩ := h2
  refine ⟨s, ?_, hc, hl, by omega, by omega, hb.1, hb.2⟩
  rw [hs] at h
  exact h
/-- What a statement over a code knows of its bytes. -/
theorem bytes_of {c : List Int} (h : ∀ x ∈ c, (Lit.int .u8 x).wf = true) : ∀ b ∈ c, 0 ≤ b ∧ b ≤ 255 := fun b hb => by
  have h := h b hb
  simp [Lit.wf, IntKind.min, IntKind.max, IntKind.bits, IntKind.signed] at h
  omega
theorem big_eq (c : List Int) : laws_big.f c = some (decide (c.length > 4096)) := by
  unfold laws_big.f
  congr 1
  rw [decide_eq_decide]
  omega

theorem pick_tells {c : List Int} {i seed : Int} (hr : Rd c i seed) (l : List Int) (h0 : 0 < l.length) (hl : l.length ≤ 1000) : ∃ x i' s', spec_l01Pick.f c i seed l = some (x, i', s') ∧ Rd c i' s' ∧ x ∈ l := by
  obtain ⟨x, i', s', h1, h2, h3, h4⟩ := next_tells hr (l.length : Int) (by omega)
  have h4 := h4 (by omega)
  unfold spec_l01Pick.f
  rw [h1]
  simp only [Option.bind_some]
  rw [if_pos h3, if_pos h4]
  refine ⟨_, _, _, rfl, h2, ?_⟩
  unfold rd
  rw [List.getD_eq_getElem?_getD, List.getElem?_eq_getElem (show x.toNat < l.length by omega)]
  exact List.getElem_mem _

theorem rdOf_small {l : List ByteArray} (h : ∀ w ∈ l, w.size ≤ 100) (i : Int) : (rdOf ByteArray.empty l i).size ≤ 100 := by
  unfold rdOf
  rw [List.getD_eq_getElem?_getD]
  by_cases hi : i.toNat < l.length
  · rw [List.getElem?_eq_getElem hi]
    exact h _ (List.getElem_mem _)
  · rw [List.getElem?_eq_none (by omega)]
    decide
theorem wordsGood_tells {c : List Int} {i seed : Int} (hr : Rd c i seed) : ∃ w i' s', spec_l01Good.f c i seed = some (w, i', s') ∧ Rd c i' s' ∧ w.size ≤ 100 := by
  obtain ⟨x, i1, s1, e1, r1, h1, h2⟩ := next_tells hr 12 (by omega)
  have h2 := h2 (by omega)
  unfold spec_l01Good.f
  simp only [Option.bind_some, e1]
  refine ⟨_, i1, s1, (if_pos h1).trans (if_pos (by simpa using h2)), r1, rdOf_small ?_ x⟩
  decide
theorem drawWord_tells {c : List Int} {i seed : Int} (hr : Rd c i seed) : ∃ w i' s', spec_l01DrawWord.f c i seed = some (w, i', s') ∧ Rd c i' s' ∧ w.size ≤ 100 := by
  obtain ⟨x, i1, s1, e1, r1, h1, h2⟩ := next_tells hr 24 (by omega)
  by_cases h0 : x = 0
  · obtain ⟨y, i2, s2, e2, r2, g1, g2⟩ := next_tells r1 6 (by omega)
    have g2 := g2 (by omega)
    unfold spec_l01DrawWord.f
    simp only [Option.bind_some, e1, e2]
    refine ⟨_, i2, s2, (if_pos h0).trans ((if_pos g1).trans (if_pos (by simpa using g2))), r2, rdOf_small ?_ y⟩
    decide
  · obtain ⟨w, i2, s2, e2, r2, hw⟩ := wordsGood_tells r1
    unfold spec_l01DrawWord.f
    simp only [Option.bind_some, e1, e2]
    exact ⟨w, i2, s2, if_neg h0, r2, hw⟩

theorem good03_tells {c : List Int} {i seed : Int} (hr : Rd c i seed) (a : ByteArray) : ∃ x1 x2 x3 x4 x5 x6 x7 x8 i' s', spec_l03Good.f c i seed a = some (a, x1, x2, x3, x4, x5, x6, x7, x8, i', s') ∧ Rd c i' s' := by
  obtain ⟨y1, i1, s1, e1, r1, _⟩ := next_tells hr 4 (by omega)
  obtain ⟨y2, i2, s2, e2, r2, _⟩ := next_tells r1 281 (by omega)
  obtain ⟨y3, i3, s3, e3, r3, _⟩ := pick_tells r2 [50, 75, 100, 150, wrap64 (20 + y2)] (by simp) (by simp)
  obtain ⟨y4, i4, s4, e4, r4, _⟩ := next_tells r3 5000 (by omega)
  obtain ⟨y5, i5, s5, e5, r5, _⟩ := next_tells r4 300 (by omega)
  obtain ⟨y6, i6, s6, e6, r6, _⟩ := next_tells r5 2000 (by omega)
  obtain ⟨y7, i7, s7, e7, r7, _⟩ := next_tells r6 4 (by omega)
  obtain ⟨y8, i8, s8, e8, r8, _⟩ := next_tells r7 8 (by omega)
  obtain ⟨y9, i9, s9, e9, r9, _⟩ := next_tells r8 2000 (by omega)
  unfold spec_l03Good.f
  simp only [Option.bind_some, e1, e2, e3, e4, e5, e6, e7, e8, e9]
  by_cases h1 : y1 = 1 <;> by_cases h2 : y1 = 2
  · omega
  · exact ⟨_, _, _, _, _, _, _, _, _, _, (if_pos h1).trans (if_neg h2), r9⟩
  · exact ⟨_, _, _, _, _, _, _, _, _, _, (if_neg h1).trans (if_pos h2), r7⟩
  · exact ⟨_, _, _, _, _, _, _, _, _, _, (if_neg h1).trans (if_neg h2), r7⟩
theorem draw03_tells {c : List Int} {i seed : Int} (hr : Rd c i seed) (a : ByteArray) (ha : a.size ≤ 100) : ∃ x0 x1 x2 x3 x4 x5 x6 x7 x8 i' s', spec_l03Draw.f c i seed a = some (x0, x1, x2, x3, x4, x5, x6, x7, x8, i', s') ∧ Rd c i' s' ∧ x0.size ≤ 100 := by
  obtain ⟨x1, x2, x3, x4, x5, x6, x7, x8, i1, s1, e1, r1⟩ := good03_tells hr a
  obtain ⟨y, i2, s2, e2, r2, _⟩ := next_tells r1 60 (by omega)
  unfold spec_l03Draw.f
  simp only [Option.bind_some, e1, e2]
  by_cases h0 : y = 0
  · obtain ⟨z, i3, s3, e3, r3, _⟩ := pick_tells r2 [19, 20, 300, 301] (by simp) (by simp)
    simp only [e3, Option.bind_some, if_pos h0]
    exact ⟨_, _, _, _, _, _, _, _, _, _, _, rfl, r3, ha⟩
  · rw [if_neg h0]
    by_cases h1 : y = 1
    · obtain ⟨z, i3, s3, e3, r3, _⟩ := pick_tells r2 [x3, wrap64 (x3 + 1), (-1)] (by simp) (by simp)
      simp only [e3, Option.bind_some, if_pos h1]
      exact ⟨_, _, _, _, _, _, _, _, _, _, _, rfl, r3, ha⟩
    · rw [if_neg h1]
      by_cases h2 : y = 2
      · obtain ⟨z, i3, s3, e3, r3, _⟩ := pick_tells r2 [0, 50, 51] (by simp) (by simp)
        simp only [e3, Option.bind_some, if_pos h2]
        exact ⟨_, _, _, _, _, _, _, _, _, _, _, rfl, r3, ha⟩
      · rw [if_neg h2]
        by_cases h3 : y = 3
        · obtain ⟨w, i3, s3, e3, r3, hw⟩ := drawWord_tells r2
          simp only [e3, Option.bind_some, if_pos h3]
          exact ⟨_, _, _, _, _, _, _, _, _, _, _, rfl, r3, hw⟩
        · rw [if_neg h3]
          by_cases h4 : y = 4
          · obtain ⟨z, i3, s3, e3, r3, _⟩ := pick_tells r2 [0, 100000, 100001] (by simp) (by simp)
            simp only [e3, Option.bind_some, if_pos h4]
            exact ⟨_, _, _, _, _, _, _, _, _, _, _, rfl, r3, ha⟩
          · rw [if_neg h4]
            exact ⟨_, _, _, _, _, _, _, _, _, _, _, rfl, r2, ha⟩
/-- A list of a few articles of short names. -/
def FewArts (n : Nat) (xs : List S65) : Prop := xs.length ≤ n ∧ ∀ x ∈ xs, x.f0.size ≤ 100
theorem FewArts.add {n : Nat} {xs : List S65} (h : FewArts n xs) {x : S65} (hx : x.f0.size ≤ 100) : FewArts (n + 1) (xs ++ [x]) := by
  refine ⟨by have := h.1; simp; omega, fun y hy => ?_⟩
  rcases List.mem_append.1 hy with hy | hy
  · exact h.2 y hy
  · rw [List.mem_singleton.1 hy]; exact hx
theorem FewArts.more {n m : Nat} {xs : List S65} (h : FewArts n xs) (hm : n ≤ m) : FewArts m xs := ⟨Nat.le_trans h.1 hm, h.2⟩
theorem list03_l1 (c : List Int) (d : Nat) : ∀ (xs : List S65) (n x6 i seed : Int), FewArts (40 - d) xs → d ≤ 20 → 0 ≤ x6 → x6 ≤ 14 → 14 - x6 ≤ d → Rd c i seed → n = 0 → ∃ ys i' s', Ev (fun k => spec_l03List.l1 k xs x6 c i seed) (ys, i', s') ∧ Rd c i' s' ∧ FewArts 40 ys := by
  induction d with
  | zero =>
    intro xs n x6 i seed hx _ h0 h1 hd hr _
    obtain ⟨y, i1, s1, e1, r1, _⟩ := next_tells hr 2 (by omega)
    refine ⟨xs, i1, s1, Ev_succ (by
      simp only [spec_l03List.l1, e1, Option.bind_some]
      exact Ev_ite (fun _ => Ev_neg (by omega) (Ev.now _)) (fun _ => Ev.now _)), r1, hx⟩
  | succ d ih =>
    intro xs n x6 i seed hx hd2 h0 h1 hd hr _
    obtain ⟨y, i1, s1, e1, r1, _⟩ := next_tells hr 2 (by omega)
    have hxl := hx.1
    by_cases hlt : (xs.length : Int) < wrap64 (12 + y)
    · by_cases h14 : x6 < 14
      · have hw : wrap64 (x6 + 1) = x6 + 1 := w64 (by omega) (by omega)
        have hsz : ((⟨#[97, 98, 99, 100, 101, 102, 103, 104, 105, 106, 107, 108, 109, 110]⟩ : ByteArray).extract x6.toNat (x6 + 1).toNat).size ≤ 14 := by
          rw [ByteArray.size_extract]
          have : (⟨#[97, 98, 99, 100, 101, 102, 103, 104, 105, 106, 107, 108, 109, 110]⟩ : ByteArray).size = 14 := rfl
          omega
        obtain ⟨x1, x2, x3, x4, x5, x7, x8, x9, i2, s2, e2, r2⟩ := good03_tells r1 ((⟨#[120]⟩ : ByteArray) ++ ((⟨#[97, 98, 99, 100, 101, 102, 103, 104, 105, 106, 107, 108, 109, 110]⟩ : ByteArray).extract x6.toNat (x6 + 1).toNat))
        obtain ⟨ys, i3, s3, h3, r3, hy⟩ := ih (xs ++ [⟨_, x1, x2, x3, x4, x5, x7, x8, x9⟩]) 0 (x6 + 1) i2 s2 ((hx.add (by
          show ((⟨#[120]⟩ : ByteArray) ++ ((⟨#[97, 98, 99, 100, 101, 102, 103, 104, 105, 106, 107, 108, 109, 110]⟩ : ByteArray).extract x6.toNat (x6 + 1).toNat)).size ≤ 100
          rw [ByteArray.size_append]
          have : (⟨#[120]⟩ : ByteArray).size = 1 := rfl
          omega)).more (by omega)) (by omega) (by omega) (by omega) (by omega) r2 rfl
        refine ⟨ys, i3, s3, Ev_succ (by
          simp only [spec_l03List.l1, e1, Option.bind_some, hw]
          refine Ev_pos hlt (Ev_pos h14 (Ev_pos h0 (Ev_pos (by omega) (Ev_pos (by omega) (Ev_pos (by omega) ?_)))))
          simp only [e2, Option.bind_some]
          exact Ev_pos (by omega) h3), r3, hy⟩
      · refine ⟨xs, i1, s1, Ev_succ (by
          simp only [spec_l03List.l1, e1, Option.bind_some]
          exact Ev_pos hlt (Ev_neg h14 (Ev.now _))), r1, hx.more (by omega)⟩
    · refine ⟨xs, i1, s1, Ev_succ (by
        simp only [spec_l03List.l1, e1, Option.bind_some]
        exact Ev_neg hlt (Ev.now _)), r1, hx.more (by omega)⟩
theorem list03_l0 (c : List Int) (ws : List ByteArray) (hw : ∀ w ∈ ws, w.size ≤ 100) (hn : ws.length ≤ 10) (d : Nat) : ∀ (xs : List S65) (x5 i seed : Int), FewArts x5.toNat xs → 0 ≤ x5 → x5 + d = ws.length → Rd c i seed → ∃ ys i' s', Ev (fun k => spec_l03List.l0 k xs ws x5 c i seed) (ys, i', s') ∧ Rd c i' s' ∧ FewArts 40 ys := by
  induction d with
  | zero =>
    intro xs x5 i seed hx h0 h1 hr
    have hxl := hx.1
    obtain ⟨y, i1, s1, e1, r1, _⟩ := next_tells hr 30 (by omega)
    by_cases hy0 : y = 0
    · obtain ⟨x1, x2, x3, x4, x6, x7, x8, x9, i2, s2, e2, r2⟩ := good03_tells r1 (⟨#[97, 115, 116, 101, 114]⟩ : ByteArray)
      refine ⟨xs ++ [⟨_, x1, x2, x3, x4, x6, x7, x8, x9⟩], i2, s2, Ev_succ (by
        simp only [spec_l03List.l0, e1, e2, Option.bind_some]
        exact Ev_neg (by omega) (Ev_pos hy0 (Ev_pos (by omega) (Ev.now _)))), r2, (hx.add (by show (⟨#[97, 115, 116, 101, 114]⟩ : ByteArray).size ≤ 100; decide)).more (by omega)⟩
    · by_cases hy1 : y = 1
      · obtain ⟨ys, i2, s2, h2, r2, hy⟩ := list03_l1 c 14 xs 0 0 i1 s1 (hx.more (by omega)) (by omega) (by omega) (by omega) (by omega) r1 rfl
        refine ⟨ys, i2, s2, Ev_succ (by
          simp only [spec_l03List.l0, e1, Option.bind_some]
          exact Ev_neg (by omega) (Ev_neg hy0 (Ev_pos hy1 h2))), r2, hy⟩
      · refine ⟨xs, i1, s1, Ev_succ (by
          simp only [spec_l03List.l0, e1, Option.bind_some]
          exact Ev_neg (by omega) (Ev_neg hy0 (Ev_neg hy1 (Ev.now _)))), r1, hx.more (by omega)⟩
  | succ d ih =>
    intro xs x5 i seed hx h0 h1 hr
    have hxl := hx.1
    have hw1 : wrap64 (x5 + 1) = x5 + 1 := w64 (by omega) (by omega)
    obtain ⟨y, i1, s1, e1, r1, _⟩ := next_tells hr 3 (by omega)
    by_cases hy : y > 0
    · obtain ⟨x0, x1, x2, x3, x4, x6, x7, x8, x9, i2, s2, e2, r2, hs⟩ := draw03_tells r1 (rdOf ByteArray.empty ws x5) (rdOf_small hw x5)
      obtain ⟨ys, i3, s3, h3, r3, hys⟩ := ih (xs ++ [⟨x0, x1, x2, x3, x4, x6, x7, x8, x9⟩]) (x5 + 1) i2 s2 ((hx.add hs).more (by omega)) (by omega) (by omega) r2
      refine ⟨ys, i3, s3, Ev_succ (by
        simp only [spec_l03List.l0, e1, e2, Option.bind_some, hw1]
        exact Ev_pos (by omega) (Ev_pos hy (Ev_pos h0 (Ev_pos (by omega) h3)))), r3, hys⟩
    · obtain ⟨ys, i3, s3, h3, r3, hys⟩ := ih xs (x5 + 1) i1 s1 (hx.more (by omega)) (by omega) (by omega) r1
      refine ⟨ys, i3, s3, Ev_succ (by
        simp only [spec_l03List.l0, e1, Option.bind_some, hw1]
        exact Ev_pos (by omega) (Ev_neg hy h3)), r3, hys⟩
theorem list03_tells {c : List Int} {i seed : Int} (hr : Rd c i seed) : ∃ ys i' s', Ev (fun k => spec_l03List.f k c i seed) (ys, i', s') ∧ Rd c i' s' ∧ FewArts 40 ys := by
  unfold spec_l03List.f spec_l03Names.f
  simp only [Option.bind_some]
  exact list03_l0 c _ (by decide) (by decide) 6 [] 0 i seed ⟨by simp, by simp⟩ (by omega) (by simp) hr
theorem for26_l0 (c : List Int) (xs : List S65) (hn : xs.length ≤ 40) (lim : Int) (d : Nat) : ∀ (cs : List Int) (x6 i seed : Int), (cs.length : Int) = x6 → 0 ≤ x6 → x6 + d = xs.length → Rd c i seed → ∃ l ys i' s', Ev (fun k => spec_l26For.l0 k xs x6 c i seed lim cs) (l, ys, i', s') ∧ Rd c i' s' ∧ ys.length ≤ 41 := by
  induction d with
  | zero =>
    intro cs x6 i seed hc h0 h1 hr
    obtain ⟨y, i1, s1, e1, r1, _⟩ := next_tells hr 30 (by omega)
    by_cases hy0 : y = 0
    · obtain ⟨z, i2, s2, e2, r2, _⟩ := pick_tells r1 [(-1), 0, 1000000000, 1000000001] (by simp) (by simp)
      exact ⟨z, cs, i2, s2, Ev_succ (by
        simp only [spec_l26For.l0, e1, e2, Option.bind_some]
        exact Ev_neg (by omega) (Ev_pos hy0 (Ev.now _))), r2, by omega⟩
    · by_cases hy1 : y = 1
      · exact ⟨lim, cs ++ [1], i1, s1, Ev_succ (by
          simp only [spec_l26For.l0, e1, Option.bind_some]
          exact Ev_neg (by omega) (Ev_neg hy0 (Ev_pos hy1 (Ev_pos (by omega) (Ev.now _))))), r1, by simp; omega⟩
      · by_cases hy2 : y = 2
        · by_cases hl : (cs.length : Int) > 0
          · obtain ⟨z, i2, s2, e2, r2, _⟩ := pick_tells r1 [1000, 1001, (-1)] (by simp) (by simp)
            exact ⟨lim, cs.set (0 : Int).toNat z, i2, s2, Ev_succ (by
              simp only [spec_l26For.l0, e1, e2, Option.bind_some]
              exact Ev_neg (by omega) (Ev_neg hy0 (Ev_neg hy1 (Ev_pos hy2 (Ev_pos hl (Ev_pos (by omega) (Ev.now _))))))), r2, by rw [List.length_set]; omega⟩
          · exact ⟨lim, cs, i1, s1, Ev_succ (by
              simp only [spec_l26For.l0, e1, Option.bind_some]
              exact Ev_neg (by omega) (Ev_neg hy0 (Ev_neg hy1 (Ev_pos hy2 (Ev_neg hl (Ev.now _)))))), r1, by omega⟩
        · exact ⟨lim, cs, i1, s1, Ev_succ (by
            simp only [spec_l26For.l0, e1, Option.bind_some]
            exact Ev_neg (by omega) (Ev_neg hy0 (Ev_neg hy1 (Ev_neg hy2 (Ev.now _))))), r1, by omega⟩
  | succ d ih =>
    intro cs x6 i seed hc h0 h1 hr
    have hw : wrap64 (x6 + 1) = x6 + 1 := w64 (by omega) (by omega)
    obtain ⟨y, i1, s1, e1, r1, _⟩ := next_tells hr 6 (by omega)
    obtain ⟨z, i2, s2, e2, r2, _⟩ := pick_tells r1 [0, 0, y] (by simp) (by simp)
    obtain ⟨l, ys, i3, s3, h3, r3, hl⟩ := ih (cs ++ [z]) (x6 + 1) i2 s2 (by simp; omega) (by omega) (by omega) r2
    exact ⟨l, ys, i3, s3, Ev_succ (by
      simp only [spec_l26For.l0, e1, e2, Option.bind_some, hw]
      exact Ev_pos (by omega) (Ev_pos (by omega) h3)), r3, hl⟩
theorem for26_tells {c : List Int} {i seed : Int} (hr : Rd c i seed) (xs : List S65) (hn : xs.length ≤ 40) : ∃ l ys i' s', Ev (fun k => spec_l26For.f k c i seed xs) (l, ys, i', s') ∧ Rd c i' s' ∧ ys.length ≤ 41 := by
  obtain ⟨y, i1, s1, e1, r1, _⟩ := next_tells hr 30000 (by omega)
  unfold spec_l26For.f
  simp only [e1, Option.bind_some]
  exact for26_l0 c xs hn _ xs.length [] 0 i1 s1 rfl (by omega) (by omega) r1
theorem draw26_tells {c : List Int} {i seed : Int} (hr : Rd c i seed) : ∃ xs l cs i' s', Ev (fun k => spec_l26Draw.f k c i seed) (xs, l, cs, i', s') ∧ Rd c i' s' ∧ FewArts 40 xs ∧ cs.length ≤ 41 := by
  obtain ⟨xs, i1, s1, h1, r1, hx⟩ := list03_tells hr
  obtain ⟨l, cs, i2, s2, h2, r2, hc⟩ := for26_tells r1 xs hx.1
  refine ⟨xs, l, cs, i2, s2, ?_, r2, hx, hc⟩
  unfold spec_l26Draw.f
  exact Ev.bind h1 (Ev.bind h2 (Ev.now _))
theorem name17_tells {c : List Int} {i seed : Int} (hr : Rd c i seed) (xs : List S65) (hn : xs.length ≤ 40) : ∃ w i' s', Ev (fun k => spec_l17Name.f k c i seed xs) (w, i', s') ∧ Rd c i' s' := by
  have hno : ∀ i seed, Rd c i seed → ∃ w i' s', Ev (fun k => spec_l17Name.j0 k xs false c i seed) (w, i', s') ∧ Rd c i' s' := fun i seed hr => by
    obtain ⟨y, i1, s1, e1, r1, g1, g2⟩ := next_tells hr 4 (by omega)
    have g2 := g2 (by omega)
    refine ⟨_, i1, s1, Ev_succ (by
      simp only [spec_l17Name.j0, Bool.false_eq_true, if_false, Option.bind_some, e1]
      exact Ev_pos g1 (Ev_pos (by simpa using g2) (Ev.now _))), r1⟩
  unfold spec_l17Name.f
  by_cases hl : (xs.length : Int) > 0
  · obtain ⟨y, i1, s1, e1, r1, _⟩ := next_tells hr 8 (by omega)
    by_cases hy : y > 0
    · obtain ⟨z, i2, s2, e2, r2, g1, g2⟩ := next_tells r1 (xs.length : Int) (by omega)
      have g2 := g2 (by omega)
      refine ⟨(rd_T65 xs z).f0, i2, s2, Ev_pos hl ?_, r2⟩
      simp only [e1, Option.bind_some, decide_eq_true hy]
      exact Ev_succ (by
        simp only [spec_l17Name.j0, if_true, e2, Option.bind_some]
        exact Ev_pos g1 (Ev_pos g2 (Ev.now _)))
    · obtain ⟨w, i2, s2, h2, r2⟩ := hno i1 s1 r1
      refine ⟨w, i2, s2, Ev_pos hl ?_, r2⟩
      simp only [e1, Option.bind_some, decide_eq_false hy]
      exact h2
  · obtain ⟨w, i2, s2, h2, r2⟩ := hno i seed hr
    exact ⟨w, i2, s2, Ev_neg hl h2, r2⟩

theorem drawStore_tells (c : List Int) (hc : ∀ b ∈ c, 0 ≤ b ∧ b ≤ 255) (hl : c.length ≤ 4096) : ∃ xs l cs w p, Ev (fun k => spec_DrawStorePieces.f k c) (xs, l, cs, w, p) ∧ FewArts 40 xs ∧ cs.length ≤ 41 := by
  obtain ⟨s0, h0, r0⟩ := from_tells c hc hl
  obtain ⟨xs, l, cs, i1, s1, h1, r1, hx, hk⟩ := draw26_tells r0
  obtain ⟨w, i2, s2, h2, r2⟩ := name17_tells r1 xs hx.1
  obtain ⟨y3, i3, s3, e3, r3, _⟩ := next_tells r2 8 (by omega)
  obtain ⟨y4, i4, s4, e4, r4, _⟩ := next_tells r3 30 (by omega)
  obtain ⟨p, i5, s5, e5, r5, _⟩ := pick_tells r4 [y3, 1, 0, 1000, 1001, y4, (-1)] (by simp) (by simp)
  refine ⟨xs, l, cs, w, p, ?_, hx, hk⟩
  unfold spec_DrawStorePieces.f
  refine Ev.bind h0 (Ev.bind h1 (Ev.bind h2 ?_))
  simp only [e3, e4, e5, Option.bind_some]
  exact Ev.now _

theorem drawMove_tells (c : List Int) (hc : ∀ b ∈ c, 0 ≤ b ∧ b ≤ 255) (hl : c.length ≤ 4096) : ∃ xs l cs m ds w p, Ev (fun k => spec_DrawMovePieces.f k c) (xs, l, cs, m, ds, w, p) ∧ FewArts 40 xs ∧ cs.length ≤ 41 ∧ ds.length ≤ 41 := by
  obtain ⟨s0, h0, r0⟩ := from_tells c hc hl
  obtain ⟨xs, l, cs, i1, s1, h1, r1, hx, hk⟩ := draw26_tells r0
  obtain ⟨m, ds, i6, s6, h6, r6, hk2⟩ := for26_tells r1 xs hx.1
  obtain ⟨w, i2, s2, h2, r2⟩ := name17_tells r6 xs hx.1
  obtain ⟨y3, i3, s3, e3, r3, _⟩ := next_tells r2 4 (by omega)
  obtain ⟨y4, i4, s4, e4, r4, _⟩ := next_tells r3 30 (by omega)
  obtain ⟨p, i5, s5, e5, r5, _⟩ := pick_tells r4 [y3, 1, 0, y4, 1001] (by simp) (by simp)
  refine ⟨xs, l, cs, m, ds, w, p, ?_, hx, hk, hk2⟩
  unfold spec_DrawMovePieces.f
  refine Ev.bind h0 (Ev.bind h1 (Ev.bind h6 (Ev.bind h2 ?_)))
  simp only [e3, e4, e5, Option.bind_some]
  exact Ev.now _
theorem drawRoom_tells (c : List Int) (hc : ∀ b ∈ c, 0 ≤ b ∧ b ≤ 255) (hl : c.length ≤ 4096) : ∃ xs l cs w, Ev (fun k => spec_DrawRoomFor.f k c) (xs, l, cs, w) ∧ FewArts 40 xs ∧ cs.length ≤ 41 := by
  obtain ⟨s0, h0, r0⟩ := from_tells c hc hl
  obtain ⟨xs, l, cs, i1, s1, h1, r1, hx, hk⟩ := draw26_tells r0
  obtain ⟨w, i2, s2, h2, r2⟩ := name17_tells r1 xs hx.1
  refine ⟨xs, l, cs, w, ?_, hx, hk⟩
  unfold spec_DrawRoomFor.f
  exact Ev.bind h0 (Ev.bind h1 (Ev.bind h2 (Ev.now _)))
theorem drawTake_tells (c : List Int) (hc : ∀ b ∈ c, 0 ≤ b ∧ b ≤ 255) (hl : c.length ≤ 4096) : ∃ xs l cs w p, Ev (fun k => spec_DrawTakePieces.f k c) (xs, l, cs, w, p) ∧ FewArts 40 xs ∧ cs.length ≤ 41 := by
  obtain ⟨xs, l, cs, w, p, h, hx, hk⟩ := drawStore_tells c hc hl
  refine ⟨xs, l, cs, w, p, ?_, hx, hk⟩
  unfold spec_DrawTakePieces.f
  exact Ev.bind h (Ev.now _)

theorem likeIntsF_refl (xs : List Int) (hn : xs.length ≤ 2000000) : Ev (fun k => laws_likeInts.f k xs xs) true := by
  have h : ∀ (d : Nat) (i : Int), 0 ≤ i → i + d = xs.length → Ev (fun k => laws_likeInts.l0 k xs xs i) true := by
    intro d
    induction d with
    | zero =>
      intro i h0 h1
      exact Ev_succ (by
        simp only [laws_likeInts.l0]
        exact Ev_neg (by omega) (Ev.now _))
    | succ d ih =>
      intro i h0 h1
      refine Ev_succ (by
        simp only [laws_likeInts.l0]
        rw [w64 (x := i + 1) (by omega) (by omega)]
        exact Ev_pos (by omega) (Ev_pos h0 (Ev_pos (by omega) (Ev_pos (by first | trivial | rfl) (ih (i + 1) (by omega) (by omega))))))
  unfold laws_likeInts.f
  exact Ev_pos rfl (h xs.length 0 (by omega) (by omega))
theorem likeMag_refl (a : Int) (xs : List Int) (hn : xs.length ≤ 2000000) : Ev (fun k => laws_likeMagazine.f k a xs a xs) true := by
  unfold laws_likeMagazine.f
  exact Ev_pos rfl (Ev.bind (likeIntsF_refl xs hn) (Ev.now _))

theorem moved_l0 {xs : List S65} {bad l m a b p : Int} {cs ds as1 bs1 : List Int} (h : bad = 0 → ∃ f : Int, (0 ≤ f ∧ f < xs.length) ∧ MagOk xs l cs ∧ MagOk xs m ds ∧ as1 = withM cs f (-p) ∧ bs1 = withM ds f p) (hn : xs.length ≤ 1000000) (d : Nat) : ∀ i : Int, 0 ≤ i → i + d = xs.length → Ev (fun k => laws_FnMoved.l0 k xs bad i l cs m ds a as1 b bs1) true := by
  by_cases hb : bad = 0
  · obtain ⟨f, ⟨h0, h1⟩, hm1, hm2, rfl, rfl⟩ := h hb
    have hk1 := hm1.2.2.1
    have hk2 := hm2.2.2.1
    induction d with
    | zero =>
      intro i g0 g1
      exact Ev_succ (by
        simp only [laws_FnMoved.l0]
        exact Ev_pos hb (Ev_succ (by
          simp only [laws_FnMoved.j4]
          exact Ev_neg (by rw [decide_eq_true_eq]; omega) (Ev.now _))))
    | succ d ih =>
      intro i g0 g1
      have e : rd (withM cs f (-p)) i + rd (withM ds f p) i = rd cs i + rd ds i := by
        rw [withM_at h0 (by omega) g0, withM_at h0 (by omega) g0]
        by_cases hi : i = f
        · rw [if_pos hi, if_pos hi, hi]; omega
        · rw [if_neg hi, if_neg hi]
      exact Ev_succ (by
        simp only [laws_FnMoved.l0]
        exact Ev_pos hb (Ev_succ (by
          simp only [laws_FnMoved.j4]
          rw [w64 (x := i + 1) (by omega) (by omega)]
          exact Ev_pos (by rw [decide_eq_true_eq]; omega) (Ev_pos g0 (Ev_pos (by rw [withM_length]; omega) (Ev_pos (by rw [withM_length]; omega) (Ev_pos (by omega) (Ev_pos (by omega) (Ev_pos (by rw [e]) (ih (i + 1) (by omega) (by omega)))))))))))
  · intro i _ _
    exact Ev_succ (by
      simp only [laws_FnMoved.l0]
      exact Ev_neg hb (Ev_succ (by
        simp only [laws_FnMoved.j4]
        exact Ev_neg (by simp) (Ev.now _))))
theorem FnMoved : laws_FnMoved.Pure := by
  intro c hn0 hn1 hw
  have hc := bytes_of hw
  refine Ev.rounds ?_
  unfold laws_FnMoved.f
  rw [big_eq]
  simp only [Option.bind_some, decide_eq_true_eq]
  refine Ev_ite (fun _ => Ev.now _) (fun hb => ?_)
  have hl : c.length ≤ 4096 := by omega
  obtain ⟨xs, l, cs, m, ds, w, p, h1, hx, hk, hk2⟩ := drawMove_tells c hc hl
  obtain ⟨ys, yl, yc, yw, h2, hy, hyk⟩ := drawRoom_tells c hc hl
  obtain ⟨zs, zl, zc, zw, zp, h3, hz, hzk⟩ := drawTake_tells c hc hl
  have hxs : ∀ x ∈ xs, x.f0.size ≤ maxLen := fun x hx' => Nat.le_trans (hx.2 x hx') (by decide)
  have hys : ∀ x ∈ ys, x.f0.size ≤ maxLen := fun x hx' => Nat.le_trans (hy.2 x hx') (by decide)
  have hzs : ∀ x ∈ zs, x.f0.size ≤ maxLen := fun x hx' => Nat.le_trans (hz.2 x hx') (by decide)
  have hx1 := hx.1
  have hy1 := hy.1
  have hz1 := hz.1
  obtain ⟨r1, r2, r3, r4, r5, s1, s2, s3, s4, s5⟩ := move_tells xs l cs m ds w p (by omega) (by omega) (by omega) hxs
  obtain ⟨q1, q2, t1, t2, t3⟩ := room_tells ys yl yc yw (by omega) (by omega) hys
  obtain ⟨v1, v2, v3, u1, u2, u3, u4, _⟩ := take_tells zs zl zc zw zp (by omega) (by omega) hzs
  refine Ev.bind h1 (Ev.bind s2 (Ev.bind s1 (Ev.bind h2 (Ev.bind t2 (Ev.bind t1 (Ev.bind h3 (Ev.bind u2 (Ev.bind u1 ?_))))))))
  refine Ev_pos rfl (Ev.bind (likeMag_refl _ _ (by show r2.length ≤ 2000000; omega)) (Ev_pos rfl (Ev.bind (likeMag_refl _ _ (by show r4.length ≤ 2000000; omega)) (Ev_pos rfl (Ev_pos rfl (Ev_pos rfl (Ev_pos rfl (Ev.bind (likeMag_refl _ _ (by show v2.length ≤ 2000000; omega)) ?_))))))))
  have hj2 : Ev (fun k => laws_FnMoved.j2 k xs r5 l cs m ds r1 r2 r3 r4) true := Ev_succ (by
    simp only [laws_FnMoved.j2]
    exact moved_l0 s5 (by omega) xs.length 0 (by omega) (by omega))
  have hj1 : Ev (fun k => laws_FnMoved.j1 k xs r5 ys yw q1 q2 l cs m ds r1 r2 r3 r4 yl yc) true := Ev_succ (by
    simp only [laws_FnMoved.j1]
    refine Ev_ite (fun hq => ?_) (fun _ => hj2)
    obtain ⟨f, f2, ⟨g0, g1⟩, hm, hr, hb1, hb2⟩ := t3 hq
    have e1 := impl_store_ev hm f2 g0 g1 hr
    rw [if_pos hb1] at e1
    refine Ev.bind e1 (Ev_pos rfl (Ev_ite (fun hlt => ?_) (fun _ => hj2)))
    have e2 := impl_store_ev hm f2 g0 g1 (p := q1 + 1) (by omega)
    rw [hb2 hlt, if_neg (by decide)] at e2
    rw [w64 (by omega) (by omega)]
    exact Ev.bind e2 (Ev_pos rfl hj2))
  exact Ev_succ (by
    simp only [laws_FnMoved.j0, Bool.not_true, Bool.false_eq_true, if_false]
    refine Ev_ite (fun hv => ?_) (fun _ => hj1)
    obtain ⟨f, f2, ⟨g0, g1⟩, hm, hp, rfl, rfl, hm2⟩ := u4 hv
    have hle := net_less hm g0 g1 hp.1
    exact Ev.bind (impl_netIn_ok hm) (Ev.bind (impl_netIn_ok hm2) (Ev_pos rfl (Ev_pos rfl (Ev_neg (by show ¬ netM zs _ > netM zs zc; omega) hj1)))))



end Go.Proofs.Ytdgglhfnlljmeaa.Pure
