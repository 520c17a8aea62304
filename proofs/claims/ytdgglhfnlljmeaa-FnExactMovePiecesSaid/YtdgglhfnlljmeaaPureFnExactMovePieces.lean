/- The statement over numbers and lists for FnExactMovePieces: the reference and the program answer alike for all arguments. -/
import Derived.Test.YtdgglhfnlljmeaaXFnExactMovePieces
set_option linter.unusedVariables false
set_option linter.unusedSimpArgs false
namespace Go.Proofs.Ytdgglhfnlljmeaa.Pure
open Go.RowKit Go.Proofs.Ytdgglhfnlljmeaa.PFnExactMovePieces Go.Proofs.YtdgglhfnlljmeaaW.PrintWords Go.Proofs.YtdgglhfnlljmeaaW.PrintLast Go.Proofs.YtdgglhfnlljmeaaW.PrintMore
open Go.Proofs.YtdgglhfnlljmeaaX

theorem w64 {x : Int} (h0 : -9223372036854775808 ≤ x) (h1 : x ≤ 9223372036854775807) : wrap64 x = x := by unfold wrap64; omega
theorem Ev_ite {α : Type} {c : Prop} [Decidable c] {g h : Nat → Option α} {r : α} (h1 : c → Ev g r) (h2 : ¬ c → Ev h r) : Ev (fun k => if c then g k else h k) r := by
  by_cases hc : c
  · obtain ⟨K, hK⟩ := h1 hc
    exact ⟨K, fun k hk => (if_pos hc).trans (hK k hk)⟩
  · obtain ⟨K, hK⟩ := h2 hc
    exact ⟨K, fun k hk => (if_neg hc).trans (hK k hk)⟩
theorem Ev_pos {α : Type} {c : Prop} [Decidable c] {g h : Nat → Option α} {r : α} (hc : c) (h1 : Ev g r) : Ev (fun k => if c then g k else h k) r := Ev_ite (fun _ => h1) (fun n => absurd hc n)
theorem Ev_neg {α : Type} {c : Prop} [Decidable c] {g h : Nat → Option α} {r : α} (hc : ¬ c) (h1 : Ev h r) : Ev (fun k => if c then g k else h k) r := Ev_ite (fun n => absurd n hc) (fun _ => h1)
theorem Ev_some {α : Type} {r q : α} (h : r = q) : Ev (fun _ => some r) q := h ▸ Ev.now r
theorem Ev_eq {α : Type} {g : Nat → Option α} {r q : α} (h : r = q) (k : Ev g r) : Ev g q := h ▸ k
theorem Ev_const {α : Type} {o : Option α} {r : α} (h : o = some r) : Ev (fun _ => o) r := by subst h; exact Ev.now r
theorem Ev_bindc {α β : Type} {o : Option α} {f : Nat → α → Option β} {a : α} {r : β} (h : o = some a) (k : Ev (fun n => f n a) r) : Ev (fun n => o.bind (f n)) r := by subst h; exact k
theorem Ev_unique {α : Type} {g : Nat → Option α} {r q : α} (h : Ev g r) (k : Ev g q) : r = q := by
  obtain ⟨K, h⟩ := h
  obtain ⟨L, k⟩ := k
  have h1 := h (max K L) (by omega)
  have h2 := k (max K L) (by omega)
  rw [h1] at h2
  exact Option.some.inj h2
theorem lit64 {x : Int} (h : (Lit.int .i64 x).wf = true) : -9223372036854775808 ≤ x ∧ x ≤ 9223372036854775807 := by
  have h := h
  simp [Lit.wf, IntKind.min, IntKind.max, IntKind.bits, IntKind.signed] at h
  omega
theorem mn_eq (a b : Int) : mn a b = min a b := by unfold mn; omega
theorem mx_eq (a b : Int) : mx a b = max a b := by unfold mx; omega

/-- A loop over the numbers 0 to n - 1: d rounds from i on. -/
def forM {S ρ : Type} (step : S → Int → ρ ⊕ S) (out : S → ρ) : Nat → S → Int → ρ
  | 0, s, _ => out s
  | d + 1, s, i => match step s i with
    | .inl r => r
    | .inr s' => forM step out d s' (i + 1)
theorem Ev_for {S ρ : Type} {F : Nat → S → Int → Option ρ} {step : S → Int → ρ ⊕ S} {out : S → ρ} {n : Nat} (Inv : S → Int → Prop)
    (hend : ∀ s, Inv s n → ∃ K, ∀ k, K ≤ k → F k s n = some (out s))
    (hstep : ∀ (s : S) (i : Int), 0 ≤ i → i < n → Inv s i → (∃ r, step s i = .inl r ∧ ∃ K, ∀ k, K ≤ k → F k s i = some r) ∨ (∃ s', step s i = .inr s' ∧ Inv s' (i + 1) ∧ ∃ K, ∀ k, K ≤ k → F (k + 1) s i = F k s' (i + 1))) :
    ∀ (d : Nat) (s : S) (i : Int), 0 ≤ i → i + d = n → Inv s i → Ev (fun k => F k s i) (forM step out d s i) := by
  intro d
  induction d with
  | zero =>
    intro s i h0 h1 hI
    obtain rfl : i = n := by omega
    exact hend s hI
  | succ d ih =>
    intro s i h0 h1 hI
    rcases hstep s i h0 (by omega) hI with ⟨r, hr, hK⟩ | ⟨s', hs, hI', K, hK⟩
    · simp only [forM, hr]
      exact hK
    · simp only [forM, hs]
      obtain ⟨K', h⟩ := ih s' (i + 1) (by omega) (by omega) hI'
      refine ⟨K + K' + 1, fun k hk => ?_⟩
      obtain ⟨k, rfl⟩ : ∃ m, k = m + 1 := ⟨k - 1, by omega⟩
      exact (hK k (by omega)).trans (h k (by omega))
/-- What holds at the end of a loop. -/
theorem forM_ind {S ρ : Type} {step : S → Int → ρ ⊕ S} {out : S → ρ} {n : Nat} (Inv : S → Int → Prop) (Post : ρ → Prop) (hend : ∀ s, Inv s n → Post (out s))
    (hstep : ∀ (s : S) (i : Int), 0 ≤ i → i < n → Inv s i → (∀ r, step s i = .inl r → Post r) ∧ ∀ s', step s i = .inr s' → Inv s' (i + 1)) : ∀ (d : Nat) (s : S) (i : Int), 0 ≤ i → i + d = n → Inv s i → Post (forM step out d s i) := by
  intro d
  induction d with
  | zero =>
    intro s i h0 h1 hI
    obtain rfl : i = n := by omega
    exact hend s hI
  | succ d ih =>
    intro s i h0 h1 hI
    obtain ⟨h2, h3⟩ := hstep s i h0 (by omega) hI
    simp only [forM]
    cases hs : step s i with
    | inl r => exact h2 r hs
    | inr s' => exact ih s' (i + 1) (by omega) (by omega) (h3 s' hs)

theorem Ev_succ {α : Type} {g : Nat → Option α} {r : α} (h : Ev (fun k => g (k + 1)) r) : Ev g r := Ev.step (fun _ => rfl) h
theorem Ev_for2 {S ρ : Type} {F : Nat → S → Int → Option ρ} {step : S → Int → ρ ⊕ S} {out : S → ρ} {n : Nat} (Inv : S → Int → Prop)
    (hend : ∀ s, Inv s n → Ev (fun k => F k s n) (out s))
    (hstep : ∀ (s : S) (i : Int), 0 ≤ i → i < n → Inv s i → (∃ r, step s i = .inl r ∧ Ev (fun k => F k s i) r) ∨ (∃ s', step s i = .inr s' ∧ Inv s' (i + 1) ∧ ∀ r, Ev (fun k => F k s' (i + 1)) r → Ev (fun k => F k s i) r)) :
    ∀ (d : Nat) (s : S) (i : Int), 0 ≤ i → i + d = n → Inv s i → Ev (fun k => F k s i) (forM step out d s i) := by
  intro d
  induction d with
  | zero =>
    intro s i h0 h1 hI
    obtain rfl : i = n := by omega
    exact hend s hI
  | succ d ih =>
    intro s i h0 h1 hI
    rcases hstep s i h0 (by omega) hI with ⟨r, hr, hK⟩ | ⟨s', hs, hI', hK⟩
    · simp only [forM, hr]
      exact hK
    · simp only [forM, hs]
      exact hK _ (ih s' (i + 1) (by omega) (by omega) hI')
/-- A loop over a list that only gathers: a fold. -/
theorem forM_fold {S ρ α : Type} (xs : List α) (rdx : Int → α) (hrd : ∀ (j : Nat) (h : j < xs.length), rdx j = xs[j]) (upd : S → α → S) (out : S → ρ) (d : Nat) : ∀ (s : S) (i : Nat), i + d = xs.length →
    forM (ρ := ρ) (fun s i => .inr (upd s (rdx i))) out d s i = out ((xs.drop i).foldl upd s) := by
  induction d with
  | zero =>
    intro s i hi
    rw [List.drop_eq_nil_of_le (by omega)]
    rfl
  | succ d ih =>
    intro s i hi
    rw [List.drop_eq_getElem_cons (show i < xs.length by omega)]
    simp only [forM, List.foldl_cons]
    have := ih (upd s (rdx i)) (i + 1) (by omega)
    rw [← hrd i (by omega)]
    exact this
theorem forM_fold0 {S ρ α : Type} (xs : List α) (rdx : Int → α) (hrd : ∀ (j : Nat) (h : j < xs.length), rdx j = xs[j]) (upd : S → α → S) (out : S → ρ) (s : S) :
    forM (ρ := ρ) (fun s i => .inr (upd s (rdx i))) out xs.length s 0 = out (xs.foldl upd s) := by
  have := forM_fold xs rdx hrd upd out xs.length s 0 (by omega)
  rw [List.drop_zero] at this
  exact this
/-- A loop that looks at each place, and stops at the first that fails. -/
theorem forM_all {p : Int → Bool} {b : Bool} {n : Nat} (d : Nat) : ∀ i : Int, 0 ≤ i → i + d = n → (forM (S := Unit) (ρ := Bool) (fun _ i => if p i = true then .inr () else .inl false) (fun _ => b) d () i = true ↔ b = true ∧ ∀ j : Int, i ≤ j → j < n → p j = true) := by
  induction d with
  | zero =>
    intro i h0 hi
    simp only [forM]
    exact ⟨fun h => ⟨h, fun j h1 h2 => by omega⟩, fun h => h.1⟩
  | succ d ih =>
    intro i h0 hi
    simp only [forM]
    by_cases hp : p i = true
    · rw [if_pos hp]
      refine (ih (i + 1) (by omega) (by omega)).trans ⟨fun h => ⟨h.1, fun j h1 h2 => ?_⟩, fun h => ⟨h.1, fun j h1 h2 => h.2 j (by omega) h2⟩⟩
      by_cases hj : j = i
      · rw [hj]; exact hp
      · exact h.2 j (by omega) h2
    · rw [if_neg hp]
      exact ⟨(fun h => by cases h), fun h => absurd (h.2 i (Int.le_refl _) (by omega)) hp⟩

/-- A loop that never stops before its end. -/
def foldU {S : Type} (upd : S → Int → S) : Nat → S → Int → S
  | 0, s, _ => s
  | d + 1, s, i => foldU upd d (upd s i) (i + 1)
theorem foldU_ind {S : Type} {upd : S → Int → S} {n : Int} (Inv : S → Int → Prop) (hstep : ∀ (s : S) (i : Int), 0 ≤ i → i < n → Inv s i → Inv (upd s i) (i + 1)) : ∀ (d : Nat) (s : S) (i : Int), 0 ≤ i → i + d = n → Inv s i → Inv (foldU upd d s i) n := by
  intro d
  induction d with
  | zero => intro s i h0 h1 hI; obtain rfl : i = n := by omega
            exact hI
  | succ d ih => intro s i h0 h1 hI; exact ih _ _ (by omega) (by omega) (hstep s i h0 (by omega) hI)
theorem Ev_forK {S τ : Type} {F : Nat → S → Int → Option τ} {upd : S → Int → S} {n : Int} {r : τ} (Inv : S → Int → Prop)
    (hstep : ∀ (s : S) (i : Int), 0 ≤ i → i < n → Inv s i → Inv (upd s i) (i + 1) ∧ (Ev (fun k => F k (upd s i) (i + 1)) r → Ev (fun k => F k s i) r)) :
    ∀ (d : Nat) (s : S) (i : Int), 0 ≤ i → i + d = n → Inv s i → (Inv (foldU upd d s i) n → Ev (fun k => F k (foldU upd d s i) n) r) → Ev (fun k => F k s i) r := by
  intro d
  induction d with
  | zero => intro s i h0 h1 hI h; obtain rfl : i = n := by omega
            exact h hI
  | succ d ih =>
    intro s i h0 h1 hI h
    obtain ⟨h2, h3⟩ := hstep s i h0 (by omega) hI
    exact h3 (ih _ _ (by omega) (by omega) h2 h)

theorem Ev_allK {τ : Type} {F : Nat → Int → Option τ} {p : Int → Prop} {n : Int} {r bad : τ}
    (hstep : ∀ i : Int, 0 ≤ i → i < n → (p i → Ev (fun k => F k (i + 1)) r → Ev (fun k => F k i) r) ∧ (¬ p i → r = bad → Ev (fun k => F k i) r)) :
    ∀ (d : Nat) (i : Int), 0 ≤ i → i + d = n → (¬ (∀ j : Int, i ≤ j → j < n → p j) → r = bad) → ((∀ j : Int, i ≤ j → j < n → p j) → Ev (fun k => F k n) r) → Ev (fun k => F k i) r := by
  intro d
  induction d with
  | zero => intro i h0 h1 _ h; obtain rfl : i = n := by omega
            exact h (fun j h2 h3 => by omega)
  | succ d ih =>
    intro i h0 h1 hb hg
    obtain ⟨h2, h3⟩ := hstep i h0 (by omega)
    by_cases hp : p i
    · refine h2 hp (ih (i + 1) (by omega) (by omega) (fun h => hb (fun q => h (fun j h4 h5 => q j (by omega) h5))) (fun h => hg (fun j h4 h5 => ?_)))
      by_cases hj : j = i
      · rw [hj]; exact hp
      · exact h j (by omega) h5
    · exact h3 hp (hb (fun q => hp (q i (Int.le_refl _) (by omega))))

theorem within_eq (a lo hi : Int) : impl_within.f a lo hi = some (decide (lo ≤ a ∧ a ≤ hi)) := by
  unfold impl_within.f
  by_cases h : lo ≤ a <;> simp [h]

theorem l01In_eq (a lo hi : Int) : spec_l01In.f a lo hi = some (decide (lo ≤ a ∧ a ≤ hi)) := by
  unfold spec_l01In.f
  by_cases h : a ≥ lo
  · have : lo ≤ a := h
    simp [this]
  · have : ¬ lo ≤ a := h
    simp [this]

def WordOk (s : ByteArray) : Prop := (1 ≤ (s.size : Int) ∧ (s.size : Int) ≤ 16) ∧ ∀ i : Int, 0 ≤ i → i < s.size → ¬ bt s i < 97 ∧ ¬ bt s i > 122
noncomputable def wordB (s : ByteArray) : Bool := open Classical in decide (WordOk s)
theorem wordB_iff {s : ByteArray} : wordB s = true ↔ WordOk s := by unfold wordB; exact @decide_eq_true_iff _ (Classical.propDecidable _)
theorem wordB_no {s : ByteArray} (h : ¬ WordOk s) : wordB s = false := by rw [Bool.eq_false_iff]; exact fun q => h (wordB_iff.1 q)
theorem spec_IsWord_ev (s : ByteArray) (hs : s.size ≤ maxLen) : Ev (fun k => spec_IsWord.f k s) (wordB s) := by
  have hm : s.size ≤ 9223372036854775807 := hs
  unfold spec_IsWord.f
  refine Ev_allK (F := fun k i => spec_IsWord.l0 k s i) (p := fun i => ¬ bt s i < 97 ∧ ¬ bt s i > 122) (n := s.size) (bad := false) (fun i h0 h1 => ⟨fun hp hr => Ev_succ (by
    simp only [spec_IsWord.l0]
    rw [w64 (by omega) (by omega)]
    exact Ev_pos h1 (Ev_pos h0 (Ev_neg hp.1 (Ev_neg hp.2 hr)))), fun hp hr => Ev_succ (by
    simp only [spec_IsWord.l0]
    exact Ev_pos h1 (Ev_pos h0 (Ev_ite (fun _ => Ev_some hr.symm) (fun ha => Ev_ite (fun _ => Ev_some hr.symm) (fun hb => absurd ⟨ha, hb⟩ hp)))))⟩) s.size 0 (by omega) (by omega) (fun hno => wordB_no (fun q => hno q.2)) (fun hv => Ev_succ (by
    simp only [spec_IsWord.l0, l01In_eq, Option.bind_some]
    refine Ev_neg (by omega) (Ev_some ?_)
    by_cases hz : 1 ≤ (s.size : Int) ∧ (s.size : Int) ≤ 16
    · rw [decide_eq_true hz]; exact (wordB_iff.2 ⟨hz, hv⟩).symm
    · rw [decide_eq_false hz]; exact (wordB_no (fun q => hz q.1)).symm))
theorem impl_IsWord_ev (s : ByteArray) : Ev (fun k => impl_IsWord.f k s) (wordB s) := by
  unfold impl_IsWord.f
  have hj : ∀ r, r = false → Ev (fun k => impl_IsWord.j0 k s true) r := fun r h => Ev_succ (by
    simp only [impl_IsWord.j0, if_true]
    exact Ev_some h.symm)
  refine Ev_ite (fun h => hj _ (wordB_no (fun q => absurd q.1.1 (by omega)))) (fun h => ?_)
  by_cases h2 : (s.size : Int) > 16
  · rw [decide_eq_true h2]
    exact hj _ (wordB_no (fun q => absurd q.1.2 (by omega)))
  · rw [decide_eq_false h2]
    refine Ev_succ (by
      simp only [impl_IsWord.j0, Bool.false_eq_true, if_false]
      exact Ev_allK (F := fun k i => impl_IsWord.l0 k s i) (p := fun i => ¬ bt s i < 97 ∧ ¬ bt s i > 122) (n := s.size) (bad := false) (fun i h0 h1 => ⟨fun hp hr => Ev_succ (by
        simp only [impl_IsWord.l0]
        rw [w64 (by omega) (by omega)]
        exact Ev_pos h1 (Ev_pos h0 (Ev_neg hp.1 (Ev_neg hp.2 hr)))), fun hp hr => Ev_succ (by
        simp only [impl_IsWord.l0]
        exact Ev_pos h1 (Ev_pos h0 (Ev_ite (fun _ => Ev_some hr.symm) (fun ha => Ev_ite (fun _ => Ev_some hr.symm) (fun hb => absurd ⟨ha, hb⟩ hp)))))⟩) s.size 0 (by omega) (by omega) (fun hno => wordB_no (fun q => hno q.2)) (fun hv => Ev_succ (by
        simp only [impl_IsWord.l0]
        exact Ev_neg (by omega) (Ev_some (wordB_iff.2 ⟨⟨by omega, by omega⟩, hv⟩).symm))))

def ArtOk (x : S65) : Prop := WordOk x.f0 ∧ (0 ≤ x.f1 ∧ x.f1 ≤ 3) ∧ (20 ≤ x.f2 ∧ x.f2 ≤ 300) ∧ (0 ≤ x.f3 ∧ x.f3 ≤ 10000) ∧ (0 ≤ x.f4 ∧ x.f4 ≤ x.f3) ∧ (1 ≤ x.f5 ∧ x.f5 ≤ 50) ∧ (0 ≤ x.f6 ∧ x.f6 ≤ 10000) ∧ (1 ≤ x.f7 ∧ x.f7 ≤ 100000) ∧ 0 ≤ x.f8 ∧ x.f8 ≤ 3
noncomputable def artB (x : S65) : Bool := open Classical in decide (ArtOk x)
theorem artB_iff {x : S65} : artB x = true ↔ ArtOk x := by unfold artB; exact @decide_eq_true_iff _ (Classical.propDecidable _)
theorem artB_no {x : S65} (h : ¬ ArtOk x) : artB x = false := by rw [Bool.eq_false_iff]; exact fun q => h (artB_iff.1 q)
theorem spec_IsArticle_ev (x : S65) (hs : x.f0.size ≤ maxLen) : Ev (fun k => spec_IsArticle.f k x.f0 x.f1 x.f2 x.f3 x.f4 x.f5 x.f6 x.f7 x.f8) (artB x) := by
  unfold spec_IsArticle.f
  refine Ev.bind (spec_IsWord_ev _ hs) ?_
  simp only [l01In_eq, Option.bind_some, decide_eq_true_eq]
  by_cases h : ArtOk x
  · rw [artB_iff.2 h]
    obtain ⟨h0, h1, h2, h3, h4, h5, h6, h7, h8⟩ := h
    exact Ev_pos (wordB_iff.2 h0) (Ev_pos h1 (Ev_pos h2 (Ev_pos h3 (Ev_pos h4 (Ev_pos h5 (Ev_pos h6 (Ev_pos h7 (Ev_some (decide_eq_true h8)))))))))
  · rw [artB_no h]
    exact Ev_ite (fun g0 => Ev_ite (fun g1 => Ev_ite (fun g2 => Ev_ite (fun g3 => Ev_ite (fun g4 => Ev_ite (fun g5 => Ev_ite (fun g6 => Ev_ite (fun g7 => Ev_some (decide_eq_false (fun g8 => h ⟨wordB_iff.1 g0, g1, g2, g3, g4, g5, g6, g7, g8⟩))) (fun _ => Ev.now _)) (fun _ => Ev.now _)) (fun _ => Ev.now _)) (fun _ => Ev.now _)) (fun _ => Ev.now _)) (fun _ => Ev.now _)) (fun _ => Ev.now _)) (fun _ => Ev.now _)
theorem impl_IsArticle_ev (x : S65) : Ev (fun k => impl_IsArticle.f k x.f0 x.f1 x.f2 x.f3 x.f4 x.f5 x.f6 x.f7 x.f8) (artB x) := by
  unfold impl_IsArticle.f
  refine Ev.bind (impl_IsWord_ev _) ?_
  simp only [within_eq, Option.bind_some, decide_eq_true_eq]
  by_cases h : ArtOk x
  · rw [artB_iff.2 h]
    obtain ⟨h0, h1, h2, h3, h4, h5, h6, h7, h8⟩ := h
    exact Ev_pos (wordB_iff.2 h0) (Ev_pos h1 (Ev_pos h2 (Ev_pos h3 (Ev_pos h4 (Ev_pos h5 (Ev_pos h6 (Ev_pos h7 (Ev_some (decide_eq_true h8)))))))))
  · rw [artB_no h]
    exact Ev_ite (fun g0 => Ev_ite (fun g1 => Ev_ite (fun g2 => Ev_ite (fun g3 => Ev_ite (fun g4 => Ev_ite (fun g5 => Ev_ite (fun g6 => Ev_ite (fun g7 => Ev_some (decide_eq_false (fun g8 => h ⟨wordB_iff.1 g0, g1, g2, g3, g4, g5, g6, g7, g8⟩))) (fun _ => Ev.now _)) (fun _ => Ev.now _)) (fun _ => Ev.now _)) (fun _ => Ev.now _)) (fun _ => Ev.now _)) (fun _ => Ev.now _)) (fun _ => Ev.now _)) (fun _ => Ev.now _)

theorem rdArt_mem {xs : List S65} {i : Int} (h0 : 0 ≤ i) (h1 : i < xs.length) : rd_T65 xs i ∈ xs := by
  have : rd_T65 xs i = xs[i.toNat]'(by omega) := by simp [rd_T65, List.getD_eq_getElem?_getD, List.getElem?_eq_getElem (show i.toNat < xs.length by omega)]
  rw [this]
  exact List.getElem_mem _
def StepOk (xs : List S65) (i : Int) : Prop := ArtOk (rd_T65 xs i) ∧ (0 < i → Op.bytesLess (rd_T65 xs (i - 1)).f0.toList (rd_T65 xs i).f0.toList = true)
def ArtsOk (xs : List S65) : Prop := (xs.length : Int) ≤ 12 ∧ ∀ i : Int, 0 ≤ i → i < xs.length → StepOk xs i
noncomputable def artsB (xs : List S65) : Bool := open Classical in decide (ArtsOk xs)
theorem artsB_iff {xs : List S65} : artsB xs = true ↔ ArtsOk xs := by unfold artsB; exact @decide_eq_true_iff _ (Classical.propDecidable _)
theorem artsB_no {xs : List S65} (h : ¬ ArtsOk xs) : artsB xs = false := by rw [Bool.eq_false_iff]; exact fun q => h (artsB_iff.1 q)
theorem spec_AreArticles_ev (xs : List S65) (hn : xs.length ≤ 1000000) (hs : ∀ x ∈ xs, x.f0.size ≤ maxLen) : Ev (fun k => spec_AreArticles.f k xs) (artsB xs) := by
  unfold spec_AreArticles.f
  refine Ev_allK (F := fun k i => spec_AreArticles.l0 k xs i) (p := StepOk xs) (n := xs.length) (bad := false) (fun i h0 h1 => ⟨fun hp hr => Ev_succ (by
    simp only [spec_AreArticles.l0]
    refine Ev_pos h1 (Ev_pos h0 (Ev.bind (spec_IsArticle_ev _ (hs _ (rdArt_mem h0 h1))) ?_))
    rw [artB_iff.2 hp.1, w64 (x := i + 1) (by omega) (by omega), w64 (x := i - 1) (by omega) (by omega)]
    exact Ev_pos rfl (Ev_ite (fun hi => Ev_pos (by omega) (Ev_pos (by omega) (Ev_pos (hp.2 hi) hr))) (fun _ => hr))), fun hp hr => Ev_succ (by
    simp only [spec_AreArticles.l0]
    refine Ev_pos h1 (Ev_pos h0 (Ev.bind (spec_IsArticle_ev _ (hs _ (rdArt_mem h0 h1))) ?_))
    rw [w64 (x := i - 1) (by omega) (by omega)]
    exact Ev_ite (fun ha => Ev_ite (fun hi => Ev_pos (by omega) (Ev_pos (by omega) (Ev_neg (fun hb => hp ⟨artB_iff.1 ha, fun _ => hb⟩) (Ev_some hr.symm)))) (fun hi => absurd ⟨artB_iff.1 ha, fun q => absurd q hi⟩ hp)) (fun _ => Ev_some hr.symm))⟩) xs.length 0 (by omega) (by omega) (fun hno => artsB_no (fun q => hno q.2)) (fun hv => Ev_succ (by
    simp only [spec_AreArticles.l0]
    refine Ev_neg (by omega) (Ev_some ?_)
    by_cases hz : (xs.length : Int) ≤ 12
    · rw [decide_eq_true hz]; exact (artsB_iff.2 ⟨hz, hv⟩).symm
    · rw [decide_eq_false hz]; exact (artsB_no (fun q => hz q.1)).symm))
theorem impl_AreArticles_ev (xs : List S65) : Ev (fun k => impl_AreArticles.f k xs) (artsB xs) := by
  unfold impl_AreArticles.f
  refine Ev_ite (fun h => Ev_some (artsB_no (fun q => absurd q.1 (by omega))).symm) (fun h => ?_)
  refine Ev_allK (F := fun k i => impl_AreArticles.l0 k xs xs (xs.length : Int) i) (p := StepOk xs) (n := xs.length) (bad := false) (fun i h0 h1 => ⟨fun hp hr => Ev_succ (by
    simp only [impl_AreArticles.l0]
    refine Ev_pos h1 (Ev_pos h0 (Ev_pos h1 (Ev.bind (impl_IsArticle_ev _) ?_)))
    rw [artB_iff.2 hp.1, w64 (x := i + 1) (by omega) (by omega), w64 (x := i - 1) (by omega) (by omega)]
    exact Ev_pos rfl (Ev_ite (fun hi => Ev_pos (by omega) (Ev_pos (by omega) (Ev_pos (hp.2 hi) hr))) (fun _ => hr))), fun hp hr => Ev_succ (by
    simp only [impl_AreArticles.l0]
    refine Ev_pos h1 (Ev_pos h0 (Ev_pos h1 (Ev.bind (impl_IsArticle_ev _) ?_)))
    rw [w64 (x := i - 1) (by omega) (by omega)]
    exact Ev_ite (fun ha => Ev_ite (fun hi => Ev_pos (by omega) (Ev_pos (by omega) (Ev_neg (fun hb => hp ⟨artB_iff.1 ha, fun _ => hb⟩) (Ev_some hr.symm)))) (fun hi => absurd ⟨artB_iff.1 ha, fun q => absurd q hi⟩ hp)) (fun _ => Ev_some hr.symm))⟩) xs.length 0 (by omega) (by omega) (fun hno => artsB_no (fun q => hno q.2)) (fun hv => Ev_succ (by
    simp only [impl_AreArticles.l0]
    exact Ev_neg (by omega) (Ev_some (artsB_iff.2 ⟨by omega, hv⟩).symm)))

theorem find_tells (xs : List S65) (hn : xs.length ≤ 1000000) (c : ByteArray) : ∃ f : Int, Ev (fun k => spec_l03Find.f k xs c) f ∧ Ev (fun k => impl_articleOf.f k xs c) f ∧ (f = -1 ∨ 0 ≤ f ∧ f < xs.length) := by
  have h : ∀ (d : Nat) (i : Int), 0 ≤ i → i + d = xs.length → ∃ f : Int, Ev (fun k => spec_l03Find.l0 k xs c i) f ∧ Ev (fun k => impl_articleOf.l0 k c xs (xs.length : Int) i) f ∧ (f = -1 ∨ 0 ≤ f ∧ f < xs.length) := by
    intro d
    induction d with
    | zero =>
      intro i h0 h1
      exact ⟨-1, Ev_succ (by simp only [spec_l03Find.l0]; exact Ev_neg (by omega) (Ev.now _)), Ev_succ (by simp only [impl_articleOf.l0]; exact Ev_neg (by omega) (Ev.now _)), .inl rfl⟩
    | succ d ih =>
      intro i h0 h1
      by_cases hc : (rd_T65 xs i).f0.toList = c.toList
      · exact ⟨i, Ev_succ (by simp only [spec_l03Find.l0]; exact Ev_pos (by omega) (Ev_pos h0 (Ev_pos hc (Ev.now _)))), Ev_succ (by simp only [impl_articleOf.l0]; exact Ev_pos (by omega) (Ev_pos h0 (Ev_pos (by omega) (Ev_pos hc (Ev.now _))))), .inr ⟨h0, by omega⟩⟩
      · obtain ⟨f, h2, h3, h4⟩ := ih (i + 1) (by omega) (by omega)
        refine ⟨f, Ev_succ (by simp only [spec_l03Find.l0]; rw [w64 (by omega) (by omega)]; exact Ev_pos (by omega) (Ev_pos h0 (Ev_neg hc h2))), Ev_succ (by simp only [impl_articleOf.l0]; rw [w64 (by omega) (by omega)]; exact Ev_pos (by omega) (Ev_pos h0 (Ev_pos (by omega) (Ev_neg hc h3)))), h4⟩
  exact h xs.length 0 (by omega) (by omega)

def CountsOk (xs : List S65) (cs : List Int) : Prop := (cs.length : Int) = (xs.length : Int) ∧ ∀ i : Int, 0 ≤ i → i < cs.length → 0 ≤ rd cs i ∧ rd cs i ≤ 1000
def MagOk (xs : List S65) (lim : Int) (cs : List Int) : Prop := ArtsOk xs ∧ (0 ≤ lim ∧ lim ≤ 1000000000) ∧ CountsOk xs cs
noncomputable def magB (xs : List S65) (lim : Int) (cs : List Int) : Bool := open Classical in decide (MagOk xs lim cs)
theorem magB_iff {xs : List S65} {lim : Int} {cs : List Int} : magB xs lim cs = true ↔ MagOk xs lim cs := by unfold magB; exact @decide_eq_true_iff _ (Classical.propDecidable _)
theorem magB_no {xs : List S65} {lim : Int} {cs : List Int} (h : ¬ MagOk xs lim cs) : magB xs lim cs = false := by rw [Bool.eq_false_iff]; exact fun q => h (magB_iff.1 q)
theorem spec_l03Code_ev (xs : List S65) (hn : xs.length ≤ 1000000) (hs : ∀ x ∈ xs, x.f0.size ≤ maxLen) (cs : List Int) (hc : cs.length ≤ 1000000) : ∃ c, Ev (fun k => spec_l03Code.f k xs cs) c ∧ (c = 0 ↔ ArtsOk xs ∧ CountsOk xs cs) := by
  unfold spec_l03Code.f
  by_cases ha : ArtsOk xs
  · by_cases hk : CountsOk xs cs
    · refine ⟨0, Ev.bind (spec_AreArticles_ev xs hn hs) (Ev_pos (artsB_iff.2 ha) ?_), ⟨fun _ => ⟨ha, hk⟩, fun _ => rfl⟩⟩
      exact Ev_allK (F := fun k i => spec_l03Code.l0 k xs cs i) (p := fun i => 0 ≤ rd cs i ∧ rd cs i ≤ 1000) (n := cs.length) (bad := 2) (fun i h0 h1 => ⟨fun hp hr => Ev_succ (by
        simp only [spec_l03Code.l0, l01In_eq, Option.bind_some, decide_eq_true_eq]
        rw [w64 (by omega) (by omega)]
        exact Ev_pos h1 (Ev_pos h0 (Ev_pos hp hr))), fun hp _ => absurd (hk.2 i h0 h1) hp⟩) cs.length 0 (by omega) (by omega) (fun hno => absurd (fun j h0 h1 => hk.2 j h0 h1) hno) (fun _ => Ev_succ (by
        simp only [spec_l03Code.l0]
        exact Ev_neg (by omega) (Ev_pos hk.1 (Ev.now _))))
    · refine ⟨2, Ev.bind (spec_AreArticles_ev xs hn hs) (Ev_pos (artsB_iff.2 ha) ?_), ⟨fun h => absurd h (by decide), fun h => absurd h.2 hk⟩⟩
      exact Ev_allK (F := fun k i => spec_l03Code.l0 k xs cs i) (p := fun i => 0 ≤ rd cs i ∧ rd cs i ≤ 1000) (n := cs.length) (bad := 2) (fun i h0 h1 => ⟨fun hp hr => Ev_succ (by
        simp only [spec_l03Code.l0, l01In_eq, Option.bind_some, decide_eq_true_eq]
        rw [w64 (by omega) (by omega)]
        exact Ev_pos h1 (Ev_pos h0 (Ev_pos hp hr))), fun hp _ => Ev_succ (by
        simp only [spec_l03Code.l0, l01In_eq, Option.bind_some, decide_eq_true_eq]
        exact Ev_pos h1 (Ev_pos h0 (Ev_neg hp (Ev.now _))))⟩) cs.length 0 (by omega) (by omega) (fun _ => rfl) (fun hall => Ev_succ (by
        simp only [spec_l03Code.l0]
        exact Ev_neg (by omega) (Ev_neg (fun h => hk ⟨h, fun i h0 h1 => hall i h0 h1⟩) (Ev.now _))))
  · exact ⟨1, Ev.bind (spec_AreArticles_ev xs hn hs) (Ev_neg (fun q => ha (artsB_iff.1 q)) (Ev.now _)), ⟨fun h => absurd h (by decide), fun h => absurd h.1 ha⟩⟩
theorem spec_IsMagazine_ev (xs : List S65) (hn : xs.length ≤ 1000000) (hs : ∀ x ∈ xs, x.f0.size ≤ maxLen) (lim : Int) (cs : List Int) (hc : cs.length ≤ 1000000) : Ev (fun k => spec_IsMagazine.f k xs lim cs) (magB xs lim cs) := by
  obtain ⟨c, he, hi⟩ := spec_l03Code_ev xs hn hs cs hc
  unfold spec_IsMagazine.f
  rw [l01In_eq]
  simp only [Option.bind_some, decide_eq_true_eq]
  refine Ev_ite (fun hl => Ev.bind he (Ev_some ?_)) (fun hl => Ev_some (magB_no (fun q => hl q.2.1)).symm)
  by_cases h0 : c = 0
  · rw [magB_iff.2 ⟨(hi.1 h0).1, hl, (hi.1 h0).2⟩]; simp [h0]
  · rw [magB_no (fun q => h0 (hi.2 ⟨q.1, q.2.2⟩))]; simp [h0]
theorem impl_allWithin_ev (cs : List Int) (hc : cs.length ≤ 9000000000000000000) (lo hi : Int) : Ev (fun k => impl_allWithin.f k cs lo hi) (open Classical in decide (∀ i : Int, 0 ≤ i → i < cs.length → lo ≤ rd cs i ∧ rd cs i ≤ hi)) := by
  unfold impl_allWithin.f
  exact Ev_allK (F := fun k i => impl_allWithin.l0 k lo hi cs (cs.length : Int) i) (p := fun i => lo ≤ rd cs i ∧ rd cs i ≤ hi) (n := cs.length) (bad := false) (fun i h4 h5 => ⟨fun hp hr => Ev_succ (by
    simp only [impl_allWithin.l0, within_eq, Option.bind_some, decide_eq_true_eq]
    rw [w64 (by omega) (by omega)]
    exact Ev_pos h5 (Ev_pos h4 (Ev_pos h5 (Ev_pos hp hr)))), fun hp hr => Ev_succ (by
    simp only [impl_allWithin.l0, within_eq, Option.bind_some, decide_eq_true_eq]
    exact Ev_pos h5 (Ev_pos h4 (Ev_pos h5 (Ev_neg hp (Ev_some hr.symm)))))⟩) cs.length 0 (by omega) (by omega) (fun hno => @decide_eq_false _ (Classical.propDecidable _) hno) (fun hv => Ev_succ (by
    simp only [impl_allWithin.l0]
    exact Ev_neg (by omega) (Ev_some (@decide_eq_true _ (Classical.propDecidable _) hv).symm)))
theorem impl_IsMagazine_ev (xs : List S65) (lim : Int) (cs : List Int) (hc : cs.length ≤ 1000000) : Ev (fun k => impl_IsMagazine.f k xs lim cs) (magB xs lim cs) := by
  unfold impl_IsMagazine.f
  refine Ev.bind (impl_AreArticles_ev xs) (Ev_ite (fun ha => ?_) (fun ha => Ev_some (magB_no (fun q => ha (artsB_iff.2 q.1))).symm))
  rw [within_eq]
  simp only [Option.bind_some, decide_eq_true_eq]
  refine Ev_ite (fun hl => ?_) (fun hl => Ev_some (magB_no (fun q => hl q.2.1)).symm)
  have hk : Ev (fun k => impl_areCounts.f k xs cs) (magB xs lim cs) := by
    unfold impl_areCounts.f
    refine Ev_ite (fun h1 => Ev.bind (impl_allWithin_ev cs (by omega) 0 1000) (Ev_some ?_)) (fun h1 => Ev_some (magB_no (fun q => h1 q.2.2.1)).symm)
    unfold magB
    by_cases h2 : ∀ i : Int, 0 ≤ i → i < cs.length → 0 ≤ rd cs i ∧ rd cs i ≤ 1000
    · rw [@decide_eq_true _ (Classical.propDecidable _) h2, @decide_eq_true _ (Classical.propDecidable _) (show MagOk xs lim cs from ⟨artsB_iff.1 ha, hl, h1, h2⟩)]
    · rw [@decide_eq_false _ (Classical.propDecidable _) h2, @decide_eq_false _ (Classical.propDecidable _) (fun q : MagOk xs lim cs => h2 q.2.2.2)]
  exact Ev.bind hk (Ev.now _)

/-- The counts with some pieces more at one place. -/
def withM (cs : List Int) (f p : Int) : List Int := cs.set f.toNat (rd cs f + p)
theorem withM_length (cs : List Int) (f p : Int) : (withM cs f p).length = cs.length := by unfold withM; rw [List.length_set]
theorem spec_with_eq {a : Int} {cs : List Int} {f p : Int} (hc : cs.length ≤ 1000000) (h0 : 0 ≤ f) (h1 : f < cs.length) (h2 : 0 ≤ rd cs f ∧ rd cs f ≤ 1000) (h3 : -1000 ≤ p ∧ p ≤ 1000) : spec_l26With.f a cs f p = some (a, withM cs f p) := by
  unfold spec_l26With.f spec_l01Own.f withM
  simp only [Option.bind_some, List.nil_append]
  rw [if_pos (by simp; omega), Option.bind_some, if_pos h0, if_pos h1, w64 (by omega) (by omega)]
theorem impl_with_eq {a : Int} {cs : List Int} {f p : Int} (hc : cs.length ≤ 1000000) (h0 : 0 ≤ f) (h1 : f < cs.length) (h2 : 0 ≤ rd cs f ∧ rd cs f ≤ 1000) (h3 : -1000 ≤ p ∧ p ≤ 1000) : impl_withPieces.f a cs f p = some (a, withM cs f p) := by
  unfold impl_withPieces.f impl_copyList.f withM
  simp only [Option.bind_some, List.nil_append]
  rw [if_pos (by simp; omega), Option.bind_some, if_pos h0, if_pos h1, w64 (by omega) (by omega)]

theorem l26Code_ev (xs : List S65) (hn : xs.length ≤ 1000000) (hs : ∀ x ∈ xs, x.f0.size ≤ maxLen) (lim : Int) (cs : List Int) (hc : cs.length ≤ 1000000) (c : ByteArray) (p : Int) {f : Int} (hf : Ev (fun k => spec_l03Find.f k xs c) f) : Ev (fun k => spec_l26Code.f k xs lim cs c p) (if magB xs lim cs = true then (if 0 ≤ p ∧ p ≤ 1000 then (if f < 0 then 4 else 0) else 2) else 1) := by
  unfold spec_l26Code.f
  refine Ev.bind (spec_IsMagazine_ev xs hn hs lim cs hc) (Ev_ite (fun hm => ?_) (fun hm => by rw [if_neg hm]; exact Ev.now _))
  rw [if_pos hm, l01In_eq]
  simp only [Option.bind_some, decide_eq_true_eq]
  refine Ev_ite (fun hp => ?_) (fun hp => by rw [if_neg hp]; exact Ev.now _)
  rw [if_pos hp]
  exact Ev.bind hf (Ev_ite (fun q => by rw [if_pos q]; exact Ev.now _) (fun q => by rw [if_neg q]; exact Ev.now _))

theorem withM_at {cs : List Int} {f p i : Int} (h0 : 0 ≤ f) (h1 : f < cs.length) (h2 : 0 ≤ i) : rd (withM cs f p) i = if i = f then rd cs f + p else rd cs i := by
  unfold withM
  by_cases h : i = f
  · rw [if_pos h, h]
    simp [rd, List.getD_eq_getElem?_getD, List.getElem?_set_self (show f.toNat < cs.length by omega)]
  · rw [if_neg h]
    simp only [rd, List.getD_eq_getElem?_getD]
    rw [List.getElem?_set_ne (by omega)]

theorem take_ok {xs : List S65} {lim : Int} {cs : List Int} (h : MagOk xs lim cs) {f p : Int} (h0 : 0 ≤ f) (h1 : f < xs.length) (h2 : 0 ≤ p ∧ p ≤ 1000) : MagOk xs lim (withM cs f (-p)) ↔ ¬ rd cs f < p := by
  have hk := h.2.2
  have hk1 := hk.1
  have hf := hk.2 f h0 (by omega)
  constructor
  · intro q hlt
    have := q.2.2.2 f h0 (by rw [withM_length]; omega)
    rw [withM_at h0 (by omega) h0, if_pos rfl] at this
    omega
  · intro q
    refine ⟨h.1, h.2.1, by rw [withM_length]; exact hk1, fun i h3 h4 => ?_⟩
    rw [withM_length] at h4
    rw [withM_at h0 (by omega) h3]
    by_cases hi : i = f
    · rw [if_pos hi]; omega
    · rw [if_neg hi]; exact hk.2 i h3 h4

theorem take_tells (xs : List S65) (lim : Int) (cs : List Int) (c : ByteArray) (p : Int) (hn : xs.length ≤ 1000000) (hc : cs.length ≤ 1000000) (hs : ∀ x ∈ xs, x.f0.size ≤ maxLen) : ∃ r1 r2 r3, Ev (fun k => spec_TakePieces.f k xs lim cs c p) (r1, r2, r3) ∧ Ev (fun k => impl_TakePieces.f k xs lim cs c p) (r1, r2, r3) ∧ r2.length ≤ 1000000 ∧
    (r3 = 0 → ∃ f, Ev (fun k => impl_articleOf.f k xs c) f ∧ (0 ≤ f ∧ f < xs.length) ∧ MagOk xs lim cs ∧ (0 ≤ p ∧ p ≤ 1000) ∧ r1 = lim ∧ r2 = withM cs f (-p) ∧ MagOk xs lim (withM cs f (-p))) ∧ (¬ MagOk xs lim cs → r3 = 1) := by
  obtain ⟨f, f1, f2, hf⟩ := find_tells xs hn c
  have hcode := l26Code_ev xs hn hs lim cs hc c p f1
  have hi := impl_IsMagazine_ev xs lim cs hc
  unfold spec_TakePieces.f impl_TakePieces.f
  by_cases h : MagOk xs lim cs
  · rw [if_pos (magB_iff.2 h)] at hcode
    simp only [within_eq, Option.bind_some, decide_eq_true_eq]
    by_cases hp : 0 ≤ p ∧ p ≤ 1000
    · rw [if_pos hp] at hcode
      by_cases hz : f < 0
      · rw [if_pos hz] at hcode
        exact ⟨0, [], 4, Ev.bind hcode (Ev_neg (by decide) (Ev.now _)), Ev.bind hi (Ev_pos (magB_iff.2 h) (Ev_pos hp (Ev.bind f2 (Ev_pos hz (Ev.now _))))), by simp, fun q => absurd q (by decide), fun q => absurd h q⟩
      · rw [if_neg hz] at hcode
        have hk := h.2.2
        have hk1 := hk.1
        have hf1 := hk.2 f (by omega) (by omega)
        have e1 := spec_with_eq (a := lim) hc (f := f) (p := -p) (by omega) (by omega) hf1 (by omega)
        have e2 := impl_with_eq (a := lim) hc (f := f) (p := -p) (by omega) (by omega) hf1 (by omega)
        have ew : wrap64 (-p) = -p := w64 (by omega) (by omega)
        have hm := spec_IsMagazine_ev xs hn hs lim (withM cs f (-p)) (by rw [withM_length]; omega)
        by_cases hlt : rd cs f < p
        · have hb : ¬ magB xs lim (withM cs f (-p)) = true := fun q => (take_ok h (by omega) (by omega) hp).1 (magB_iff.1 q) hlt
          refine ⟨0, [], 5, Ev.bind hcode (Ev_pos rfl (Ev.bind f1 ?_)), Ev.bind hi (Ev_pos (magB_iff.2 h) (Ev_pos hp (Ev.bind f2 (Ev_neg hz (Ev_pos (by omega) (Ev_pos (by omega) (Ev_pos hlt (Ev.now _)))))))), by simp, fun q => absurd q (by decide), fun q => absurd h q⟩
          rw [ew]
          exact Ev_bindc e1 (Ev.bind hm (Ev_neg hb (Ev.now _)))
        · have ho := (take_ok h (by omega) (by omega) hp).2 hlt
          refine ⟨lim, withM cs f (-p), 0, Ev.bind hcode (Ev_pos rfl (Ev.bind f1 ?_)), Ev.bind hi (Ev_pos (magB_iff.2 h) (Ev_pos hp (Ev.bind f2 (Ev_neg hz (Ev_pos (by omega) (Ev_pos (by omega) (Ev_neg hlt ?_))))))), by rw [withM_length]; exact hc, fun _ => ⟨f, f2, ⟨by omega, by omega⟩, h, hp, rfl, rfl, ho⟩, fun q => absurd h q⟩
          · rw [ew]
            exact Ev_bindc e1 (Ev.bind hm (Ev_pos (magB_iff.2 ho) (Ev.now _)))
          · rw [ew]
            exact Ev_bindc e2 (Ev.now _)
    · rw [if_neg hp] at hcode
      exact ⟨0, [], 2, Ev.bind hcode (Ev_neg (by decide) (Ev.now _)), Ev.bind hi (Ev_pos (magB_iff.2 h) (Ev_neg hp (Ev.now _))), by simp, fun q => absurd q (by decide), fun q => absurd h q⟩
  · rw [if_neg (fun q => h (magB_iff.1 q))] at hcode
    exact ⟨0, [], 1, Ev.bind hcode (Ev_neg (by decide) (Ev.now _)), Ev.bind hi (Ev_neg (fun q => h (magB_iff.1 q)) (Ev.now _)), by simp, fun q => absurd q (by decide), fun _ => rfl⟩

/-- The net of an order, up to place i. -/
def netM (xs : List S65) (cs : List Int) : Int := foldU (fun s i => s + (rd_T65 xs i).f7 * rd cs i) xs.length 0 0
theorem net_step {xs : List S65} {cs : List Int} {lim : Int} (h : MagOk xs lim cs) {s i : Int} (h0 : 0 ≤ i) (h1 : i < xs.length) (hI : 0 ≤ s ∧ s ≤ 100000000 * i) : 0 ≤ (rd_T65 xs i).f7 * rd cs i ∧ (rd_T65 xs i).f7 * rd cs i ≤ 100000000 ∧ 0 ≤ s + (rd_T65 xs i).f7 * rd cs i ∧ s + (rd_T65 xs i).f7 * rd cs i ≤ 100000000 * (i + 1) := by
  obtain ⟨⟨hl, ha⟩, _, hk1, hk2⟩ := h
  obtain ⟨_, _, _, _, _, _, _, ⟨h71, h72⟩, _⟩ := (ha i h0 h1).1
  obtain ⟨hc1, hc2⟩ := hk2 i h0 (by omega)
  have hp : 0 ≤ (rd_T65 xs i).f7 * rd cs i := Int.mul_nonneg (by omega) hc1
  have hq : (rd_T65 xs i).f7 * rd cs i ≤ 100000 * 1000 := Int.mul_le_mul h72 hc2 hc1 (by omega)
  omega
theorem netM_bounds {xs : List S65} {cs : List Int} {lim : Int} (h : MagOk xs lim cs) : 0 ≤ netM xs cs ∧ netM xs cs ≤ 1200000000 := by
  have := foldU_ind (upd := fun s i => s + (rd_T65 xs i).f7 * rd cs i) (n := xs.length) (fun s i => 0 ≤ s ∧ s ≤ 100000000 * i) (fun s i h0 h1 hI => (net_step h h0 h1 hI).2.2) xs.length 0 0 (by omega) (by omega) (by omega)
  have hl := h.1.1
  unfold netM
  omega
theorem spec_net_ev {xs : List S65} {cs : List Int} {lim : Int} (h : MagOk xs lim cs) (a : Int) : Ev (fun k => spec_l26Net.f k xs a cs) (netM xs cs) := by
  have hl := h.1.1
  have hk := h.2.2.1
  unfold spec_l26Net.f
  refine Ev_forK (F := fun k s i => spec_l26Net.l0 k xs s i a cs) (upd := fun s i => s + (rd_T65 xs i).f7 * rd cs i) (n := xs.length) (fun s i => 0 ≤ s ∧ s ≤ 100000000 * i) (fun s i h0 h1 hI => ⟨(net_step h h0 h1 hI).2.2, fun hr => Ev_succ (by
    obtain ⟨g1, g2, g3, g4⟩ := net_step h h0 h1 hI
    simp only [spec_l26Net.l0]
    rw [w64 (x := (rd_T65 xs i).f7 * rd cs i) (by omega) (by omega), w64 (x := s + (rd_T65 xs i).f7 * rd cs i) (by omega) (by omega), w64 (x := i + 1) (by omega) (by omega)]
    exact Ev_pos h1 (Ev_pos h0 (Ev_pos (by omega) hr)))⟩) xs.length 0 0 (by omega) (by omega) (by omega) (fun _ => Ev_succ (by
    simp only [spec_l26Net.l0]
    exact Ev_neg (by omega) (Ev.now _)))
theorem impl_net_ev {xs : List S65} {cs : List Int} {lim : Int} (h : MagOk xs lim cs) (a : Int) : Ev (fun k => impl_netIn.f k xs a cs) (netM xs cs) := by
  have hl := h.1.1
  have hk := h.2.2.1
  unfold impl_netIn.f
  refine Ev_forK (F := fun k s i => impl_netIn.l0 k s xs (xs.length : Int) i a cs) (upd := fun s i => s + (rd_T65 xs i).f7 * rd cs i) (n := xs.length) (fun s i => 0 ≤ s ∧ s ≤ 100000000 * i) (fun s i h0 h1 hI => ⟨(net_step h h0 h1 hI).2.2, fun hr => Ev_succ (by
    obtain ⟨g1, g2, g3, g4⟩ := net_step h h0 h1 hI
    simp only [impl_netIn.l0]
    rw [w64 (x := (rd_T65 xs i).f7 * rd cs i) (by omega) (by omega), w64 (x := s + (rd_T65 xs i).f7 * rd cs i) (by omega) (by omega), w64 (x := i + 1) (by omega) (by omega)]
    exact Ev_pos h1 (Ev_pos h0 (Ev_pos h1 (Ev_pos (by omega) hr))))⟩) xs.length 0 0 (by omega) (by omega) (by omega) (fun _ => Ev_succ (by
    simp only [impl_netIn.l0]
    exact Ev_neg (by omega) (Ev.now _)))

def mixS (xs : List S65) (cs : List Int) (s : Bool × Bool) (i : Int) : Bool × Bool := if rd cs i > 0 then (s.1 || ((rd_T65 xs i).f8 == 3), s.2 || ((rd_T65 xs i).f8 != 3)) else s
def mixM (xs : List S65) (cs : List Int) : Bool := (foldU (mixS xs cs) xs.length (false, false) 0).1 && (foldU (mixS xs cs) xs.length (false, false) 0).2
theorem spec_mix_ev {xs : List S65} {cs : List Int} (hl : (xs.length : Int) ≤ 12) (hk : (cs.length : Int) = (xs.length : Int)) (a : Int) : Ev (fun k => spec_l26Mixed.f k xs a cs) (mixM xs cs) := by
  unfold spec_l26Mixed.f
  refine Ev_forK (F := fun k (s : Bool × Bool) i => spec_l26Mixed.l0 k xs s.1 s.2 i a cs) (upd := mixS xs cs) (n := xs.length) (fun _ _ => True) (fun s i h0 h1 _ => ⟨trivial, fun hr => Ev_succ (by
    simp only [spec_l26Mixed.l0]
    rw [w64 (by omega) (by omega)]
    refine Ev_pos h1 (Ev_pos h0 (Ev_pos (by omega) ?_))
    unfold mixS at hr
    refine Ev_ite (fun hc => ?_) (fun hc => ?_)
    · rw [if_pos hc] at hr
      obtain ⟨l, o⟩ := s
      cases l <;> cases o <;> simpa using hr
    · rw [if_neg hc] at hr
      exact hr)⟩) xs.length (false, false) 0 (by omega) (by omega) trivial (fun _ => Ev_succ (by
    simp only [spec_l26Mixed.l0]
    refine Ev_neg (by omega) ?_
    unfold mixM
    cases (foldU (mixS xs cs) xs.length (false, false) 0).1 <;> simp <;> exact Ev.now _))
theorem impl_mix_ev {xs : List S65} {cs : List Int} (hl : (xs.length : Int) ≤ 12) (hk : (cs.length : Int) = (xs.length : Int)) (a : Int) : Ev (fun k => impl_isMixed.f k xs a cs) (mixM xs cs) := by
  unfold impl_isMixed.f
  refine Ev_forK (F := fun k (s : Bool × Bool) i => impl_isMixed.l0 k s.1 s.2 xs (xs.length : Int) i a cs) (upd := mixS xs cs) (n := xs.length) (fun _ _ => True) (fun s i h0 h1 _ => ⟨trivial, fun hr => Ev_succ (by
    simp only [impl_isMixed.l0]
    rw [w64 (by omega) (by omega)]
    refine Ev_pos h1 (Ev_pos h0 (Ev_pos h1 (Ev_pos (by omega) ?_)))
    unfold mixS at hr
    refine Ev_ite (fun hc => ?_) (fun hc => ?_)
    · rw [if_pos hc] at hr
      obtain ⟨l, o⟩ := s
      cases l <;> cases o <;> simpa using hr
    · rw [if_neg hc] at hr
      exact hr)⟩) xs.length (false, false) 0 (by omega) (by omega) trivial (fun _ => Ev_succ (by
    simp only [impl_isMixed.l0]
    refine Ev_neg (by omega) ?_
    unfold mixM
    cases (foldU (mixS xs cs) xs.length (false, false) 0).1 <;> simp <;> exact Ev.now _))

def lawfulM (xs : List S65) (lim : Int) (cs : List Int) : Bool := decide (netM xs cs ≤ lim) && !mixM xs cs
theorem spec_lawful_ev {xs : List S65} {lim : Int} {cs : List Int} (h : MagOk xs lim cs) (lim' : Int) : Ev (fun k => spec_l26Lawful.f k xs lim' cs) (lawfulM xs lim' cs) := by
  unfold spec_l26Lawful.f lawfulM
  refine Ev.bind (spec_net_ev h _) (Ev_ite (fun h1 => Ev.bind (spec_mix_ev h.1.1 h.2.2.1 _) (Ev_some ?_)) (fun h1 => Ev_some ?_))
  · rw [decide_eq_true h1, Bool.true_and]
  · rw [decide_eq_false h1, Bool.false_and]
theorem impl_lawful_ev {xs : List S65} {lim : Int} {cs : List Int} (h : MagOk xs lim cs) (lim' : Int) : Ev (fun k => impl_isLawful.f k xs lim' cs) (lawfulM xs lim' cs) := by
  unfold impl_isLawful.f lawfulM
  refine Ev.bind (impl_net_ev h _) (Ev_ite (fun h1 => Ev.bind (impl_mix_ev h.1.1 h.2.2.1 _) (Ev_some ?_)) (fun h1 => Ev_some ?_))
  · rw [decide_eq_true h1, Bool.true_and]
  · rw [decide_eq_false h1, Bool.false_and]

noncomputable def storeB (xs : List S65) (lim : Int) (cs : List Int) (f p : Int) : Bool := magB xs lim (withM cs f p) && lawfulM xs lim (withM cs f p)
theorem isStored_ev {xs : List S65} {lim : Int} {cs : List Int} (h : MagOk xs lim cs) {f p : Int} (h0 : 0 ≤ f) (h1 : f < xs.length) (h2 : 0 ≤ p ∧ p ≤ 1000) : Ev (fun k => impl_isStored.f k xs lim cs f p) (storeB xs lim cs f p) := by
  have hl := h.1.1
  have hk := h.2.2
  have hk1 := hk.1
  unfold impl_isStored.f storeB
  rw [impl_with_eq (by omega) h0 (by omega) (hk.2 f h0 (by omega)) (by omega)]
  simp only [Option.bind_some]
  refine Ev.bind (impl_IsMagazine_ev xs lim _ (by rw [withM_length]; omega)) (Ev_ite (fun hm => ?_) (fun hm => ?_))
  · rw [hm, Bool.true_and]
    exact Ev.bind (impl_lawful_ev (magB_iff.1 hm) lim) (Ev.now _)
  · have : magB xs lim (withM cs f p) = false := by simpa using hm
    rw [this, Bool.false_and]
    exact Ev.now _
theorem spec_store_ev {xs : List S65} (hn : xs.length ≤ 1000000) (hs : ∀ x ∈ xs, x.f0.size ≤ maxLen) {lim : Int} {cs : List Int} (h : MagOk xs lim cs) (c : ByteArray) {f p : Int} (hf : Ev (fun k => spec_l03Find.f k xs c) f) (h0 : 0 ≤ f) (h1 : f < xs.length) (h2 : 0 ≤ p ∧ p ≤ 1000) : Ev (fun k => spec_StorePieces.f k xs lim cs c p) (if storeB xs lim cs f p = true then (lim, withM cs f p, 0) else (0, [], 5)) := by
  have hl := h.1.1
  have hk := h.2.2
  have hcode := l26Code_ev xs hn hs lim cs (by have := hk.1; omega) c p hf
  rw [if_pos (magB_iff.2 h), if_pos h2, if_neg (by omega)] at hcode
  unfold spec_StorePieces.f storeB
  refine Ev.bind hcode (Ev_pos rfl (Ev.bind hf ?_))
  rw [spec_with_eq (by have := hk.1; omega) h0 (by have := hk.1; omega) (hk.2 f h0 (by have := hk.1; omega)) (by omega)]
  simp only [Option.bind_some]
  refine Ev.bind (spec_IsMagazine_ev xs hn hs lim _ (by rw [withM_length]; have := hk.1; omega)) (Ev_ite (fun hm => ?_) (fun hm => ?_))
  · rw [hm, Bool.true_and]
    refine Ev.bind (spec_lawful_ev (magB_iff.1 hm) lim) (Ev_ite (fun q => by rw [if_pos q]; exact Ev.now _) (fun q => by rw [if_neg q]; exact Ev.now _))
  · have : magB xs lim (withM cs f p) = false := by simpa using hm
    rw [this, Bool.false_and, if_neg (by simp)]
    exact Ev.now _

theorem store_tells (xs : List S65) (lim : Int) (cs : List Int) (c : ByteArray) (p : Int) (hn : xs.length ≤ 1000000) (hc : cs.length ≤ 1000000) (hs : ∀ x ∈ xs, x.f0.size ≤ maxLen) : ∃ r1 r2 r3, Ev (fun k => spec_StorePieces.f k xs lim cs c p) (r1, r2, r3) ∧ Ev (fun k => impl_StorePieces.f k xs lim cs c p) (r1, r2, r3) ∧ r2.length ≤ 1000000 ∧
    (r3 = 0 → ∃ f, Ev (fun k => impl_articleOf.f k xs c) f ∧ (0 ≤ f ∧ f < xs.length) ∧ MagOk xs lim cs ∧ (0 ≤ p ∧ p ≤ 1000) ∧ r1 = lim ∧ r2 = withM cs f p ∧ storeB xs lim cs f p = true) := by
  obtain ⟨f, f1, f2, hf⟩ := find_tells xs hn c
  have hcode := l26Code_ev xs hn hs lim cs hc c p f1
  have hi := impl_IsMagazine_ev xs lim cs hc
  by_cases h : MagOk xs lim cs
  · rw [if_pos (magB_iff.2 h)] at hcode
    by_cases hp : 0 ≤ p ∧ p ≤ 1000
    · rw [if_pos hp] at hcode
      by_cases hz : f < 0
      · rw [if_pos hz] at hcode
        unfold spec_StorePieces.f impl_StorePieces.f
        simp only [within_eq, Option.bind_some, decide_eq_true_eq]
        exact ⟨0, [], 4, Ev.bind hcode (Ev_neg (by decide) (Ev.now _)), Ev.bind hi (Ev_pos (magB_iff.2 h) (Ev_pos hp (Ev.bind f2 (Ev_pos hz (Ev.now _))))), by simp, fun q => absurd q (by decide)⟩
      · have s1 := spec_store_ev hn hs h c f1 (by omega) (by omega) hp
        have s2 := isStored_ev h (f := f) (p := p) (by omega) (by omega) hp
        have hk := h.2.2
        have hk1 := hk.1
        have e2 := impl_with_eq (a := lim) hc (f := f) (p := p) (by omega) (by omega) (hk.2 f (by omega) (by omega)) (by omega)
        by_cases hb : storeB xs lim cs f p = true
        · rw [if_pos hb] at s1
          refine ⟨lim, withM cs f p, 0, s1, ?_, by rw [withM_length]; exact hc, fun _ => ⟨f, f2, ⟨by omega, by omega⟩, h, hp, rfl, rfl, hb⟩⟩
          unfold impl_StorePieces.f
          simp only [within_eq, Option.bind_some, decide_eq_true_eq]
          exact Ev.bind hi (Ev_pos (magB_iff.2 h) (Ev_pos hp (Ev.bind f2 (Ev_neg hz (Ev.bind s2 (Ev_pos hb (Ev_bindc e2 (Ev.now _))))))))
        · rw [if_neg hb] at s1
          refine ⟨0, [], 5, s1, ?_, by simp, fun q => absurd q (by decide)⟩
          unfold impl_StorePieces.f
          simp only [within_eq, Option.bind_some, decide_eq_true_eq]
          exact Ev.bind hi (Ev_pos (magB_iff.2 h) (Ev_pos hp (Ev.bind f2 (Ev_neg hz (Ev.bind s2 (Ev_neg hb (Ev.now _)))))))
    · rw [if_neg hp] at hcode
      unfold spec_StorePieces.f impl_StorePieces.f
      simp only [within_eq, Option.bind_some, decide_eq_true_eq]
      exact ⟨0, [], 2, Ev.bind hcode (Ev_neg (by decide) (Ev.now _)), Ev.bind hi (Ev_pos (magB_iff.2 h) (Ev_neg hp (Ev.now _))), by simp, fun q => absurd q (by decide)⟩
  · rw [if_neg (fun q => h (magB_iff.1 q))] at hcode
    unfold spec_StorePieces.f impl_StorePieces.f
    exact ⟨0, [], 1, Ev.bind hcode (Ev_neg (by decide) (Ev.now _)), Ev.bind hi (Ev_neg (fun q => h (magB_iff.1 q)) (Ev.now _)), by simp, fun q => absurd q (by decide)⟩

theorem move_tells (xs : List S65) (l : Int) (cs : List Int) (m : Int) (ds : List Int) (c : ByteArray) (p : Int) (hn : xs.length ≤ 1000000) (hc : cs.length ≤ 1000000) (hd : ds.length ≤ 1000000) (hs : ∀ x ∈ xs, x.f0.size ≤ maxLen) : ∃ r1 r2 r3 r4 r5, Ev (fun k => spec_MovePieces.f k xs l cs m ds c p) (r1, r2, r3, r4, r5) ∧ Ev (fun k => impl_MovePieces.f k xs l cs m ds c p) (r1, r2, r3, r4, r5) ∧ r2.length ≤ 1000000 ∧ r4.length ≤ 1000000 ∧
    (r5 = 0 → ∃ f : Int, (0 ≤ f ∧ f < xs.length) ∧ MagOk xs l cs ∧ MagOk xs m ds ∧ r2 = withM cs f (-p) ∧ r4 = withM ds f p) := by
  obtain ⟨t1, t2, t3, a1, a2, a3, a4, a5⟩ := take_tells xs l cs c p hn hc hs
  obtain ⟨s1, s2, s3, b1, b2, b3, b4⟩ := store_tells xs m ds c p hn hd hs
  have h1 := spec_IsMagazine_ev xs hn hs m ds hd
  have h2 := impl_IsMagazine_ev xs m ds hd
  have h3 := impl_IsMagazine_ev xs l cs hc
  unfold spec_MovePieces.f impl_MovePieces.f
  by_cases hm2 : MagOk xs m ds
  · have e2 := magB_iff.2 hm2
    by_cases hm1 : MagOk xs l cs
    · have e1 := magB_iff.2 hm1
      by_cases z : t3 = 0
      · by_cases y : s3 = 0
        · refine ⟨t1, t2, s1, s2, 0, Ev.bind h1 (Ev_pos e2 (Ev.bind a1 (Ev_pos z (Ev.bind b1 (Ev_pos y (Ev.now _)))))), Ev.bind h3 (Ev_pos e1 (Ev.bind h2 (Ev_succ (by
            simp only [impl_MovePieces.j0, e2, Bool.not_true, Bool.false_eq_true, if_false]
            exact Ev.bind a2 (Ev_pos z (Ev.bind b2 (Ev_pos y (Ev.now _)))))))), a3, b3, fun _ => ?_⟩
          obtain ⟨f, f1, f2, f3, f4, f5, f6, f7⟩ := a4 z
          obtain ⟨g, g1, g2, g3, g4, g5, g6, g7⟩ := b4 y
          obtain rfl := Ev_unique f1 g1
          exact ⟨f, f2, hm1, hm2, f6, g6⟩
        · exact ⟨0, [], 0, [], s3, Ev.bind h1 (Ev_pos e2 (Ev.bind a1 (Ev_pos z (Ev.bind b1 (Ev_neg y (Ev.now _)))))), Ev.bind h3 (Ev_pos e1 (Ev.bind h2 (Ev_succ (by
            simp only [impl_MovePieces.j0, e2, Bool.not_true, Bool.false_eq_true, if_false]
            exact Ev.bind a2 (Ev_pos z (Ev.bind b2 (Ev_neg y (Ev.now _)))))))), by simp, by simp, fun q => absurd q y⟩
      · exact ⟨0, [], 0, [], t3, Ev.bind h1 (Ev_pos e2 (Ev.bind a1 (Ev_neg z (Ev.now _)))), Ev.bind h3 (Ev_pos e1 (Ev.bind h2 (Ev_succ (by
          simp only [impl_MovePieces.j0, e2, Bool.not_true, Bool.false_eq_true, if_false]
          exact Ev.bind a2 (Ev_neg z (Ev.now _)))))), by simp, by simp, fun q => absurd q z⟩
    · obtain rfl := a5 hm1
      exact ⟨0, [], 0, [], 1, Ev.bind h1 (Ev_pos e2 (Ev.bind a1 (Ev_neg (by show ¬ (1 : Int) = 0; decide) (Ev.now _)))), Ev.bind h3 (Ev_neg (fun q => hm1 (magB_iff.1 q)) (Ev_succ (by
        simp only [impl_MovePieces.j0, if_true]
        exact Ev.now _))), by simp, by simp, fun q => absurd q (by decide)⟩
  · have e2 := magB_no hm2
    exact ⟨0, [], 0, [], 1, Ev.bind h1 (Ev_neg (fun q => hm2 (magB_iff.1 q)) (Ev.now _)), Ev.bind h3 (Ev_ite (fun _ => Ev.bind h2 (Ev_succ (by
      simp only [impl_MovePieces.j0, e2, Bool.not_false, if_true]
      exact Ev.now _))) (fun _ => Ev_succ (by
      simp only [impl_MovePieces.j0, if_true]
      exact Ev.now _))), by simp, by simp, fun q => absurd q (by decide)⟩

theorem core_FnExactMovePieces (xs : List S65) (l : Int) (cs : List Int) (m : Int) (ds : List Int) (c : ByteArray) (p : Int) (hn : xs.length ≤ 1000000) (hc : cs.length ≤ 1000000) (hd : ds.length ≤ 1000000) (_w : (Lit.int .i64 l).wf = true) (_w2 : (Lit.int .i64 m).wf = true) (_v : c.size ≤ 140737488351232) (_w3 : (Lit.int .i64 p).wf = true) (hs : ∀ x ∈ xs, x.f0.size ≤ maxLen) : ∃ r1 r2 r3 r4 r5, Ev (fun k => spec_MovePieces.f k xs l cs m ds c p) (r1, r2, r3, r4, r5) ∧ Ev (fun k => impl_MovePieces.f k xs l cs m ds c p) (r1, r2, r3, r4, r5) ∧ r2.length ≤ 1000000 ∧ r4.length ≤ 1000000 := by
  obtain ⟨r1, r2, r3, r4, r5, h1, h2, h3, h4, _⟩ := move_tells xs l cs m ds c p hn hc hd hs
  exact ⟨r1, r2, r3, r4, r5, h1, h2, h3, h4⟩

/-- How much room to..S leaves behind a row of n elements. -/
def room (n : Nat) : Nat := if n % 6 = 5 then 0 else if n % 3 = 0 then 1 else n
theorem room_le (n : Nat) : room n ≤ n + 1 := by unfold room; split <;> (try split) <;> omega
theorem room_eq (n : Nat) (h : n ≤ 9223372036854775807) : laws_roomBehind.f (n : Int) = some (room n : Int) := by
  unfold laws_roomBehind.f room
  rw [Int.tmod_eq_emod_of_nonneg (by omega), Int.tmod_eq_emod_of_nonneg (by omega)]
  by_cases h1 : n % 6 = 5
  · rw [if_pos (by omega), if_pos h1]; rfl
  · rw [if_neg (by omega), if_neg h1]
    by_cases h2 : n % 3 = 0
    · rw [if_pos (by omega), if_pos h2]; rfl
    · rw [if_neg (by omega), if_neg h2]
theorem take_set_far {α : Type} (xs : List α) (y : α) {n m : Nat} (h : n ≤ m) : (xs.set m y).take n = xs.take n := by
  apply List.ext_getElem?
  intro i
  by_cases hi : i < n
  · rw [List.getElem?_take_of_lt hi, List.getElem?_take_of_lt hi, List.getElem?_set_ne (by omega)]
  · rw [List.getElem?_eq_none (by simp; omega), List.getElem?_eq_none (by simp; omega)]
theorem take_set_at {α : Type} (xs : List α) (y : α) {n : Nat} (h : n < xs.length) : (xs.set n y).take (n + 1) = xs.take n ++ [y] := by
  rw [List.take_succ_eq_append_getElem (by rw [List.length_set]; exact h), take_set_far xs y (Nat.le_refl n)]
  simp
theorem rooms {n : Nat} (h : n ≤ 1000000) : wrap64 ((n : Int) + (room n : Int)) = ((n + room n : Nat) : Int) := by
  have := room_le n
  rw [w64 (by omega) (by omega)]; omega

theorem eqArticleS_loop (xs : List S65) (hn : xs.length ≤ 9000000000000000000) (d : Nat) : ∀ (k : Nat) (i : Int), 0 ≤ i → i ≤ xs.length → ((xs.length : Int) - i).toNat ≤ d → d < k → laws_eqArticleS.l0 k xs xs i = some true := by
  induction d with
  | zero =>
    intro k i h0 h1 hd hk
    obtain ⟨k, rfl⟩ : ∃ m, k = m + 1 := ⟨k - 1, by omega⟩
    simp only [laws_eqArticleS.l0]
    rw [if_neg (by omega)]
  | succ d ih =>
    intro k i h0 h1 hd hk
    obtain ⟨k, rfl⟩ : ∃ m, k = m + 1 := ⟨k - 1, by omega⟩
    simp only [laws_eqArticleS.l0]
    by_cases hlt : i < (xs.length : Int)
    · rw [if_pos hlt, if_pos h0, if_pos hlt]
      simp only [laws_eqArticle.f, if_true, Option.bind_some]
      rw [w64 (by omega) (by omega)]
      exact ih k (i + 1) (by omega) (by omega) (by omega) (by omega)
    · rw [if_neg hlt]
theorem eqArticleS_refl (xs : List S65) (hn : xs.length ≤ 9000000000000000000) : Ev (fun k => laws_eqArticleS.f k xs xs) true :=
  ⟨xs.length + 1, fun k hk => by
    simp only [laws_eqArticleS.f, if_true]
    exact eqArticleS_loop xs hn xs.length k 0 (by omega) (by omega) (by omega) (by omega)⟩

theorem eqInt64S_loop (xs : List Int) (hn : xs.length ≤ 9000000000000000000) (d : Nat) : ∀ (k : Nat) (i : Int), 0 ≤ i → i ≤ xs.length → ((xs.length : Int) - i).toNat ≤ d → d < k → laws_eqInt64S.l0 k xs xs i = some true := by
  induction d with
  | zero =>
    intro k i h0 h1 hd hk
    obtain ⟨k, rfl⟩ : ∃ m, k = m + 1 := ⟨k - 1, by omega⟩
    simp only [laws_eqInt64S.l0]
    rw [if_neg (by omega)]
  | succ d ih =>
    intro k i h0 h1 hd hk
    obtain ⟨k, rfl⟩ : ∃ m, k = m + 1 := ⟨k - 1, by omega⟩
    simp only [laws_eqInt64S.l0]
    by_cases hlt : i < (xs.length : Int)
    · rw [if_pos hlt, if_pos h0, if_pos hlt]
      simp only [if_true]
      rw [w64 (by omega) (by omega)]
      exact ih k (i + 1) (by omega) (by omega) (by omega) (by omega)
    · rw [if_neg hlt]
theorem eqInt64S_refl (xs : List Int) (hn : xs.length ≤ 9000000000000000000) : Ev (fun k => laws_eqInt64S.f k xs xs) true :=
  ⟨xs.length + 1, fun k hk => by
    simp only [laws_eqInt64S.f, if_true]
    exact eqInt64S_loop xs hn xs.length k 0 (by omega) (by omega) (by omega) (by omega)⟩

theorem eqMagazine_refl (a : Int) (xs : List Int) (hn : xs.length ≤ 9000000000000000000) : Ev (fun k => laws_eqMagazine.f k a xs a xs) true := by
  unfold laws_eqMagazine.f
  exact Ev_pos rfl (Ev.bind (eqInt64S_refl xs hn) (Ev.now _))

theorem markText_l0 (e : Nat) : ∀ (x : Int) (t : ByteArray), 0 ≤ x → x ≤ 9223372036854775807 → x < 10 ^ e → t.size + e ≤ 100 → ∃ r, Ev (fun k => laws_markText.l0 k x t) r := by
  induction e with
  | zero =>
    intro x t h0 hb h1 h2
    have hx : ¬ x > 0 := by simp at h1; omega
    exact ⟨_, Ev_succ (by simp only [laws_markText.l0]; exact Ev_neg hx (Ev_pos (by omega) (Ev.now _)))⟩
  | succ e ih =>
    intro x t h0 hb h1 h2
    by_cases hx : x > 0
    · have hd : Int.tdiv x 10 = x / 10 := Int.tdiv_eq_ediv_of_nonneg h0
      have hp : (10 : Int) ^ (e + 1) = 10 ^ e * 10 := Int.pow_succ ..
      have hs : ∀ n : Int, (strOfNums [n]).size = 1 := fun n => rfl
      have hw : wrap64 (Int.tdiv x 10) = x / 10 := by rw [hd]; exact w64 (by omega) (by omega)
      obtain ⟨r, hr⟩ := ih (x / 10) (strOfNums [(wrap64 (48 + (Int.tmod x 10))) % 256] ++ t) (by omega) (by omega) (by omega) (by rw [ByteArray.size_append, hs]; omega)
      refine ⟨r, Ev_succ (by
        simp only [laws_markText.l0, Option.bind_some]
        refine Ev_pos hx (Ev_pos (by rw [hs]; omega) ?_)
        rw [hw]
        exact hr)⟩
    · exact ⟨_, Ev_succ (by simp only [laws_markText.l0]; exact Ev_neg hx (Ev_pos (by omega) (Ev.now _)))⟩
theorem markText_tells (m : Int) (h : m ≤ 4000000000000000000) : ∃ t, Ev (fun k => laws_markText.f k m) t := by
  unfold laws_markText.f
  by_cases h0 : m ≤ 0
  · exact ⟨_, Ev_pos h0 (Ev.now _)⟩
  · obtain ⟨t, ht⟩ := markText_l0 19 m ⟨#[]⟩ (by omega) (by omega) (by omega) (by decide)
    exact ⟨t, Ev_neg h0 ht⟩

theorem markArticleS_loop (d : Nat) : ∀ (x0 : List S65) (m i : Int), 0 ≤ i → i + d = x0.length → 0 ≤ m → m + 9 * d ≤ 1000000000000000000 → x0.length ≤ 4000000000000000000 →
    ∃ (m' : Int) (x' : List S65), Ev (fun k => laws_markArticleS.l0 k x0 m i) (m', x') ∧ x'.length = x0.length ∧ m ≤ m' ∧ m' ≤ m + 9 * d := by
  induction d with
  | zero =>
    intro x0 m i h0 h1 hm hm2 hn
    exact ⟨m, x0, Ev_succ (by simp only [laws_markArticleS.l0]; exact Ev_neg (by omega) (Ev.now _)), rfl, by omega, by omega⟩
  | succ d ih =>
    intro x0 m i h0 h1 hm hm2 hn
    obtain ⟨t, ht⟩ := markText_tells m (by omega)
    have w1 : wrap64 (m + 1) = m + 1 := w64 (by omega) (by omega)
    have w2 : wrap64 (m + 1 + 1) = m + 2 := by rw [w64 (by omega) (by omega)]; omega
    have w3 : wrap64 (m + 2 + 1) = m + 3 := by rw [w64 (by omega) (by omega)]; omega
    have w4 : wrap64 (m + 3 + 1) = m + 4 := by rw [w64 (by omega) (by omega)]; omega
    have w5 : wrap64 (m + 4 + 1) = m + 5 := by rw [w64 (by omega) (by omega)]; omega
    have w6 : wrap64 (m + 5 + 1) = m + 6 := by rw [w64 (by omega) (by omega)]; omega
    have w7 : wrap64 (m + 6 + 1) = m + 7 := by rw [w64 (by omega) (by omega)]; omega
    have w8 : wrap64 (m + 7 + 1) = m + 8 := by rw [w64 (by omega) (by omega)]; omega
    have w9 : wrap64 (m + 8 + 1) = m + 9 := by rw [w64 (by omega) (by omega)]; omega
    have wi : wrap64 (i + 1) = i + 1 := w64 (by omega) (by omega)
    obtain ⟨L, hL, hE⟩ : ∃ L : List S65, L.length = x0.length ∧ ∀ r, Ev (fun k => laws_markArticleS.l0 k L (m + 9) (i + 1)) r → Ev (fun k => laws_markArticleS.l0 k x0 m i) r := by
      refine ⟨?L, ?h1, ?h2⟩
      case h2 =>
        intro r hr
        refine Ev_succ ?_
        simp only [laws_markArticleS.l0]
        refine Ev_pos (by omega) (Ev.bind ht (Ev_pos h0 ?_))
        simp only [Option.bind_some, w1, w2, w3, w4, w5, w6, w7, w8, w9, wi]
        exact hr
      case h1 => simp only [List.length_set]
    obtain ⟨m', x', h2, h3, h4, h5⟩ := ih L (m + 9) (i + 1) (by omega) (by omega) (by omega) (by omega) (by omega)
    exact ⟨m', x', hE _ h2, by omega, by omega, by omega⟩
theorem markArticleS_tells (xs : List S65) (hn : xs.length ≤ 2000000) (m : Int) (h0 : 0 ≤ m) (h1 : m ≤ 1000000000000) :
    ∃ (m' : Int) (l' : List S65), Ev (fun k => laws_markArticleS.f k xs m) (m', l') ∧ m ≤ m' ∧ m' ≤ m + 9 * xs.length ∧ l'.length = xs.length := by
  obtain ⟨m', x', h2, h3, h4, h5⟩ := markArticleS_loop xs.length xs m 0 (by omega) (by omega) h0 (by omega) (by omega)
  exact ⟨m', x', h2, h4, h5, h3⟩

theorem rdSetInt64S (xs : List Int) {i : Int} (h0 : 0 ≤ i) (h1 : i < xs.length) (v : Int) : rd (xs.set i.toNat v) i = v := by
  simp [rd, List.getD_eq_getElem?_getD, List.getElem?_set_self (show i.toNat < xs.length by omega)]
theorem markInt64S_loop (d : Nat) : ∀ (x0 : List Int) (m i : Int), 0 ≤ i → i ≤ x0.length → ((x0.length : Int) - i).toNat ≤ d → 0 ≤ m → m + 1 * d ≤ 4000000000000000000 → x0.length ≤ 4000000000000000000 →
    ∃ (m' : Int) (x' : List Int), x'.length = x0.length ∧ (∀ j : Nat, j < i.toNat → x'[j]? = x0[j]?) ∧ m ≤ m' ∧ m' ≤ m + 1 * d ∧ ∀ k, d < k → laws_markInt64S.l0 k x0 m i = some (m', x') ∧ laws_heldInt64S.l0 k x' m i = some m' := by
  induction d with
  | zero =>
    intro x0 m i h0 h1 hd hm hm2 hn
    refine ⟨m, x0, rfl, fun _ _ => rfl, by omega, by omega, fun k hk => ?_⟩
    obtain ⟨k, rfl⟩ : ∃ m, k = m + 1 := ⟨k - 1, by omega⟩
    simp only [laws_markInt64S.l0, laws_heldInt64S.l0]
    rw [if_neg (by omega), if_neg (by omega)]
    exact ⟨rfl, rfl⟩
  | succ d ih =>
    intro x0 m i h0 h1 hd hm hm2 hn
    by_cases hlt : i < (x0.length : Int)
    · obtain ⟨m', x', hl, hx, hm1, hm3, hk⟩ := ih (x0.set i.toNat m) (m + 1) (i + 1) (by omega) (by rw [List.length_set]; omega) (by rw [List.length_set]; omega) (by omega) (by omega) (by rw [List.length_set]; omega)
      rw [List.length_set] at hl
      refine ⟨m', x', hl, fun j hj => ?_, by omega, by omega, fun k hkd => ?_⟩
      · rw [hx j (by omega), List.getElem?_set_ne (by omega)]
      obtain ⟨k, rfl⟩ : ∃ m, k = m + 1 := ⟨k - 1, by omega⟩
      obtain ⟨h2, h3⟩ := hk k (by omega)
      have hr : rd x' i = m := by
        have := hx i.toNat (by omega)
        rw [List.getElem?_set_self (show i.toNat < x0.length by omega)] at this
        simp [rd, List.getD_eq_getElem?_getD, this]
      have w1 : wrap64 (m + 1) = m + 1 := by rw [w64 (by omega) (by omega)] <;> omega
      have wi : wrap64 (i + 1) = i + 1 := w64 (by omega) (by omega)
      refine ⟨?_, ?_⟩
      · simp only [laws_markInt64S.l0]
        rw [if_pos hlt, if_pos h0]
        simp only [Option.bind_some, rdSetInt64S x0 h0 hlt, List.set_set, w1, wi]
        exact h2
      · simp only [laws_heldInt64S.l0]
        rw [if_pos (by omega), if_pos h0, hr]
        simp only [w1, wi, if_true]
        exact h3
    · refine ⟨m, x0, rfl, fun _ _ => rfl, by omega, by omega, fun k hk => ?_⟩
      obtain ⟨k, rfl⟩ : ∃ m, k = m + 1 := ⟨k - 1, by omega⟩
      simp only [laws_markInt64S.l0, laws_heldInt64S.l0]
      rw [if_neg hlt, if_neg hlt]
      exact ⟨rfl, rfl⟩
theorem markInt64S_tells (xs : List Int) (hn : xs.length ≤ 2000000) (m : Int) (h0 : 0 ≤ m) (h1 : m ≤ 1000000000000) :
    ∃ (m' : Int) (l' : List Int), Ev (fun k => laws_markInt64S.f k xs m) (m', l') ∧ m ≤ m' ∧ m' ≤ m + 1 * xs.length ∧ l'.length = xs.length ∧ Ev (fun k => laws_heldInt64S.f k l' m) m' := by
  obtain ⟨m', x', hl, _, h2, h3, hk⟩ := markInt64S_loop xs.length xs m 0 (by omega) (by omega) (by omega) h0 (by omega) (by omega)
  exact ⟨m', x', ⟨xs.length + 1, fun k h => (hk k (by omega)).1⟩, h2, h3, hl, ⟨xs.length + 1, fun k h => (hk k (by omega)).2⟩⟩

theorem markMagazine_tells (a : Int) (xs : List Int) (hn : xs.length ≤ 2000000) (m : Int) (h0 : 0 ≤ m) (h1 : m ≤ 1000000000000) :
    ∃ (m' : Int) (l' : List Int), Ev (fun k => laws_markMagazine.f k a xs m) (m', l') ∧ m ≤ m' ∧ m' ≤ m + 1 * xs.length ∧ l'.length = xs.length ∧ Ev (fun k => laws_heldMagazine.f k a l' m) m' := by
  obtain ⟨m', l', h2, h3, h4, h5, h6⟩ := markInt64S_tells xs hn m h0 h1
  refine ⟨m', l', ?_, h3, h4, h5, ?_⟩
  · unfold laws_markMagazine.f
    exact Ev.bind h2 (Ev.now _)
  · unfold laws_heldMagazine.f
    exact Ev.bind h6 (Ev_neg (by omega) (Ev.now _))

theorem szArticleS_l0 (l0 : List S62) (hs : ∀ x ∈ l0, x.f0.size ≤ maxLen) (hn : l0.length ≤ 1000000) (d : Nat) : ∀ (x1 i : Int), 0 ≤ i → i + d = l0.length → 0 ≤ x1 → x1 ≤ 1000000 → ∃ t, Ev (fun k => laws_szArticleS.l0 k l0 x1 i) t ∧ (t < 0 ∨ 0 ≤ t ∧ t ≤ x1) := by
  induction d with
  | zero =>
    intro x1 i h0 h1 h2 h3
    exact ⟨x1, Ev_succ (by simp only [laws_szArticleS.l0]; exact Ev_neg (by omega) (Ev.now _)), .inr ⟨h2, Int.le_refl _⟩⟩
  | succ d ih =>
    intro x1 i h0 h1 h2 h3
    have hr : rd_T62 l0 i = l0[i.toNat]'(by omega) := by simp [rd_T62, List.getD_eq_getElem?_getD, List.getElem?_eq_getElem (show i.toNat < l0.length by omega)]
    have hz : (rd_T62 l0 i).f0.size ≤ 9223372036854775807 := by rw [hr]; exact hs _ (List.getElem_mem _)
    have he : laws_szArticle.f (rd_T62 l0 i).f0 (rd_T62 l0 i).f1 (rd_T62 l0 i).f2 (rd_T62 l0 i).f3 (rd_T62 l0 i).f4 (rd_T62 l0 i).f5 (rd_T62 l0 i).f6 (rd_T62 l0 i).f7 (rd_T62 l0 i).f8 x1 = some (if x1 - ((rd_T62 l0 i).f0.size : Int) < 0 then -1 else x1 - ((rd_T62 l0 i).f0.size : Int)) := by
      unfold laws_szArticle.f
      rw [w64 (by omega) (by omega)]
      split <;> rfl
    by_cases hc : x1 - ((rd_T62 l0 i).f0.size : Int) < 0
    · rw [if_pos hc] at he
      refine ⟨-1, Ev_succ (by
        simp only [laws_szArticleS.l0]
        exact Ev_pos (by omega) (Ev_pos h0 (Ev_bindc he (Ev_pos (by decide) (Ev.now _))))), .inl (by decide)⟩
    · rw [if_neg hc] at he
      obtain ⟨t, h4, h5⟩ := ih (x1 - ((rd_T62 l0 i).f0.size : Int)) (i + 1) (by omega) (by omega) (by omega) (by omega)
      refine ⟨t, Ev_succ (by
        simp only [laws_szArticleS.l0]
        refine Ev_pos (by omega) (Ev_pos h0 (Ev_bindc he (Ev_neg hc ?_)))
        rw [w64 (by omega) (by omega)]
        exact h4), by omega⟩
theorem szArticleS_tells (l0 : List S62) (hs : ∀ x ∈ l0, x.f0.size ≤ maxLen) (b : Int) (h : -9223372036854775808 ≤ b - (l0.length : Int)) (hb : b ≤ 1000000) : ∃ t, Ev (fun k => laws_szArticleS.f k l0 b) t ∧ (t < 0 ∨ 0 ≤ t ∧ t ≤ b - (l0.length : Int)) := by
  unfold laws_szArticleS.f
  rw [w64 (by omega) (by omega)]
  by_cases hc : b - (l0.length : Int) < 0
  · exact ⟨-1, Ev_pos hc (Ev.now _), .inl (by decide)⟩
  · obtain ⟨t, h4, h5⟩ := szArticleS_l0 l0 hs (by omega) l0.length (b - (l0.length : Int)) 0 (by omega) (by omega) (by omega) (by omega)
    exact ⟨t, Ev_neg hc h4, h5⟩

theorem szInt64S_eq (l0 : List Int) (b : Int) (h : -9223372036854775808 ≤ b - (l0.length : Int)) (hb : b ≤ 1000000) : laws_szInt64S.f l0 b = some (if (l0.length : Int) ≤ b then b - (l0.length : Int) else -1) := by
  unfold laws_szInt64S.f
  rw [w64 (by omega) (by omega)]
  by_cases hl : (l0.length : Int) ≤ b
  · rw [if_neg (by omega), if_pos hl]
  · rw [if_pos (by omega), if_neg hl]

theorem szMagazine_tells (a : Int) (l0 : List Int) (b : Int) (h : -9223372036854775808 ≤ b - (l0.length : Int)) (hb : b ≤ 1000000) : ∃ t, Ev (fun _ => laws_szMagazine.f a l0 b) t ∧ (t < 0 ∨ 0 ≤ t ∧ t ≤ b - (l0.length : Int)) := by
  unfold laws_szMagazine.f
  rw [szInt64S_eq l0 b h hb]
  simp only [Option.bind_some]
  by_cases hc : (l0.length : Int) ≤ b
  · rw [if_pos hc, if_neg (by omega)]
    exact ⟨_, Ev.now _, .inr ⟨by omega, Int.le_refl _⟩⟩
  · rw [if_neg hc, if_pos (by decide)]
    exact ⟨_, Ev.now _, .inl (by decide)⟩

def convArticleS (x : S62) : S65 := ⟨x.f0, x.f1, x.f2, x.f3, x.f4, x.f5, x.f6, x.f7, x.f8⟩
theorem toArticleS_l1 (l0 : List S62) (N : Nat) (hN : N ≤ 4000000) (hn : l0.length ≤ N) (d : Nat) : ∀ (k : Nat) (x5 : List S65) (i : Int), x5.length = N → (l0.length : Int) ≤ i → i ≤ N → ((N : Int) - i).toNat ≤ d → d < k →
    ∃ ext, laws_toArticleSX.l1 k l0 x5 i = some ext ∧ ext.length = N ∧ ext.take l0.length = x5.take l0.length := by
  induction d with
  | zero =>
    intro k x5 i h1 h2 h3 hd hk
    obtain ⟨k, rfl⟩ : ∃ m, k = m + 1 := ⟨k - 1, by omega⟩
    refine ⟨x5, ?_, h1, rfl⟩
    simp only [laws_toArticleSX.l1]
    rw [if_neg (by omega), if_pos (by omega), if_pos (by omega)]
  | succ d ih =>
    intro k x5 i h1 h2 h3 hd hk
    obtain ⟨k, rfl⟩ : ∃ m, k = m + 1 := ⟨k - 1, by omega⟩
    simp only [laws_toArticleSX.l1]
    by_cases hlt : i < (x5.length : Int)
    · rw [if_pos hlt]
      simp only [laws_fillerArticle.f, Option.bind_some]
      rw [if_pos (show 0 ≤ i by omega), w64 (by omega) (by omega)]
      refine (ih k _ (i + 1) (by rw [List.length_set]; exact h1) (by omega) (by omega) (by omega) (by omega)).imp fun ext h => ⟨h.1, h.2.1, h.2.2.trans ?_⟩
      exact take_set_far _ _ (by omega)
    · rw [if_neg hlt, if_pos (by omega), if_pos (by omega)]
      exact ⟨x5, rfl, h1, rfl⟩
theorem toArticleS_l0 (l0 : List S62) (N : Nat) (hN : N ≤ 4000000) (hn : l0.length ≤ N) (d : Nat) : ∀ (k : Nat) (x5 : List S65) (i : Int), x5.length = N → 0 ≤ i → i ≤ l0.length → ((l0.length : Int) - i).toNat ≤ d → d + N + 1 < k → x5.take i.toNat = (l0.take i.toNat).map convArticleS →
    ∃ ext, laws_toArticleSX.l0 k l0 x5 i = some ext ∧ ext.length = N ∧ ext.take l0.length = l0.map convArticleS := by
  induction d with
  | zero =>
    intro k x5 i h1 h2 h3 hd hk hx
    obtain ⟨k, rfl⟩ : ∃ m, k = m + 1 := ⟨k - 1, by omega⟩
    simp only [laws_toArticleSX.l0]
    rw [if_neg (by omega)]
    obtain ⟨ext, h4, h5, h6⟩ := toArticleS_l1 l0 N hN hn N k x5 (l0.length : Int) h1 (by omega) (by omega) (by omega) (by omega)
    refine ⟨ext, h4, h5, h6.trans ?_⟩
    have : i.toNat = l0.length := by omega
    rw [this, List.take_length] at hx
    exact hx
  | succ d ih =>
    intro k x5 i h1 h2 h3 hd hk hx
    obtain ⟨k, rfl⟩ : ∃ m, k = m + 1 := ⟨k - 1, by omega⟩
    simp only [laws_toArticleSX.l0]
    by_cases hlt : i < (l0.length : Int)
    · rw [if_pos hlt, if_pos h2]
      simp only [laws_toArticle.f, Option.bind_some]
      rw [if_pos (show i < (x5.length : Int) by omega), w64 (by omega) (by omega)]
      refine ih k _ (i + 1) (by rw [List.length_set]; exact h1) (by omega) (by omega) (by omega) (by omega) ?_
      have e : (i + 1).toNat = i.toNat + 1 := by omega
      rw [e, take_set_at _ _ (show i.toNat < x5.length by omega), hx, List.take_succ_eq_append_getElem (show i.toNat < l0.length by omega), List.map_append]
      have hr : rd_T62 l0 i = l0[i.toNat]'(by omega) := by
        simp [rd_T62, List.getD_eq_getElem?_getD, List.getElem?_eq_getElem (show i.toNat < l0.length by omega)]
      simp [hr, convArticleS]
    · rw [if_neg hlt]
      obtain ⟨ext, h4, h5, h6⟩ := toArticleS_l1 l0 N hN hn N k x5 (l0.length : Int) h1 (by omega) (by omega) (by omega) (by omega)
      refine ⟨ext, h4, h5, h6.trans ?_⟩
      have : i.toNat = l0.length := by omega
      rw [this, List.take_length] at hx
      exact hx
theorem toArticleS_false (l0 : List S62) (h : l0.length ≤ 1000000) : ∃ ext, Ev (fun k => laws_toArticleSX.f k l0 false) ext ∧ ext.length = l0.length + room l0.length ∧ ext.take l0.length = l0.map convArticleS := by
  have hr := room_le l0.length
  obtain ⟨k0, hk0⟩ : ∃ k0 : Nat, l0.length + (l0.length + room l0.length) + 1 < k0 := ⟨_, Nat.lt_succ_self _⟩
  obtain ⟨ext, h1, h2, h3⟩ := toArticleS_l0 l0 (l0.length + room l0.length) (by omega) (by omega) l0.length k0 (List.replicate (l0.length + room l0.length) z65) 0 (by simp) (by omega) (by omega) (by omega) hk0 (by simp)
  have hm := laws_toArticleSX.mono l0 false
  refine ⟨ext, Ev.of (k := k0 + 1) hm ?_, h2, h3⟩
  have e : wrap64 ((l0.length : Int) + (room l0.length : Int)) = ((l0.length + room l0.length : Nat) : Int) := by
    rw [w64 (by omega) (by omega)]; omega
  simp only [laws_toArticleSX.f, laws_toArticleSX.j0, Bool.false_eq_true, if_false]
  rw [room_eq l0.length (by omega), Option.bind_some, e, if_pos (by omega), Int.toNat_natCast, if_pos (by omega)]
  exact h1
theorem toArticleS_true (l0 : List S62) (h : l0.length ≤ 1000000) : ∃ extb, Ev (fun k => laws_toArticleSX.f k l0 true) extb ∧ l0.length ≤ extb.length ∧ extb.take l0.length = l0.map convArticleS ∧ (extb = [] → l0.length = 0) := by
  by_cases hz : l0.length = 0
  · have : l0 = [] := List.eq_nil_of_length_eq_zero hz
    subst this
    refine ⟨[], ⟨1, fun k hk => ?_⟩, by simp, by simp, fun _ => rfl⟩
    obtain ⟨k, rfl⟩ : ∃ m, k = m + 1 := ⟨k - 1, by omega⟩
    simp [laws_toArticleSX.f, laws_toArticleSX.j0]
  · obtain ⟨ext, h1, h2, h3⟩ := toArticleS_false l0 h
    refine ⟨ext, Ev.congr (fun k => ?_) h1, by omega, h3, fun e => by rw [e] at h2; simp at h2; omega⟩
    have e : ((l0.length : Int) == 0) = false := by simpa using hz
    simp only [laws_toArticleSX.f, e, Bool.false_eq_true, if_false, if_true]

def convInt64S (x : Int) : Int := x
theorem toInt64S_l1 (l0 : List Int) (N : Nat) (hN : N ≤ 4000000) (hn : l0.length ≤ N) (d : Nat) : ∀ (k : Nat) (x5 : List Int) (i : Int), x5.length = N → (l0.length : Int) ≤ i → i ≤ N → ((N : Int) - i).toNat ≤ d → d < k →
    ∃ ext, laws_toInt64SX.l1 k l0 x5 i = some ext ∧ ext.length = N ∧ ext.take l0.length = x5.take l0.length := by
  induction d with
  | zero =>
    intro k x5 i h1 h2 h3 hd hk
    obtain ⟨k, rfl⟩ : ∃ m, k = m + 1 := ⟨k - 1, by omega⟩
    refine ⟨x5, ?_, h1, rfl⟩
    simp only [laws_toInt64SX.l1]
    rw [if_neg (by omega), if_pos (by omega), if_pos (by omega)]
  | succ d ih =>
    intro k x5 i h1 h2 h3 hd hk
    obtain ⟨k, rfl⟩ : ∃ m, k = m + 1 := ⟨k - 1, by omega⟩
    simp only [laws_toInt64SX.l1]
    by_cases hlt : i < (x5.length : Int)
    · rw [if_pos hlt]
      skip
      rw [if_pos (show 0 ≤ i by omega), w64 (by omega) (by omega)]
      refine (ih k _ (i + 1) (by rw [List.length_set]; exact h1) (by omega) (by omega) (by omega) (by omega)).imp fun ext h => ⟨h.1, h.2.1, h.2.2.trans ?_⟩
      exact take_set_far _ _ (by omega)
    · rw [if_neg hlt, if_pos (by omega), if_pos (by omega)]
      exact ⟨x5, rfl, h1, rfl⟩
theorem toInt64S_l0 (l0 : List Int) (N : Nat) (hN : N ≤ 4000000) (hn : l0.length ≤ N) (d : Nat) : ∀ (k : Nat) (x5 : List Int) (i : Int), x5.length = N → 0 ≤ i → i ≤ l0.length → ((l0.length : Int) - i).toNat ≤ d → d + N + 1 < k → x5.take i.toNat = (l0.take i.toNat).map convInt64S →
    ∃ ext, laws_toInt64SX.l0 k l0 x5 i = some ext ∧ ext.length = N ∧ ext.take l0.length = l0.map convInt64S := by
  induction d with
  | zero =>
    intro k x5 i h1 h2 h3 hd hk hx
    obtain ⟨k, rfl⟩ : ∃ m, k = m + 1 := ⟨k - 1, by omega⟩
    simp only [laws_toInt64SX.l0]
    rw [if_neg (by omega)]
    obtain ⟨ext, h4, h5, h6⟩ := toInt64S_l1 l0 N hN hn N k x5 (l0.length : Int) h1 (by omega) (by omega) (by omega) (by omega)
    refine ⟨ext, h4, h5, h6.trans ?_⟩
    have : i.toNat = l0.length := by omega
    rw [this, List.take_length] at hx
    exact hx
  | succ d ih =>
    intro k x5 i h1 h2 h3 hd hk hx
    obtain ⟨k, rfl⟩ : ∃ m, k = m + 1 := ⟨k - 1, by omega⟩
    simp only [laws_toInt64SX.l0]
    by_cases hlt : i < (l0.length : Int)
    · rw [if_pos hlt, if_pos h2]
      skip
      rw [if_pos (show i < (x5.length : Int) by omega), w64 (by omega) (by omega)]
      refine ih k _ (i + 1) (by rw [List.length_set]; exact h1) (by omega) (by omega) (by omega) (by omega) ?_
      have e : (i + 1).toNat = i.toNat + 1 := by omega
      rw [e, take_set_at _ _ (show i.toNat < x5.length by omega), hx, List.take_succ_eq_append_getElem (show i.toNat < l0.length by omega), List.map_append]
      have hr : rd l0 i = l0[i.toNat]'(by omega) := by
        simp [rd, List.getD_eq_getElem?_getD, List.getElem?_eq_getElem (show i.toNat < l0.length by omega)]
      simp [hr, convInt64S]
    · rw [if_neg hlt]
      obtain ⟨ext, h4, h5, h6⟩ := toInt64S_l1 l0 N hN hn N k x5 (l0.length : Int) h1 (by omega) (by omega) (by omega) (by omega)
      refine ⟨ext, h4, h5, h6.trans ?_⟩
      have : i.toNat = l0.length := by omega
      rw [this, List.take_length] at hx
      exact hx
theorem toInt64S_false (l0 : List Int) (h : l0.length ≤ 1000000) : ∃ ext, Ev (fun k => laws_toInt64SX.f k l0 false) ext ∧ ext.length = l0.length + room l0.length ∧ ext.take l0.length = l0.map convInt64S := by
  have hr := room_le l0.length
  obtain ⟨k0, hk0⟩ : ∃ k0 : Nat, l0.length + (l0.length + room l0.length) + 1 < k0 := ⟨_, Nat.lt_succ_self _⟩
  obtain ⟨ext, h1, h2, h3⟩ := toInt64S_l0 l0 (l0.length + room l0.length) (by omega) (by omega) l0.length k0 (List.replicate (l0.length + room l0.length) 0) 0 (by simp) (by omega) (by omega) (by omega) hk0 (by simp)
  have hm := laws_toInt64SX.mono l0 false
  refine ⟨ext, Ev.of (k := k0 + 1) hm ?_, h2, h3⟩
  have e : wrap64 ((l0.length : Int) + (room l0.length : Int)) = ((l0.length + room l0.length : Nat) : Int) := by
    rw [w64 (by omega) (by omega)]; omega
  simp only [laws_toInt64SX.f, laws_toInt64SX.j0, Bool.false_eq_true, if_false]
  rw [room_eq l0.length (by omega), Option.bind_some, e, if_pos (by omega), Int.toNat_natCast, if_pos (by omega)]
  exact h1
theorem toInt64S_true (l0 : List Int) (h : l0.length ≤ 1000000) : ∃ extb, Ev (fun k => laws_toInt64SX.f k l0 true) extb ∧ l0.length ≤ extb.length ∧ extb.take l0.length = l0.map convInt64S ∧ (extb = [] → l0.length = 0) := by
  by_cases hz : l0.length = 0
  · have : l0 = [] := List.eq_nil_of_length_eq_zero hz
    subst this
    refine ⟨[], ⟨1, fun k hk => ?_⟩, by simp, by simp, fun _ => rfl⟩
    obtain ⟨k, rfl⟩ : ∃ m, k = m + 1 := ⟨k - 1, by omega⟩
    simp [laws_toInt64SX.f, laws_toInt64SX.j0]
  · obtain ⟨ext, h1, h2, h3⟩ := toInt64S_false l0 h
    refine ⟨ext, Ev.congr (fun k => ?_) h1, by omega, h3, fun e => by rw [e] at h2; simp at h2; omega⟩
    have e : ((l0.length : Int) == 0) = false := by simpa using hz
    simp only [laws_toInt64SX.f, e, Bool.false_eq_true, if_false, if_true]

theorem FnExactMovePieces : laws_FnExactMovePieces.Pure := by
  intro l0 a1_0 l1_1 a2_0 l2_1 a3 a4 hnl0 hnl1_1 hnl2_1 wa1_0 wa2_0 wa3 wa4 wsl0
  have hma3 : a3.size ≤ 140737488351232 := wa3
  obtain ⟨t_1, zz1, hz1⟩ := szArticleS_tells l0 wsl0 (1000000 - ((a3.size : Int))) (by omega) (by omega)
  have hw1 : (wrap64 (1000000 - ((a3.size : Int)))) = (1000000 - ((a3.size : Int))) := w64 (by omega) (by omega)
  by_cases hs1 : t_1 < 0
  case pos =>
    obtain ⟨K1_, y1_⟩ := zz1
    exact .inl ⟨(K1_), t_1, (by rw [hw1]; exact y1_ (K1_) (by omega)), decide_eq_true hs1⟩
  obtain ⟨t_2, zz2, hz2⟩ := szMagazine_tells a1_0 l1_1  t_1 (by omega) (by omega)
  by_cases hs2 : t_2 < 0
  case pos =>
    obtain ⟨K1_, y1_⟩ := zz1
    obtain ⟨K2_, y2_⟩ := zz2
    exact .inr (.inl ⟨(K1_ + K2_), t_1, t_2, (by rw [hw1]; exact y1_ (K1_ + K2_) (by omega)), decide_eq_false (by omega), y2_ (K1_ + K2_) (by omega), decide_eq_true hs2⟩)
  obtain ⟨t_3, zz3, hz3⟩ := szMagazine_tells a2_0 l2_1  t_2 (by omega) (by omega)
  by_cases hs3 : t_3 < 0
  case pos =>
    obtain ⟨K1_, y1_⟩ := zz1
    obtain ⟨K2_, y2_⟩ := zz2
    obtain ⟨K3_, y3_⟩ := zz3
    exact .inr (.inr (.inl ⟨(K1_ + K2_ + K3_), t_1, t_2, t_3, (by rw [hw1]; exact y1_ (K1_ + K2_ + K3_) (by omega)), decide_eq_false (by omega), y2_ (K1_ + K2_ + K3_) (by omega), decide_eq_false (by omega), y3_ (K1_ + K2_ + K3_) (by omega), decide_eq_true hs3⟩))
  refine .inr (.inr (.inr (?_)))
  have hb0 : l0.length ≤ 1000000 := by omega
  have hm0 := room_le l0.length
  obtain ⟨ext0, e0, el0, et0⟩ := toArticleS_false l0 hb0
  obtain ⟨extb0, b0, bl0, bt0, bn0⟩ := toArticleS_true l0 hb0
  have q0 := eqArticleS_refl ext0 (by omega)
  have hb1_1 : l1_1.length ≤ 1000000 := by omega
  have hm1_1 := room_le l1_1.length
  obtain ⟨ext1_1, e1_1, el1_1, et1_1⟩ := toInt64S_false l1_1 hb1_1
  obtain ⟨extb1_1, b1_1, bl1_1, bt1_1, bn1_1⟩ := toInt64S_true l1_1 hb1_1
  have q1_1 := eqInt64S_refl ext1_1 (by omega)
  have hb2_1 : l2_1.length ≤ 1000000 := by omega
  have hm2_1 := room_le l2_1.length
  obtain ⟨ext2_1, e2_1, el2_1, et2_1⟩ := toInt64S_false l2_1 hb2_1
  obtain ⟨extb2_1, b2_1, bl2_1, bt2_1, bn2_1⟩ := toInt64S_true l2_1 hb2_1
  have q2_1 := eqInt64S_refl ext2_1 (by omega)
  obtain ⟨z_r1, z_r2, z_r3, z_r4, z_r5, s1, s2, hl_z_r2, hl_z_r4⟩ := core_FnExactMovePieces (l0.map convArticleS) a1_0 (l1_1.map convInt64S) a2_0 (l2_1.map convInt64S) a3 a4 (by rw [List.length_map]; exact hb0) (by rw [List.length_map]; exact hb1_1) (by rw [List.length_map]; exact hb2_1) wa1_0 wa2_0 wa3 wa4 (fun x hx => by obtain ⟨y, hy, rfl⟩ := List.mem_map.1 hx; exact wsl0 y hy)
  have qq_he_gs_r2_ws_r2 := eqMagazine_refl z_r1 z_r2 (by omega)
  have qq_he_gs_r4_ws_r4 := eqMagazine_refl z_r3 z_r4 (by omega)
  obtain ⟨mk_0, ml_0, mm0, mp0, mu0, ml0⟩ := markArticleS_tells (l0.map convArticleS) (by (try rw [List.length_map]); omega) 101 (by omega) (by omega)
  have mv0 := mu0
  (try rw [List.length_map] at mv0)
  obtain ⟨mk_1, ml_1, mm1, mp1, mu1, ml1, mh1⟩ := markMagazine_tells a1_0 (l1_1.map convInt64S) (by (try rw [List.length_map]); omega) mk_0 (by omega) (by omega)
  have mv1 := mu1
  (try rw [List.length_map] at mv1)
  obtain ⟨mk_2, ml_2, mm2, mp2, mu2, ml2, mh2⟩ := markMagazine_tells a2_0 (l2_1.map convInt64S) (by (try rw [List.length_map]); omega) mk_1 (by omega) (by omega)
  have mv2 := mu2
  (try rw [List.length_map] at mv2)
  obtain ⟨mk_3, ml_3, mm3, mp3, mu3, ml3, mh3⟩ := markMagazine_tells z_r1 z_r2 (by (try rw [List.length_map]); omega) 101 (by omega) (by omega)
  have mv3 := mu3
  (try rw [List.length_map] at mv3)
  obtain ⟨mk_4, ml_4, mm4, mp4, mu4, ml4, mh4⟩ := markMagazine_tells z_r3 z_r4 (by (try rw [List.length_map]); omega) mk_3 (by omega) (by omega)
  have mv4 := mu4
  (try rw [List.length_map] at mv4)
  obtain ⟨K0_, v_zz1⟩ := zz1
  obtain ⟨K1_, v_zz2⟩ := zz2
  obtain ⟨K2_, v_zz3⟩ := zz3
  obtain ⟨K3_, v_e0⟩ := e0
  obtain ⟨K4_, v_b0⟩ := b0
  obtain ⟨K5_, v_q0⟩ := q0
  obtain ⟨K6_, v_e1_1⟩ := e1_1
  obtain ⟨K7_, v_b1_1⟩ := b1_1
  obtain ⟨K8_, v_q1_1⟩ := q1_1
  obtain ⟨K9_, v_e2_1⟩ := e2_1
  obtain ⟨K10_, v_b2_1⟩ := b2_1
  obtain ⟨K11_, v_q2_1⟩ := q2_1
  obtain ⟨K12_, v_s1⟩ := s1
  obtain ⟨K13_, v_s2⟩ := s2
  obtain ⟨K14_, v_qq_he_gs_r2_ws_r2⟩ := qq_he_gs_r2_ws_r2
  obtain ⟨K15_, v_qq_he_gs_r4_ws_r4⟩ := qq_he_gs_r4_ws_r4
  obtain ⟨K16_, v_mm0⟩ := mm0
  obtain ⟨K17_, v_mm1⟩ := mm1
  obtain ⟨K18_, v_mh1⟩ := mh1
  obtain ⟨K19_, v_mm2⟩ := mm2
  obtain ⟨K20_, v_mh2⟩ := mh2
  obtain ⟨K21_, v_mm3⟩ := mm3
  obtain ⟨K22_, v_mh3⟩ := mh3
  obtain ⟨K23_, v_mm4⟩ := mm4
  obtain ⟨K24_, v_mh4⟩ := mh4
  refine ⟨K0_ + K1_ + K2_ + K3_ + K4_ + K5_ + K6_ + K7_ + K8_ + K9_ + K10_ + K11_ + K12_ + K13_ + K14_ + K15_ + K16_ + K17_ + K18_ + K19_ + K20_ + K21_ + K22_ + K23_ + K24_, (l0.map convArticleS), ext0, extb0, (room l0.length : Int), (l1_1.map convInt64S), ext1_1, extb1_1, (room l1_1.length : Int), (l2_1.map convInt64S), ext2_1, extb2_1, (room l2_1.length : Int), t_1, t_2, t_3, z_r1, z_r2, z_r3, z_r4, z_r5, z_r2, z_r4, mk_0, ml_0, mk_1, ml_1, mk_2, ml_2, mk_3, ml_3, mk_4, ml_4, ?_⟩
  exact { hto0 := v_e0 (K0_ + K1_ + K2_ + K3_ + K4_ + K5_ + K6_ + K7_ + K8_ + K9_ + K10_ + K11_ + K12_ + K13_ + K14_ + K15_ + K16_ + K17_ + K18_ + K19_ + K20_ + K21_ + K22_ + K23_ + K24_) (by omega), htob0 := v_b0 (K0_ + K1_ + K2_ + K3_ + K4_ + K5_ + K6_ + K7_ + K8_ + K9_ + K10_ + K11_ + K12_ + K13_ + K14_ + K15_ + K16_ + K17_ + K18_ + K19_ + K20_ + K21_ + K22_ + K23_ + K24_) (by omega), hxl0 := List.length_map .., hnb0 := bn0, hne0 := fun h => by rw [h] at el0; simp at el0; unfold room at el0; split at el0 <;> (try split at el0) <;> omega, hxe0 := by rw [List.length_map]; exact et0.symm, hxb0 := by rw [List.length_map]; exact bt0.symm, hle0 := by rw [List.length_map]; omega, hlb0 := by rw [List.length_map]; exact bl0, hrm0 := by rw [List.length_map]; exact room_eq _ (by omega), hj0 := by rw [List.length_map, el0]; exact rooms hb0, heqx0 := v_q0 (K0_ + K1_ + K2_ + K3_ + K4_ + K5_ + K6_ + K7_ + K8_ + K9_ + K10_ + K11_ + K12_ + K13_ + K14_ + K15_ + K16_ + K17_ + K18_ + K19_ + K20_ + K21_ + K22_ + K23_ + K24_) (by omega), hto1_1 := v_e1_1 (K0_ + K1_ + K2_ + K3_ + K4_ + K5_ + K6_ + K7_ + K8_ + K9_ + K10_ + K11_ + K12_ + K13_ + K14_ + K15_ + K16_ + K17_ + K18_ + K19_ + K20_ + K21_ + K22_ + K23_ + K24_) (by omega), htob1_1 := v_b1_1 (K0_ + K1_ + K2_ + K3_ + K4_ + K5_ + K6_ + K7_ + K8_ + K9_ + K10_ + K11_ + K12_ + K13_ + K14_ + K15_ + K16_ + K17_ + K18_ + K19_ + K20_ + K21_ + K22_ + K23_ + K24_) (by omega), hxl1_1 := List.length_map .., hnb1_1 := bn1_1, hne1_1 := fun h => by rw [h] at el1_1; simp at el1_1; unfold room at el1_1; split at el1_1 <;> (try split at el1_1) <;> omega, hxe1_1 := by rw [List.length_map]; exact et1_1.symm, hxb1_1 := by rw [List.length_map]; exact bt1_1.symm, hle1_1 := by rw [List.length_map]; omega, hlb1_1 := by rw [List.length_map]; exact bl1_1, hrm1_1 := by rw [List.length_map]; exact room_eq _ (by omega), hj1_1 := by rw [List.length_map, el1_1]; exact rooms hb1_1, heqx1_1 := v_q1_1 (K0_ + K1_ + K2_ + K3_ + K4_ + K5_ + K6_ + K7_ + K8_ + K9_ + K10_ + K11_ + K12_ + K13_ + K14_ + K15_ + K16_ + K17_ + K18_ + K19_ + K20_ + K21_ + K22_ + K23_ + K24_) (by omega), hto2_1 := v_e2_1 (K0_ + K1_ + K2_ + K3_ + K4_ + K5_ + K6_ + K7_ + K8_ + K9_ + K10_ + K11_ + K12_ + K13_ + K14_ + K15_ + K16_ + K17_ + K18_ + K19_ + K20_ + K21_ + K22_ + K23_ + K24_) (by omega), htob2_1 := v_b2_1 (K0_ + K1_ + K2_ + K3_ + K4_ + K5_ + K6_ + K7_ + K8_ + K9_ + K10_ + K11_ + K12_ + K13_ + K14_ + K15_ + K16_ + K17_ + K18_ + K19_ + K20_ + K21_ + K22_ + K23_ + K24_) (by omega), hxl2_1 := List.length_map .., hnb2_1 := bn2_1, hne2_1 := fun h => by rw [h] at el2_1; simp at el2_1; unfold room at el2_1; split at el2_1 <;> (try split at el2_1) <;> omega, hxe2_1 := by rw [List.length_map]; exact et2_1.symm, hxb2_1 := by rw [List.length_map]; exact bt2_1.symm, hle2_1 := by rw [List.length_map]; omega, hlb2_1 := by rw [List.length_map]; exact bl2_1, hrm2_1 := by rw [List.length_map]; exact room_eq _ (by omega), hj2_1 := by rw [List.length_map, el2_1]; exact rooms hb2_1, heqx2_1 := v_q2_1 (K0_ + K1_ + K2_ + K3_ + K4_ + K5_ + K6_ + K7_ + K8_ + K9_ + K10_ + K11_ + K12_ + K13_ + K14_ + K15_ + K16_ + K17_ + K18_ + K19_ + K20_ + K21_ + K22_ + K23_ + K24_) (by omega), hz1 := (by rw [hw1]; exact v_zz1 (K0_ + K1_ + K2_ + K3_ + K4_ + K5_ + K6_ + K7_ + K8_ + K9_ + K10_ + K11_ + K12_ + K13_ + K14_ + K15_ + K16_ + K17_ + K18_ + K19_ + K20_ + K21_ + K22_ + K23_ + K24_) (by omega)), hn1 := decide_eq_false (by omega), hz2 := v_zz2 (K0_ + K1_ + K2_ + K3_ + K4_ + K5_ + K6_ + K7_ + K8_ + K9_ + K10_ + K11_ + K12_ + K13_ + K14_ + K15_ + K16_ + K17_ + K18_ + K19_ + K20_ + K21_ + K22_ + K23_ + K24_) (by omega), hn2 := decide_eq_false (by omega), hz3 := v_zz3 (K0_ + K1_ + K2_ + K3_ + K4_ + K5_ + K6_ + K7_ + K8_ + K9_ + K10_ + K11_ + K12_ + K13_ + K14_ + K15_ + K16_ + K17_ + K18_ + K19_ + K20_ + K21_ + K22_ + K23_ + K24_) (by omega), hn3 := decide_eq_false (by omega), hfspec := v_s1 (K0_ + K1_ + K2_ + K3_ + K4_ + K5_ + K6_ + K7_ + K8_ + K9_ + K10_ + K11_ + K12_ + K13_ + K14_ + K15_ + K16_ + K17_ + K18_ + K19_ + K20_ + K21_ + K22_ + K23_ + K24_) (by omega), hfimpl := v_s2 (K0_ + K1_ + K2_ + K3_ + K4_ + K5_ + K6_ + K7_ + K8_ + K9_ + K10_ + K11_ + K12_ + K13_ + K14_ + K15_ + K16_ + K17_ + K18_ + K19_ + K20_ + K21_ + K22_ + K23_ + K24_) (by omega), he_gs_r2_ws_r2 := v_qq_he_gs_r2_ws_r2 (K0_ + K1_ + K2_ + K3_ + K4_ + K5_ + K6_ + K7_ + K8_ + K9_ + K10_ + K11_ + K12_ + K13_ + K14_ + K15_ + K16_ + K17_ + K18_ + K19_ + K20_ + K21_ + K22_ + K23_ + K24_) (by omega), he_gs_r4_ws_r4 := v_qq_he_gs_r4_ws_r4 (K0_ + K1_ + K2_ + K3_ + K4_ + K5_ + K6_ + K7_ + K8_ + K9_ + K10_ + K11_ + K12_ + K13_ + K14_ + K15_ + K16_ + K17_ + K18_ + K19_ + K20_ + K21_ + K22_ + K23_ + K24_) (by omega), hm0 := v_mm0 (K0_ + K1_ + K2_ + K3_ + K4_ + K5_ + K6_ + K7_ + K8_ + K9_ + K10_ + K11_ + K12_ + K13_ + K14_ + K15_ + K16_ + K17_ + K18_ + K19_ + K20_ + K21_ + K22_ + K23_ + K24_) (by omega), hmn0 := decide_eq_false (by omega), hm1 := v_mm1 (K0_ + K1_ + K2_ + K3_ + K4_ + K5_ + K6_ + K7_ + K8_ + K9_ + K10_ + K11_ + K12_ + K13_ + K14_ + K15_ + K16_ + K17_ + K18_ + K19_ + K20_ + K21_ + K22_ + K23_ + K24_) (by omega), hmn1 := decide_eq_false (by omega), hm2 := v_mm2 (K0_ + K1_ + K2_ + K3_ + K4_ + K5_ + K6_ + K7_ + K8_ + K9_ + K10_ + K11_ + K12_ + K13_ + K14_ + K15_ + K16_ + K17_ + K18_ + K19_ + K20_ + K21_ + K22_ + K23_ + K24_) (by omega), hmn2 := decide_eq_false (by omega), hm3 := v_mm3 (K0_ + K1_ + K2_ + K3_ + K4_ + K5_ + K6_ + K7_ + K8_ + K9_ + K10_ + K11_ + K12_ + K13_ + K14_ + K15_ + K16_ + K17_ + K18_ + K19_ + K20_ + K21_ + K22_ + K23_ + K24_) (by omega), hmn3 := decide_eq_false (by omega), hml3 := ml3.symm, hm4 := v_mm4 (K0_ + K1_ + K2_ + K3_ + K4_ + K5_ + K6_ + K7_ + K8_ + K9_ + K10_ + K11_ + K12_ + K13_ + K14_ + K15_ + K16_ + K17_ + K18_ + K19_ + K20_ + K21_ + K22_ + K23_ + K24_) (by omega), hmn4 := decide_eq_false (by omega), hml4 := ml4.symm, hh_ml_3 := v_mh3 (K0_ + K1_ + K2_ + K3_ + K4_ + K5_ + K6_ + K7_ + K8_ + K9_ + K10_ + K11_ + K12_ + K13_ + K14_ + K15_ + K16_ + K17_ + K18_ + K19_ + K20_ + K21_ + K22_ + K23_ + K24_) (by omega), hh_ml_4 := v_mh4 (K0_ + K1_ + K2_ + K3_ + K4_ + K5_ + K6_ + K7_ + K8_ + K9_ + K10_ + K11_ + K12_ + K13_ + K14_ + K15_ + K16_ + K17_ + K18_ + K19_ + K20_ + K21_ + K22_ + K23_ + K24_) (by omega) }

end Go.Proofs.Ytdgglhfnlljmeaa.Pure
