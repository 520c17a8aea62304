/- The statement over numbers and lists for FnExactPaperText: the reference and the program answer alike for all arguments. -/
import Derived.Test.YtnhaacgkjebikaaXFnExactPaperText
set_option linter.unusedVariables false
set_option linter.unusedSimpArgs false
namespace Go.Proofs.Ytnhaacgkjebikaa.Pure
open Go.RowKit Go.Proofs.Ytnhaacgkjebikaa.PFnExactPaperText Go.Proofs.YtnhaacgkjebikaaW.PrintWords Go.Proofs.YtnhaacgkjebikaaW.PrintLast Go.Proofs.YtnhaacgkjebikaaW.PrintMore
open Go.Proofs.YtnhaacgkjebikaaX

theorem w64 {x : Int} (h0 : -9223372036854775808 ≤ x) (h1 : x ≤ 9223372036854775807) : wrap64 x = x := by unfold wrap64; omega
theorem Ev_ite {α : Type} {c : Prop} [Decidable c] {g h : Nat → Option α} {r : α} (h1 : c → Ev g r) (h2 : ¬ c → Ev h r) : Ev (fun k => if c then g k else h k) r := by
  by_cases hc : c
  · obtain ⟨K, hK⟩ := h1 hc
    exact ⟨K, fun k hk => (if_pos hc).trans (hK k hk)⟩
  · obtain ⟨K, hK⟩ := h2 hc
    exact ⟨K, fun k hk => (if_neg hc).trans (hK k hk)⟩
theorem Ev_pos {α : Type} {c : Prop} [Decidable c] {g h : Nat → Option α} {r : α} (hc : c) (h1 : Ev g r) : Ev (fun k => if c then g k else h k) r := Ev_ite (fun _ => h1) (fun n => absurd hc n)
theorem Ev_neg {α : Type} {c : Prop} [Decidable c] {g h : Nat → Option α} {r : α} (hc : ¬ c) (h1 : Ev h r) : Ev (fun k => if c then g k else h k) r := Ev_ite (fun n => absurd n hc) (fun _ => h1)
theorem Ev_some {α : Type} {r q : α} (h : r = q) : Ev (fun _ => some r) q := h ▸ Ev.now r
theorem Ev_eq {α : Type} {g : Nat → Option α} {r q : α} (h : r = q) (k : Ev g r) : Ev g q := h ▸ k
theorem Ev_const {α : Type} {o : Option α} {r : α} (h : o = some r) : Ev (fun _ => o) r := by subst h; exact Ev.now r
theorem Ev_bindc {α β : Type} {o : Option α} {f : Nat → α → Option β} {a : α} {r : β} (h : o = some a) (k : Ev (fun n => f n a) r) : Ev (fun n => o.bind (f n)) r := by subst h; exact k
theorem Ev_unique {α : Type} {g : Nat → Option α} {r q : α} (h : Ev g r) (k : Ev g q) : r = q := by
  obtain ⟨K, h⟩ := h
  obtain ⟨L, k⟩ := k
  have h1 := h (max K L) (by omega)
  have h2 := k (max K L) (by omega)
  rw [h1] at h2
  exact Option.some.inj h2
theorem lit64 {x : Int} (h : (Lit.int .i64 x).wf = true) : -9223372036854775808 ≤ x ∧ x ≤ 9223372036854775807 := by
  have h := h
  simp [Lit.wf, IntKind.min, IntKind.max, IntKind.bits, IntKind.signed] at h
  omega
theorem mn_eq (a b : Int) : mn a b = min a b := by unfold mn; omega
theorem mx_eq (a b : Int) : mx a b = max a b := by unfold mx; omega

/-- A loop over the numbers 0 to n - 1: d rounds from i on. -/
def forM {S ρ : Type} (step : S → Int → ρ ⊕ S) (out : S → ρ) : Nat → S → Int → ρ
  | 0, s, _ => out s
  | d + 1, s, i => match step s i with
    | .inl r => r
    | .inr s' => forM step out d s' (i + 1)
theorem Ev_for {S ρ : Type} {F : Nat → S → Int → Option ρ} {step : S → Int → ρ ⊕ S} {out : S → ρ} {n : Nat} (Inv : S → Int → Prop)
    (hend : ∀ s, Inv s n → ∃ K, ∀ k, K ≤ k → F k s n = some (out s))
    (hstep : ∀ (s : S) (i : Int), 0 ≤ i → i < n → Inv s i → (∃ r, step s i = .inl r ∧ ∃ K, ∀ k, K ≤ k → F k s i = some r) ∨ (∃ s', step s i = .inr s' ∧ Inv s' (i + 1) ∧ ∃ K, ∀ k, K ≤ k → F (k + 1) s i = F k s' (i + 1))) :
    ∀ (d : Nat) (s : S) (i : Int), 0 ≤ i → i + d = n → Inv s i → Ev (fun k => F k s i) (forM step out d s i) := by
  intro d
  induction d with
  | zero =>
    intro s i h0 h1 hI
    obtain rfl : i = n := by omega
    exact hend s hI
  | succ d ih =>
    intro s i h0 h1 hI
    rcases hstep s i h0 (by omega) hI with ⟨r, hr, hK⟩ | ⟨s', hs, hI', K, hK⟩
    · simp only [forM, hr]
      exact hK
    · simp only [forM, hs]
      obtain ⟨K', h⟩ := ih s' (i + 1) (by omega) (by omega) hI'
      refine ⟨K + K' + 1, fun k hk => ?_⟩
      obtain ⟨k, rfl⟩ : ∃ m, k = m + 1 := ⟨k - 1, by omega⟩
      exact (hK k (by omega)).trans (h k (by omega))
/-- What holds at the end of a loop. -/
theorem forM_ind {S ρ : Type} {step : S → Int → ρ ⊕ S} {out : S → ρ} {n : Nat} (Inv : S → Int → Prop) (Post : ρ → Prop) (hend : ∀ s, Inv s n → Post (out s))
    (hstep : ∀ (s : S) (i : Int), 0 ≤ i → i < n → Inv s i → (∀ r, step s i = .inl r → Post r) ∧ ∀ s', step s i = .inr s' → Inv s' (i + 1)) : ∀ (d : Nat) (s : S) (i : Int), 0 ≤ i → i + d = n → Inv s i → Post (forM step out d s i) := by
  intro d
  induction d with
  | zero =>
    intro s i h0 h1 hI
    obtain rfl : i = n := by omega
    exact hend s hI
  | succ d ih =>
    intro s i h0 h1 hI
    obtain ⟨h2, h3⟩ := hstep s i h0 (by omega) hI
    simp only [forM]
    cases hs : step s i with
    | inl r => exact h2 r hs
    | inr s' => exact ih s' (i + 1) (by omega) (by omega) (h3 s' hs)

theorem Ev_succ {α : Type} {g : Nat → Option α} {r : α} (h : Ev (fun k => g (k + 1)) r) : Ev g r := Ev.step (fun _ => rfl) h
theorem Ev_for2 {S ρ : Type} {F : Nat → S → Int → Option ρ} {step : S → Int → ρ ⊕ S} {out : S → ρ} {n : Nat} (Inv : S → Int → Prop)
    (hend : ∀ s, Inv s n → Ev (fun k => F k s n) (out s))
    (hstep : ∀ (s : S) (i : Int), 0 ≤ i → i < n → Inv s i → (∃ r, step s i = .inl r ∧ Ev (fun k => F k s i) r) ∨ (∃ s', step s i = .inr s' ∧ Inv s' (i + 1) ∧ ∀ r, Ev (fun k => F k s' (i + 1)) r → Ev (fun k => F k s i) r)) :
    ∀ (d : Nat) (s : S) (i : Int), 0 ≤ i → i + d = n → Inv s i → Ev (fun k => F k s i) (forM step out d s i) := by
  intro d
  induction d with
  | zero =>
    intro s i h0 h1 hI
    obtain rfl : i = n := by omega
    exact hend s hI
  | succ d ih =>
    intro s i h0 h1 hI
    rcases hstep s i h0 (by omega) hI with ⟨r, hr, hK⟩ | ⟨s', hs, hI', hK⟩
    · simp only [forM, hr]
      exact hK
    · simp only [forM, hs]
      exact hK _ (ih s' (i + 1) (by omega) (by omega) hI')
/-- A loop over a list that only gathers: a fold. -/
theorem forM_fold {S ρ α : Type} (xs : List α) (rdx : Int → α) (hrd : ∀ (j : Nat) (h : j < xs.length), rdx j = xs[j]) (upd : S → α → S) (out : S → ρ) (d : Nat) : ∀ (s : S) (i : Nat), i + d = xs.length →
    forM (ρ := ρ) (fun s i => .inr (upd s (rdx i))) out d s i = out ((xs.drop i).foldl upd s) := by
  induction d with
  | zero =>
    intro s i hi
    rw [List.drop_eq_nil_of_le (by omega)]
    rfl
  | succ d ih =>
    intro s i hi
    rw [List.drop_eq_getElem_cons (show i < xs.length by omega)]
    simp only [forM, List.foldl_cons]
    have := ih (upd s (rdx i)) (i + 1) (by omega)
    rw [← hrd i (by omega)]
    exact this
theorem forM_fold0 {S ρ α : Type} (xs : List α) (rdx : Int → α) (hrd : ∀ (j : Nat) (h : j < xs.length), rdx j = xs[j]) (upd : S → α → S) (out : S → ρ) (s : S) :
    forM (ρ := ρ) (fun s i => .inr (upd s (rdx i))) out xs.length s 0 = out (xs.foldl upd s) := by
  have := forM_fold xs rdx hrd upd out xs.length s 0 (by omega)
  rw [List.drop_zero] at this
  exact this
/-- A loop that looks at each place, and stops at the first that fails. -/
theorem forM_all {p : Int → Bool} {b : Bool} {n : Nat} (d : Nat) : ∀ i : Int, 0 ≤ i → i + d = n → (forM (S := Unit) (ρ := Bool) (fun _ i => if p i = true then .inr () else .inl false) (fun _ => b) d () i = true ↔ b = true ∧ ∀ j : Int, i ≤ j → j < n → p j = true) := by
  induction d with
  | zero =>
    intro i h0 hi
    simp only [forM]
    exact ⟨fun h => ⟨h, fun j h1 h2 => by omega⟩, fun h => h.1⟩
  | succ d ih =>
    intro i h0 hi
    simp only [forM]
    by_cases hp : p i = true
    · rw [if_pos hp]
      refine (ih (i + 1) (by omega) (by omega)).trans ⟨fun h => ⟨h.1, fun j h1 h2 => ?_⟩, fun h => ⟨h.1, fun j h1 h2 => h.2 j (by omega) h2⟩⟩
      by_cases hj : j = i
      · rw [hj]; exact hp
      · exact h.2 j (by omega) h2
    · rw [if_neg hp]
      exact ⟨(fun h => by cases h), fun h => absurd (h.2 i (Int.le_refl _) (by omega)) hp⟩

/-- A loop that never stops before its end. -/
def foldU {S : Type} (upd : S → Int → S) : Nat → S → Int → S
  | 0, s, _ => s
  | d + 1, s, i => foldU upd d (upd s i) (i + 1)
theorem foldU_ind {S : Type} {upd : S → Int → S} {n : Int} (Inv : S → Int → Prop) (hstep : ∀ (s : S) (i : Int), 0 ≤ i → i < n → Inv s i → Inv (upd s i) (i + 1)) : ∀ (d : Nat) (s : S) (i : Int), 0 ≤ i → i + d = n → Inv s i → Inv (foldU upd d s i) n := by
  intro d
  induction d with
  | zero => intro s i h0 h1 hI; obtain rfl : i = n := by omega
            exact hI
  | succ d ih => intro s i h0 h1 hI; exact ih _ _ (by omega) (by omega) (hstep s i h0 (by omega) hI)
theorem Ev_forK {S τ : Type} {F : Nat → S → Int → Option τ} {upd : S → Int → S} {n : Int} {r : τ} (Inv : S → Int → Prop)
    (hstep : ∀ (s : S) (i : Int), 0 ≤ i → i < n → Inv s i → Inv (upd s i) (i + 1) ∧ (Ev (fun k => F k (upd s i) (i + 1)) r → Ev (fun k => F k s i) r)) :
    ∀ (d : Nat) (s : S) (i : Int), 0 ≤ i → i + d = n → Inv s i → (Inv (foldU upd d s i) n → Ev (fun k => F k (foldU upd d s i) n) r) → Ev (fun k => F k s i) r := by
  intro d
  induction d with
  | zero => intro s i h0 h1 hI h; obtain rfl : i = n := by omega
            exact h hI
  | succ d ih =>
    intro s i h0 h1 hI h
    obtain ⟨h2, h3⟩ := hstep s i h0 (by omega) hI
    exact h3 (ih _ _ (by omega) (by omega) h2 h)

theorem Ev_allK {τ : Type} {F : Nat → Int → Option τ} {p : Int → Prop} {n : Int} {r bad : τ}
    (hstep : ∀ i : Int, 0 ≤ i → i < n → (p i → Ev (fun k => F k (i + 1)) r → Ev (fun k => F k i) r) ∧ (¬ p i → r = bad → Ev (fun k => F k i) r)) :
    ∀ (d : Nat) (i : Int), 0 ≤ i → i + d = n → (¬ (∀ j : Int, i ≤ j → j < n → p j) → r = bad) → ((∀ j : Int, i ≤ j → j < n → p j) → Ev (fun k => F k n) r) → Ev (fun k => F k i) r := by
  intro d
  induction d with
  | zero => intro i h0 h1 _ h; obtain rfl : i = n := by omega
            exact h (fun j h2 h3 => by omega)
  | succ d ih =>
    intro i h0 h1 hb hg
    obtain ⟨h2, h3⟩ := hstep i h0 (by omega)
    by_cases hp : p i
    · refine h2 hp (ih (i + 1) (by omega) (by omega) (fun h => hb (fun q => h (fun j h4 h5 => q j (by omega) h5))) (fun h => hg (fun j h4 h5 => ?_)))
      by_cases hj : j = i
      · rw [hj]; exact hp
      · exact h j (by omega) h5
    · exact h3 hp (hb (fun q => hp (q i (Int.le_refl _) (by omega))))

theorem within_eq (a lo hi : Int) : impl_within.f a lo hi = some (decide (lo ≤ a ∧ a ≤ hi)) := by
  unfold impl_within.f
  by_cases h : lo ≤ a <;> simp [h]

theorem l01In_eq (a lo hi : Int) : spec_l01In.f a lo hi = some (decide (lo ≤ a ∧ a ≤ hi)) := by
  unfold spec_l01In.f
  by_cases h : a ≥ lo
  · have : lo ≤ a := h
    simp [this]
  · have : ¬ lo ≤ a := h
    simp [this]

def WordOk (s : ByteArray) : Prop := (1 ≤ (s.size : Int) ∧ (s.size : Int) ≤ 16) ∧ ∀ i : Int, 0 ≤ i → i < s.size → ¬ bt s i < 97 ∧ ¬ bt s i > 122
noncomputable def wordB (s : ByteArray) : Bool := open Classical in decide (WordOk s)
theorem wordB_iff {s : ByteArray} : wordB s = true ↔ WordOk s := by unfold wordB; exact @decide_eq_true_iff _ (Classical.propDecidable _)
theorem wordB_no {s : ByteArray} (h : ¬ WordOk s) : wordB s = false := by rw [Bool.eq_false_iff]; exact fun q => h (wordB_iff.1 q)
theorem spec_IsWord_ev (s : ByteArray) (hs : s.size ≤ maxLen) : Ev (fun k => spec_IsWord.f k s) (wordB s) := by
  have hm : s.size ≤ 9223372036854775807 := hs
  unfold spec_IsWord.f
  refine Ev_allK (F := fun k i => spec_IsWord.l0 k s i) (p := fun i => ¬ bt s i < 97 ∧ ¬ bt s i > 122) (n := s.size) (bad := false) (fun i h0 h1 => ⟨fun hp hr => Ev_succ (by
    simp only [spec_IsWord.l0]
    rw [w64 (by omega) (by omega)]
    exact Ev_pos h1 (Ev_pos h0 (Ev_neg hp.1 (Ev_neg hp.2 hr)))), fun hp hr => Ev_succ (by
    simp only [spec_IsWord.l0]
    exact Ev_pos h1 (Ev_pos h0 (Ev_ite (fun _ => Ev_some hr.symm) (fun ha => Ev_ite (fun _ => Ev_some hr.symm) (fun hb => absurd ⟨ha, hb⟩ hp)))))⟩) s.size 0 (by omega) (by omega) (fun hno => wordB_no (fun q => hno q.2)) (fun hv => Ev_succ (by
    simp only [spec_IsWord.l0, l01In_eq, Option.bind_some]
    refine Ev_neg (by omega) (Ev_some ?_)
    by_cases hz : 1 ≤ (s.size : Int) ∧ (s.size : Int) ≤ 16
    · rw [decide_eq_true hz]; exact (wordB_iff.2 ⟨hz, hv⟩).symm
    · rw [decide_eq_false hz]; exact (wordB_no (fun q => hz q.1)).symm))
theorem impl_IsWord_ev (s : ByteArray) : Ev (fun k => impl_IsWord.f k s) (wordB s) := by
  unfold impl_IsWord.f
  have hj : ∀ r, r = false → Ev (fun k => impl_IsWord.j0 k s true) r := fun r h => Ev_succ (by
    simp only [impl_IsWord.j0, if_true]
    exact Ev_some h.symm)
  refine Ev_ite (fun h => hj _ (wordB_no (fun q => absurd q.1.1 (by omega)))) (fun h => ?_)
  by_cases h2 : (s.size : Int) > 16
  · rw [decide_eq_true h2]
    exact hj _ (wordB_no (fun q => absurd q.1.2 (by omega)))
  · rw [decide_eq_false h2]
    refine Ev_succ (by
      simp only [impl_IsWord.j0, Bool.false_eq_true, if_false]
      exact Ev_allK (F := fun k i => impl_IsWord.l0 k s i) (p := fun i => ¬ bt s i < 97 ∧ ¬ bt s i > 122) (n := s.size) (bad := false) (fun i h0 h1 => ⟨fun hp hr => Ev_succ (by
        simp only [impl_IsWord.l0]
        rw [w64 (by omega) (by omega)]
        exact Ev_pos h1 (Ev_pos h0 (Ev_neg hp.1 (Ev_neg hp.2 hr)))), fun hp hr => Ev_succ (by
        simp only [impl_IsWord.l0]
        exact Ev_pos h1 (Ev_pos h0 (Ev_ite (fun _ => Ev_some hr.symm) (fun ha => Ev_ite (fun _ => Ev_some hr.symm) (fun hb => absurd ⟨ha, hb⟩ hp)))))⟩) s.size 0 (by omega) (by omega) (fun hno => wordB_no (fun q => hno q.2)) (fun hv => Ev_succ (by
        simp only [impl_IsWord.l0]
        exact Ev_neg (by omega) (Ev_some (wordB_iff.2 ⟨⟨by omega, by omega⟩, hv⟩).symm))))

theorem rdLine_mem {xs : List S38} {i : Int} (h0 : 0 ≤ i) (h1 : i < xs.length) : rd_T38 xs i ∈ xs := by
  have : rd_T38 xs i = xs[i.toNat]'(by omega) := by simp [rd_T38, List.getD_eq_getElem?_getD, List.getElem?_eq_getElem (show i.toNat < xs.length by omega)]
  rw [this]
  exact List.getElem_mem _
def LineOk (xs : List S38) (i : Int) : Prop := WordOk (rd_T38 xs i).f0 ∧ (1 ≤ (rd_T38 xs i).f1 ∧ (rd_T38 xs i).f1 ≤ 1000) ∧ (0 < i → Op.bytesLess (rd_T38 xs (i - 1)).f0.toList (rd_T38 xs i).f0.toList = true)
def LinesOk (xs : List S38) : Prop := (xs.length : Int) ≤ 12 ∧ ∀ i : Int, 0 ≤ i → i < xs.length → LineOk xs i
noncomputable def linesB (xs : List S38) : Bool := open Classical in decide (LinesOk xs)
theorem linesB_iff {xs : List S38} : linesB xs = true ↔ LinesOk xs := by unfold linesB; exact @decide_eq_true_iff _ (Classical.propDecidable _)
theorem linesB_no {xs : List S38} (h : ¬ LinesOk xs) : linesB xs = false := by rw [Bool.eq_false_iff]; exact fun q => h (linesB_iff.1 q)
def PaperOk (v : ByteArray) (d : Int) (xs : List S38) : Prop := WordOk v ∧ (0 ≤ d ∧ d ≤ 100000) ∧ (xs.length : Int) ≤ 12 ∧ ∀ i : Int, 0 ≤ i → i < xs.length → LineOk xs i
noncomputable def paperB (v : ByteArray) (d : Int) (xs : List S38) : Bool := open Classical in decide (PaperOk v d xs)
theorem paperB_iff {v : ByteArray} {d : Int} {xs : List S38} : paperB v d xs = true ↔ PaperOk v d xs := by unfold paperB; exact @decide_eq_true_iff _ (Classical.propDecidable _)
theorem paperB_no {v : ByteArray} {d : Int} {xs : List S38} (h : ¬ PaperOk v d xs) : paperB v d xs = false := by rw [Bool.eq_false_iff]; exact fun q => h (paperB_iff.1 q)
theorem spec_IsPaper_ev (v : ByteArray) (hv : v.size ≤ maxLen) (d : Int) (xs : List S38) (hn : xs.length ≤ 1000000) (hs : ∀ x ∈ xs, x.f0.size ≤ maxLen) : Ev (fun k => spec_IsPaper.f k v d xs) (paperB v d xs) := by
  unfold spec_IsPaper.f
  refine Ev_allK (F := fun k i => spec_IsPaper.l0 k i v d xs) (p := LineOk xs) (n := xs.length) (bad := false) (fun i h0 h1 => ⟨fun hp hr => Ev_succ (by
    simp only [spec_IsPaper.l0]
    refine Ev_pos h1 (Ev_pos h0 (Ev.bind (spec_IsWord_ev _ (hs _ (rdLine_mem h0 h1))) ?_))
    rw [wordB_iff.2 hp.1, w64 (x := i + 1) (by omega) (by omega), w64 (x := i - 1) (by omega) (by omega)]
    simp only [l01In_eq, Option.bind_some, decide_eq_true_eq]
    exact Ev_pos (by trivial) (Ev_pos hp.2.1 (Ev_ite (fun hi => Ev_pos (by omega) (Ev_pos (by omega) (Ev_pos (hp.2.2 hi) hr))) (fun _ => hr)))), fun hp hr => Ev_succ (by
    simp only [spec_IsPaper.l0]
    refine Ev_pos h1 (Ev_pos h0 (Ev.bind (spec_IsWord_ev _ (hs _ (rdLine_mem h0 h1))) ?_))
    rw [w64 (x := i - 1) (by omega) (by omega)]
    simp only [l01In_eq, Option.bind_some, decide_eq_true_eq]
    exact Ev_ite (fun ha => Ev_ite (fun hb => Ev_ite (fun hi => Ev_pos (by omega) (Ev_pos (by omega) (Ev_neg (fun hc => hp ⟨wordB_iff.1 ha, hb, fun _ => hc⟩) (Ev_some hr.symm)))) (fun hi => absurd ⟨wordB_iff.1 ha, hb, fun q => absurd q hi⟩ hp)) (fun _ => Ev_some hr.symm)) (fun _ => Ev_some hr.symm))⟩) xs.length 0 (by omega) (by omega) (fun hno => paperB_no (fun q => hno q.2.2.2)) (fun hall => Ev_succ (by
    simp only [spec_IsPaper.l0]
    refine Ev_neg (by omega) (Ev.bind (spec_IsWord_ev v hv) ?_)
    simp only [l01In_eq, Option.bind_some, decide_eq_true_eq]
    by_cases h : WordOk v
    · rw [wordB_iff.2 h]
      refine Ev_pos (by trivial) (Ev_ite (fun hd => Ev_some ?_) (fun hd => Ev_some (paperB_no (fun q => hd q.2.1)).symm))
      by_cases hz : (xs.length : Int) ≤ 12
      · rw [decide_eq_true hz]; exact (paperB_iff.2 ⟨h, hd, hz, hall⟩).symm
      · rw [decide_eq_false hz]; exact (paperB_no (fun q => hz q.2.2.1)).symm
    · rw [wordB_no h]
      exact Ev_neg (by simp) (Ev_some (paperB_no (fun q => h q.1)).symm)))
theorem impl_areLines_ev (xs : List S38) : Ev (fun k => impl_areLines.f k xs) (linesB xs) := by
  unfold impl_areLines.f
  refine Ev_ite (fun h => Ev_some (linesB_no (fun q => absurd q.1 (by omega))).symm) (fun h => ?_)
  refine Ev_allK (F := fun k i => impl_areLines.l0 k xs xs (xs.length : Int) i) (p := LineOk xs) (n := xs.length) (bad := false) (fun i h0 h1 => ⟨fun hp hr => Ev_succ (by
    simp only [impl_areLines.l0]
    refine Ev_pos h1 (Ev_pos h0 (Ev_pos h1 (Ev.bind (impl_IsWord_ev _) ?_)))
    rw [wordB_iff.2 hp.1, w64 (x := i + 1) (by omega) (by omega), w64 (x := i - 1) (by omega) (by omega)]
    simp only [within_eq, Option.bind_some, decide_eq_true_eq]
    exact Ev_pos (by trivial) (Ev_pos hp.2.1 (Ev_ite (fun hi => Ev_pos (by omega) (Ev_pos (by omega) (Ev_pos (hp.2.2 hi) hr))) (fun _ => hr)))), fun hp hr => Ev_succ (by
    simp only [impl_areLines.l0]
    refine Ev_pos h1 (Ev_pos h0 (Ev_pos h1 (Ev.bind (impl_IsWord_ev _) ?_)))
    rw [w64 (x := i - 1) (by omega) (by omega)]
    simp only [within_eq, Option.bind_some, decide_eq_true_eq]
    exact Ev_ite (fun ha => Ev_ite (fun hb => Ev_ite (fun hi => Ev_pos (by omega) (Ev_pos (by omega) (Ev_neg (fun hc => hp ⟨wordB_iff.1 ha, hb, fun _ => hc⟩) (Ev_some hr.symm)))) (fun hi => absurd ⟨wordB_iff.1 ha, hb, fun q => absurd q hi⟩ hp)) (fun _ => Ev_some hr.symm)) (fun _ => Ev_some hr.symm))⟩) xs.length 0 (by omega) (by omega) (fun hno => linesB_no (fun q => hno q.2)) (fun hv => Ev_succ (by
    simp only [impl_areLines.l0]
    exact Ev_neg (by omega) (Ev_some (linesB_iff.2 ⟨by omega, hv⟩).symm)))
theorem impl_IsPaper_ev (v : ByteArray) (d : Int) (xs : List S38) : Ev (fun k => impl_IsPaper.f k v d xs) (paperB v d xs) := by
  unfold impl_IsPaper.f
  refine Ev.bind (impl_IsWord_ev v) (Ev_ite (fun ha => ?_) (fun ha => Ev_some (paperB_no (fun q => ha (wordB_iff.2 q.1))).symm))
  simp only [impl_isDay.f, within_eq, Option.bind_some, decide_eq_true_eq]
  refine Ev_ite (fun hd => Ev.bind (impl_areLines_ev xs) (Ev_some ?_)) (fun hd => Ev_some (paperB_no (fun q => hd q.2.1)).symm)
  by_cases h2 : LinesOk xs
  · rw [linesB_iff.2 h2, paperB_iff.2 ⟨wordB_iff.1 ha, hd, h2⟩]
  · rw [linesB_no h2, paperB_no (fun q => h2 q.2.2)]

/-- How much room to..S leaves behind a row of n elements. -/
def room (n : Nat) : Nat := if n % 6 = 5 then 0 else if n % 3 = 0 then 1 else n
theorem room_le (n : Nat) : room n ≤ n + 1 := by unfold room; split <;> (try split) <;> omega
theorem room_eq (n : Nat) (h : n ≤ 9223372036854775807) : laws_roomBehind.f (n : Int) = some (room n : Int) := by
  unfold laws_roomBehind.f room
  rw [Int.tmod_eq_emod_of_nonneg (by omega), Int.tmod_eq_emod_of_nonneg (by omega)]
  by_cases h1 : n % 6 = 5
  · rw [if_pos (by omega), if_pos h1]; rfl
  · rw [if_neg (by omega), if_neg h1]
    by_cases h2 : n % 3 = 0
    · rw [if_pos (by omega), if_pos h2]; rfl
    · rw [if_neg (by omega), if_neg h2]
theorem take_set_far {α : Type} (xs : List α) (y : α) {n m : Nat} (h : n ≤ m) : (xs.set m y).take n = xs.take n := by
  apply List.ext_getElem?
  intro i
  by_cases hi : i < n
  · rw [List.getElem?_take_of_lt hi, List.getElem?_take_of_lt hi, List.getElem?_set_ne (by omega)]
  · rw [List.getElem?_eq_none (by simp; omega), List.getElem?_eq_none (by simp; omega)]
theorem take_set_at {α : Type} (xs : List α) (y : α) {n : Nat} (h : n < xs.length) : (xs.set n y).take (n + 1) = xs.take n ++ [y] := by
  rw [List.take_succ_eq_append_getElem (by rw [List.length_set]; exact h), take_set_far xs y (Nat.le_refl n)]
  simp
theorem rooms {n : Nat} (h : n ≤ 1000000) : wrap64 ((n : Int) + (room n : Int)) = ((n + room n : Nat) : Int) := by
  have := room_le n
  rw [w64 (by omega) (by omega)]; omega

theorem str1 (n : Int) : (strOfNums [n]).size = 1 := rfl
theorem dec_both (e : Nat) : ∀ n : Int, 0 ≤ n → n < 10 ^ (e + 1) → n ≤ 4000000000000000000 → e ≤ 17 → ∃ t : ByteArray, t.size ≤ e + 1 ∧ Ev (fun k => spec_l01Dec.f k n) t ∧ ∀ tail : ByteArray, tail.size + e ≤ 100 → Ev (fun k => impl_decimal.l0 k n tail) (t ++ tail) := by
  induction e with
  | zero =>
    intro n h0 h1 _ _
    have h1 : n < 10 := by simpa using h1
    have hd : Int.tdiv n 10 = 0 := by rw [Int.tdiv_eq_ediv_of_nonneg h0]; omega
    have hm : Int.tmod n 10 = n := by rw [Int.tmod_eq_emod_of_nonneg h0]; omega
    refine ⟨strOfNums [(wrap64 (48 + n)) % 256], by rw [str1]; omega, Ev_succ (by simp only [spec_l01Dec.f]; exact Ev_pos h1 (Ev.now _)), fun tail ht => Ev_succ (by
      simp only [impl_decimal.l0, Option.bind_some, hd, hm]
      exact Ev_pos (by rw [str1]; omega) (Ev_pos (w64 (by omega) (by omega)) (Ev.now _)))⟩
  | succ e ih =>
    intro n h0 h1 hbig he
    by_cases hlt : n < 10
    · have hd : Int.tdiv n 10 = 0 := by rw [Int.tdiv_eq_ediv_of_nonneg h0]; omega
      have hm : Int.tmod n 10 = n := by rw [Int.tmod_eq_emod_of_nonneg h0]; omega
      refine ⟨strOfNums [(wrap64 (48 + n)) % 256], by rw [str1]; omega, Ev_succ (by simp only [spec_l01Dec.f]; exact Ev_pos hlt (Ev.now _)), fun tail ht => Ev_succ (by
        simp only [impl_decimal.l0, Option.bind_some, hd, hm]
        exact Ev_pos (by rw [str1]; omega) (Ev_pos (w64 (by omega) (by omega)) (Ev.now _)))⟩
    · have hp : (10 : Int) ^ (e + 1 + 1) = 10 ^ (e + 1) * 10 := Int.pow_succ ..
      have hd : Int.tdiv n 10 = n / 10 := Int.tdiv_eq_ediv_of_nonneg h0
      have hw : wrap64 (Int.tdiv n 10) = n / 10 := by rw [hd]; exact w64 (by omega) (by omega)
      obtain ⟨t, h2, h3, h4⟩ := ih (n / 10) (by omega) (by omega) (by omega) (by omega)
      refine ⟨t ++ strOfNums [(wrap64 (48 + (Int.tmod n 10))) % 256], by rw [ByteArray.size_append, str1]; omega, Ev_succ (by
        simp only [spec_l01Dec.f]
        refine Ev_neg hlt ?_
        rw [hw]
        refine Ev.bind h3 ?_
        simp only [Option.bind_some]
        exact Ev_pos (by rw [str1]; omega) (Ev.now _)), fun tail ht => Ev_succ (by
        simp only [impl_decimal.l0, Option.bind_some]
        refine Ev_pos (by rw [str1]; omega) ?_
        rw [hw]
        refine Ev_neg (by omega) ?_
        have := h4 (strOfNums [(wrap64 (48 + (Int.tmod n 10))) % 256] ++ tail) (by rw [ByteArray.size_append, str1]; omega)
        rw [ByteArray.append_assoc]
        exact this)⟩

theorem impl_dec {n : Int} (h0 : 0 ≤ n) (h1 : n < 1000000) : ∃ t : ByteArray, t.size ≤ 6 ∧ Ev (fun k => spec_l01Dec.f k n) t ∧ Ev (fun k => impl_decimal.f k n) t := by
  obtain ⟨t, h2, h3, h4⟩ := dec_both 5 n h0 (by omega) (by omega) (by omega)
  refine ⟨t, by omega, h3, Ev_succ (by
    simp only [impl_decimal.f]
    have := h4 ⟨#[]⟩ (by decide)
    rw [show t ++ (⟨#[]⟩ : ByteArray) = t from ByteArray.append_empty] at this
    exact Ev_neg (by omega) this)⟩
theorem text_loop {v : ByteArray} {d : Int} {xs : List S38} (h : PaperOk v d xs) (n : Nat) : ∀ (o : ByteArray) (i : Int), 0 ≤ i → i + n = xs.length → (o.size : Int) ≤ 100 * (i + 1) → ∃ r, Ev (fun k => spec_l29Text.l0 k o i v d xs) r ∧ Ev (fun k => impl_paperText.l0 k o xs (xs.length : Int) i) r := by
  induction n with
  | zero =>
    intro o i h0 h1 _
    exact ⟨o, Ev_succ (by simp only [spec_l29Text.l0]; exact Ev_neg (by omega) (Ev.now _)), Ev_succ (by simp only [impl_paperText.l0]; exact Ev_neg (by omega) (Ev.now _))⟩
  | succ n ih =>
    intro o i h0 h1 hs
    have hl := h.2.2.1
    obtain ⟨⟨⟨ha, hb⟩, _⟩, hc, _⟩ := h.2.2.2 i h0 (by omega)
    obtain ⟨t, h2, h3, h4⟩ := impl_dec (n := (rd_T38 xs i).f1) (by omega) (by omega)
    have e1 : (⟨#[59]⟩ : ByteArray).size = 1 := rfl
    have e2 : (⟨#[120]⟩ : ByteArray).size = 1 := rfl
    obtain ⟨r, h5, h6⟩ := ih ((((o ++ (⟨#[59]⟩ : ByteArray)) ++ t) ++ (⟨#[120]⟩ : ByteArray)) ++ (rd_T38 xs i).f0) (i + 1) (by omega) (by omega) (by simp only [ByteArray.size_append, e1, e2]; omega)
    refine ⟨r, Ev_succ (by
      simp only [spec_l29Text.l0]
      refine Ev_pos (by omega) (Ev_pos (by omega) (Ev_pos h0 (Ev.bind h3 (Ev_pos (by simp only [ByteArray.size_append, e1, e2]; omega) (Ev_pos (by simp only [ByteArray.size_append, e1, e2]; omega) (Ev_pos (by simp only [ByteArray.size_append, e1, e2]; omega) ?_))))))
      rw [w64 (by omega) (by omega)]
      exact h5), Ev_succ (by
      simp only [impl_paperText.l0]
      refine Ev_pos (by omega) (Ev_pos h0 (Ev_pos (by omega) (Ev.bind h4 (Ev_pos (by omega) (Ev_pos (by simp only [ByteArray.size_append, e1, e2]; omega) (Ev_pos (by simp only [ByteArray.size_append, e1, e2]; omega) (Ev_pos (by simp only [ByteArray.size_append, e1, e2]; omega) ?_)))))))
      rw [w64 (by omega) (by omega)]
      simp only [ByteArray.append_assoc] at h6 ⊢
      exact h6)⟩
theorem core_FnExactPaperText (v : ByteArray) (d : Int) (xs : List S38) (hn : xs.length ≤ 1000000) (hv : v.size ≤ maxLen) (_w : (Lit.int .i64 d).wf = true) (hs : ∀ x ∈ xs, x.f0.size ≤ maxLen) : ∃ r1 r2, Ev (fun k => spec_PaperText.f k v d xs) (r1, r2) ∧ Ev (fun k => impl_PaperText.f k v d xs) (r1, r2) := by
  have p1 := spec_IsPaper_ev v hv d xs hn hs
  have p2 := impl_IsPaper_ev v d xs
  unfold spec_PaperText.f impl_PaperText.f
  by_cases h : PaperOk v d xs
  · obtain ⟨t, h2, h3, h4⟩ := impl_dec (n := d) h.2.1.1 (by have := h.2.1.2; omega)
    have hvs := h.1.1.2
    have e1 : (⟨#[32]⟩ : ByteArray).size = 1 := rfl
    obtain ⟨r, h5, h6⟩ := text_loop h xs.length ((v ++ (⟨#[32]⟩ : ByteArray)) ++ t) 0 (by omega) (by omega) (by simp only [ByteArray.size_append, e1]; omega)
    refine ⟨r, 0, Ev.bind p1 (Ev_pos (paperB_iff.2 h) (Ev.bind ?_ (Ev.now _))), Ev.bind p2 (Ev_pos (paperB_iff.2 h) (Ev.bind ?_ (Ev.now _)))⟩
    · unfold spec_l29Text.f
      exact Ev_pos (by omega) (Ev.bind h3 (Ev_pos (by simp only [ByteArray.size_append, e1]; omega) h5))
    · unfold impl_paperText.f
      exact Ev_pos (by omega) (Ev.bind h4 (Ev_pos (by simp only [ByteArray.size_append, e1]; omega) h6))
  · exact ⟨_, 1, Ev.bind p1 (Ev_neg (fun q => h (paperB_iff.1 q)) (Ev.now _)), Ev.bind p2 (Ev_neg (fun q => h (paperB_iff.1 q)) (Ev.now _))⟩

theorem eqLineS_loop (xs : List S38) (hn : xs.length ≤ 9000000000000000000) (d : Nat) : ∀ (k : Nat) (i : Int), 0 ≤ i → i ≤ xs.length → ((xs.length : Int) - i).toNat ≤ d → d < k → laws_eqLineS.l0 k xs xs i = some true := by
  induction d with
  | zero =>
    intro k i h0 h1 hd hk
    obtain ⟨k, rfl⟩ : ∃ m, k = m + 1 := ⟨k - 1, by omega⟩
    simp only [laws_eqLineS.l0]
    rw [if_neg (by omega)]
  | succ d ih =>
    intro k i h0 h1 hd hk
    obtain ⟨k, rfl⟩ : ∃ m, k = m + 1 := ⟨k - 1, by omega⟩
    simp only [laws_eqLineS.l0]
    by_cases hlt : i < (xs.length : Int)
    · rw [if_pos hlt, if_pos h0, if_pos hlt]
      simp only [laws_eqLine.f, if_true, Option.bind_some]
      rw [w64 (by omega) (by omega)]
      exact ih k (i + 1) (by omega) (by omega) (by omega) (by omega)
    · rw [if_neg hlt]
theorem eqLineS_refl (xs : List S38) (hn : xs.length ≤ 9000000000000000000) : Ev (fun k => laws_eqLineS.f k xs xs) true :=
  ⟨xs.length + 1, fun k hk => by
    simp only [laws_eqLineS.f, if_true]
    exact eqLineS_loop xs hn xs.length k 0 (by omega) (by omega) (by omega) (by omega)⟩

theorem szLineS_l0 (l0 : List S46) (hs : ∀ x ∈ l0, x.f0.size ≤ maxLen) (hn : l0.length ≤ 1000000) (d : Nat) : ∀ (x1 i : Int), 0 ≤ i → i + d = l0.length → 0 ≤ x1 → x1 ≤ 1000000 → ∃ t, Ev (fun k => laws_szLineS.l0 k l0 x1 i) t ∧ (t < 0 ∨ 0 ≤ t ∧ t ≤ x1) := by
  induction d with
  | zero =>
    intro x1 i h0 h1 h2 h3
    exact ⟨x1, Ev_succ (by simp only [laws_szLineS.l0]; exact Ev_neg (by omega) (Ev.now _)), .inr ⟨h2, Int.le_refl _⟩⟩
  | succ d ih =>
    intro x1 i h0 h1 h2 h3
    have hr : rd_T46 l0 i = l0[i.toNat]'(by omega) := by simp [rd_T46, List.getD_eq_getElem?_getD, List.getElem?_eq_getElem (show i.toNat < l0.length by omega)]
    have hz : (rd_T46 l0 i).f0.size ≤ 9223372036854775807 := by rw [hr]; exact hs _ (List.getElem_mem _)
    have he : laws_szLine.f (rd_T46 l0 i).f0 (rd_T46 l0 i).f1 x1 = some (if x1 - ((rd_T46 l0 i).f0.size : Int) < 0 then -1 else x1 - ((rd_T46 l0 i).f0.size : Int)) := by
      unfold laws_szLine.f
      rw [w64 (by omega) (by omega)]
      split <;> rfl
    by_cases hc : x1 - ((rd_T46 l0 i).f0.size : Int) < 0
    · rw [if_pos hc] at he
      refine ⟨-1, Ev_succ (by
        simp only [laws_szLineS.l0]
        exact Ev_pos (by omega) (Ev_pos h0 (Ev_bindc he (Ev_pos (by decide) (Ev.now _))))), .inl (by decide)⟩
    · rw [if_neg hc] at he
      obtain ⟨t, h4, h5⟩ := ih (x1 - ((rd_T46 l0 i).f0.size : Int)) (i + 1) (by omega) (by omega) (by omega) (by omega)
      refine ⟨t, Ev_succ (by
        simp only [laws_szLineS.l0]
        refine Ev_pos (by omega) (Ev_pos h0 (Ev_bindc he (Ev_neg hc ?_)))
        rw [w64 (by omega) (by omega)]
        exact h4), by omega⟩
theorem szLineS_tells (l0 : List S46) (hs : ∀ x ∈ l0, x.f0.size ≤ maxLen) (b : Int) (h : -9223372036854775808 ≤ b - (l0.length : Int)) (hb : b ≤ 1000000) : ∃ t, Ev (fun k => laws_szLineS.f k l0 b) t ∧ (t < 0 ∨ 0 ≤ t ∧ t ≤ b - (l0.length : Int)) := by
  unfold laws_szLineS.f
  rw [w64 (by omega) (by omega)]
  by_cases hc : b - (l0.length : Int) < 0
  · exact ⟨-1, Ev_pos hc (Ev.now _), .inl (by decide)⟩
  · obtain ⟨t, h4, h5⟩ := szLineS_l0 l0 hs (by omega) l0.length (b - (l0.length : Int)) 0 (by omega) (by omega) (by omega) (by omega)
    exact ⟨t, Ev_neg hc h4, h5⟩

theorem szPaper_tells (v : ByteArray) (a : Int) (l0 : List S46) (hv : v.size ≤ maxLen) (hs : ∀ x ∈ l0, x.f0.size ≤ maxLen) (b : Int) (h : (l0.length : Int) ≤ 9223372036854775807) (hb : 0 ≤ b ∧ b ≤ 1000000) : ∃ t, Ev (fun k => laws_szPaper.f k v a l0 b) t ∧ (t < 0 ∨ 0 ≤ t ∧ t ≤ b - (v.size : Int) - (l0.length : Int)) := by
  have hm : v.size ≤ 9223372036854775807 := hv
  unfold laws_szPaper.f
  rw [w64 (by omega) (by omega)]
  by_cases hc : b - (v.size : Int) < 0
  · exact ⟨-1, Ev_pos hc (Ev.now _), .inl (by decide)⟩
  · obtain ⟨t, h4, h5⟩ := szLineS_tells l0 hs (b - (v.size : Int)) (by omega) (by omega)
    rcases h5 with h5 | h5
    · exact ⟨-1, Ev_neg hc (Ev.bind h4 (Ev_pos h5 (Ev.now _))), .inl (by decide)⟩
    · exact ⟨t, Ev_neg hc (Ev.bind h4 (Ev_neg (by omega) (Ev.now _))), .inr h5⟩

def convLineS (x : S46) : S38 := ⟨x.f0, x.f1⟩
theorem toLineS_l1 (l0 : List S46) (N : Nat) (hN : N ≤ 4000000) (hn : l0.length ≤ N) (d : Nat) : ∀ (k : Nat) (x5 : List S38) (i : Int), x5.length = N → (l0.length : Int) ≤ i → i ≤ N → ((N : Int) - i).toNat ≤ d → d < k →
    ∃ ext, laws_toLineSX.l1 k l0 x5 i = some ext ∧ ext.length = N ∧ ext.take l0.length = x5.take l0.length := by
  induction d with
  | zero =>
    intro k x5 i h1 h2 h3 hd hk
    obtain ⟨k, rfl⟩ : ∃ m, k = m + 1 := ⟨k - 1, by omega⟩
    refine ⟨x5, ?_, h1, rfl⟩
    simp only [laws_toLineSX.l1]
    rw [if_neg (by omega), if_pos (by omega), if_pos (by omega)]
  | succ d ih =>
    intro k x5 i h1 h2 h3 hd hk
    obtain ⟨k, rfl⟩ : ∃ m, k = m + 1 := ⟨k - 1, by omega⟩
    simp only [laws_toLineSX.l1]
    by_cases hlt : i < (x5.length : Int)
    · rw [if_pos hlt]
      simp only [laws_fillerLine.f, Option.bind_some]
      rw [if_pos (show 0 ≤ i by omega), w64 (by omega) (by omega)]
      refine (ih k _ (i + 1) (by rw [List.length_set]; exact h1) (by omega) (by omega) (by omega) (by omega)).imp fun ext h => ⟨h.1, h.2.1, h.2.2.trans ?_⟩
      exact take_set_far _ _ (by omega)
    · rw [if_neg hlt, if_pos (by omega), if_pos (by omega)]
      exact ⟨x5, rfl, h1, rfl⟩
theorem toLineS_l0 (l0 : List S46) (N : Nat) (hN : N ≤ 4000000) (hn : l0.length ≤ N) (d : Nat) : ∀ (k : Nat) (x5 : List S38) (i : Int), x5.length = N → 0 ≤ i → i ≤ l0.length → ((l0.length : Int) - i).toNat ≤ d → d + N + 1 < k → x5.take i.toNat = (l0.take i.toNat).map convLineS →
    ∃ ext, laws_toLineSX.l0 k l0 x5 i = some ext ∧ ext.length = N ∧ ext.take l0.length = l0.map convLineS := by
  induction d with
  | zero =>
    intro k x5 i h1 h2 h3 hd hk hx
    obtain ⟨k, rfl⟩ : ∃ m, k = m + 1 := ⟨k - 1, by omega⟩
    simp only [laws_toLineSX.l0]
    rw [if_neg (by omega)]
    obtain ⟨ext, h4, h5, h6⟩ := toLineS_l1 l0 N hN hn N k x5 (l0.length : Int) h1 (by omega) (by omega) (by omega) (by omega)
    refine ⟨ext, h4, h5, h6.trans ?_⟩
    have : i.toNat = l0.length := by omega
    rw [this, List.take_length] at hx
    exact hx
  | succ d ih =>
    intro k x5 i h1 h2 h3 hd hk hx
    obtain ⟨k, rfl⟩ : ∃ m, k = m + 1 := ⟨k - 1, by omega⟩
    simp only [laws_toLineSX.l0]
    by_cases hlt : i < (l0.length : Int)
    · rw [if_pos hlt, if_pos h2]
      simp only [laws_toLine.f, Option.bind_some]
      rw [if_pos (show i < (x5.length : Int) by omega), w64 (by omega) (by omega)]
      refine ih k _ (i + 1) (by rw [List.length_set]; exact h1) (by omega) (by omega) (by omega) (by omega) ?_
      have e : (i + 1).toNat = i.toNat + 1 := by omega
      rw [e, take_set_at _ _ (show i.toNat < x5.length by omega), hx, List.take_succ_eq_append_getElem (show i.toNat < l0.length by omega), List.map_append]
      have hr : rd_T46 l0 i = l0[i.toNat]'(by omega) := by
        simp [rd_T46, List.getD_eq_getElem?_getD, List.getElem?_eq_getElem (show i.toNat < l0.length by omega)]
      simp [hr, convLineS]
    · rw [if_neg hlt]
      obtain ⟨ext, h4, h5, h6⟩ := toLineS_l1 l0 N hN hn N k x5 (l0.length : Int) h1 (by omega) (by omega) (by omega) (by omega)
      refine ⟨ext, h4, h5, h6.trans ?_⟩
      have : i.toNat = l0.length := by omega
      rw [this, List.take_length] at hx
      exact hx
theorem toLineS_false (l0 : List S46) (h : l0.length ≤ 1000000) : ∃ ext, Ev (fun k => laws_toLineSX.f k l0 false) ext ∧ ext.length = l0.length + room l0.length ∧ ext.take l0.length = l0.map convLineS := by
  have hr := room_le l0.length
  obtain ⟨k0, hk0⟩ : ∃ k0 : Nat, l0.length + (l0.length + room l0.length) + 1 < k0 := ⟨_, Nat.lt_succ_self _⟩
  obtain ⟨ext, h1, h2, h3⟩ := toLineS_l0 l0 (l0.length + room l0.length) (by omega) (by omega) l0.length k0 (List.replicate (l0.length + room l0.length) z38) 0 (by simp) (by omega) (by omega) (by omega) hk0 (by simp)
  have hm := laws_toLineSX.mono l0 false
  refine ⟨ext, Ev.of (k := k0 + 1) hm ?_, h2, h3⟩
  have e : wrap64 ((l0.length : Int) + (room l0.length : Int)) = ((l0.length + room l0.length : Nat) : Int) := by
    rw [w64 (by omega) (by omega)]; omega
  simp only [laws_toLineSX.f, laws_toLineSX.j0, Bool.false_eq_true, if_false]
  rw [room_eq l0.length (by omega), Option.bind_some, e, if_pos (by omega), Int.toNat_natCast, if_pos (by omega)]
  exact h1
theorem toLineS_true (l0 : List S46) (h : l0.length ≤ 1000000) : ∃ extb, Ev (fun k => laws_toLineSX.f k l0 true) extb ∧ l0.length ≤ extb.length ∧ extb.take l0.length = l0.map convLineS ∧ (extb = [] → l0.length = 0) := by
  by_cases hz : l0.length = 0
  · have : l0 = [] := List.eq_nil_of_length_eq_zero hz
    subst this
    refine ⟨[], ⟨1, fun k hk => ?_⟩, by simp, by simp, fun _ => rfl⟩
    obtain ⟨k, rfl⟩ : ∃ m, k = m + 1 := ⟨k - 1, by omega⟩
    simp [laws_toLineSX.f, laws_toLineSX.j0]
  · obtain ⟨ext, h1, h2, h3⟩ := toLineS_false l0 h
    refine ⟨ext, Ev.congr (fun k => ?_) h1, by omega, h3, fun e => by rw [e] at h2; simp at h2; omega⟩
    have e : ((l0.length : Int) == 0) = false := by simpa using hz
    simp only [laws_toLineSX.f, e, Bool.false_eq_true, if_false, if_true]

theorem FnExactPaperText : laws_FnExactPaperText.Pure := by
  intro a0_0 a0_1 l0_2 hnl0_2 wa0_0 wa0_1 wsl0_2
  have hma0_0 : a0_0.size ≤ 9223372036854775807 := wa0_0
  obtain ⟨t_1, zz1, hz1⟩ := szPaper_tells a0_0 a0_1 l0_2 wa0_0 wsl0_2 1000000 (by omega) (by omega)
  by_cases hs1 : t_1 < 0
  case pos =>
    obtain ⟨K1_, y1_⟩ := zz1
    exact .inl ⟨(K1_), t_1, y1_ (K1_) (by omega), decide_eq_true hs1⟩
  refine .inr (?_)
  have hb0_2 : l0_2.length ≤ 1000000 := by omega
  have hm0_2 := room_le l0_2.length
  obtain ⟨ext0_2, e0_2, el0_2, et0_2⟩ := toLineS_false l0_2 hb0_2
  obtain ⟨extb0_2, b0_2, bl0_2, bt0_2, bn0_2⟩ := toLineS_true l0_2 hb0_2
  have q0_2 := eqLineS_refl ext0_2 (by omega)
  obtain ⟨z_r1, z_r2, s1, s2⟩ := core_FnExactPaperText a0_0 a0_1 (l0_2.map convLineS) (by rw [List.length_map]; exact hb0_2) wa0_0 wa0_1 (fun x hx => by obtain ⟨y, hy, rfl⟩ := List.mem_map.1 hx; exact wsl0_2 y hy)
  obtain ⟨K0_, v_zz1⟩ := zz1
  obtain ⟨K1_, v_e0_2⟩ := e0_2
  obtain ⟨K2_, v_b0_2⟩ := b0_2
  obtain ⟨K3_, v_q0_2⟩ := q0_2
  obtain ⟨K4_, v_s1⟩ := s1
  obtain ⟨K5_, v_s2⟩ := s2
  refine ⟨K0_ + K1_ + K2_ + K3_ + K4_ + K5_, (l0_2.map convLineS), ext0_2, extb0_2, (room l0_2.length : Int), t_1, z_r1, z_r2, ?_⟩
  exact { hto0_2 := v_e0_2 (K0_ + K1_ + K2_ + K3_ + K4_ + K5_) (by omega), htob0_2 := v_b0_2 (K0_ + K1_ + K2_ + K3_ + K4_ + K5_) (by omega), hxl0_2 := List.length_map .., hnb0_2 := bn0_2, hne0_2 := fun h => by rw [h] at el0_2; simp at el0_2; unfold room at el0_2; split at el0_2 <;> (try split at el0_2) <;> omega, hxe0_2 := by rw [List.length_map]; exact et0_2.symm, hxb0_2 := by rw [List.length_map]; exact bt0_2.symm, hle0_2 := by rw [List.length_map]; omega, hlb0_2 := by rw [List.length_map]; exact bl0_2, hrm0_2 := by rw [List.length_map]; exact room_eq _ (by omega), hj0_2 := by rw [List.length_map, el0_2]; exact rooms hb0_2, heqx0_2 := v_q0_2 (K0_ + K1_ + K2_ + K3_ + K4_ + K5_) (by omega), hz1 := v_zz1 (K0_ + K1_ + K2_ + K3_ + K4_ + K5_) (by omega), hn1 := decide_eq_false (by omega), hfspec := v_s1 (K0_ + K1_ + K2_ + K3_ + K4_ + K5_) (by omega), hfimpl := v_s2 (K0_ + K1_ + K2_ + K3_ + K4_ + K5_) (by omega) }

end Go.Proofs.Ytnhaacgkjebikaa.Pure
