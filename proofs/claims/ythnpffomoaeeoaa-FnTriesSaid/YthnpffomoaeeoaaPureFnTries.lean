/- The statement over numbers and lists for FnTries: the reference and the program answer alike for all arguments. -/
import Derived.Test.YthnpffomoaeeoaaQFnTriesx12
set_option linter.unusedVariables false
set_option linter.unusedSimpArgs false
namespace Go.Proofs.Ythnpffomoaeeoaa.Pure
open Go.RowKit Go.Proofs.Ythnpffomoaeeoaa.PFnTries Go.Proofs.YthnpffomoaeeoaaW.PrintWords Go.Proofs.YthnpffomoaeeoaaW.PrintLast Go.Proofs.YthnpffomoaeeoaaW.PrintMore


theorem w64 {x : Int} (h0 : -9223372036854775808 ≤ x) (h1 : x ≤ 9223372036854775807) : wrap64 x = x := by unfold wrap64; omega
theorem Ev_ite {α : Type} {c : Prop} [Decidable c] {g h : Nat → Option α} {r : α} (h1 : c → Ev g r) (h2 : ¬ c → Ev h r) : Ev (fun k => if c then g k else h k) r := by
  by_cases hc : c
  · obtain ⟨K, hK⟩ := h1 hc
    exact ⟨K, fun k hk => (if_pos hc).trans (hK k hk)⟩
  · obtain ⟨K, hK⟩ := h2 hc
    exact ⟨K, fun k hk => (if_neg hc).trans (hK k hk)⟩
theorem Ev_pos {α : Type} {c : Prop} [Decidable c] {g h : Nat → Option α} {r : α} (hc : c) (h1 : Ev g r) : Ev (fun k => if c then g k else h k) r := Ev_ite (fun _ => h1) (fun n => absurd hc n)
theorem Ev_neg {α : Type} {c : Prop} [Decidable c] {g h : Nat → Option α} {r : α} (hc : ¬ c) (h1 : Ev h r) : Ev (fun k => if c then g k else h k) r := Ev_ite (fun n => absurd n hc) (fun _ => h1)
theorem Ev_some {α : Type} {r q : α} (h : r = q) : Ev (fun _ => some r) q := h ▸ Ev.now r
theorem Ev_eq {α : Type} {g : Nat → Option α} {r q : α} (h : r = q) (k : Ev g r) : Ev g q := h ▸ k
theorem Ev_const {α : Type} {o : Option α} {r : α} (h : o = some r) : Ev (fun _ => o) r := by subst h; exact Ev.now r
theorem Ev_bindc {α β : Type} {o : Option α} {f : Nat → α → Option β} {a : α} {r : β} (h : o = some a) (k : Ev (fun n => f n a) r) : Ev (fun n => o.bind (f n)) r := by subst h; exact k
theorem Ev_unique {α : Type} {g : Nat → Option α} {r q : α} (h : Ev g r) (k : Ev g q) : r = q := by
  obtain ⟨K, h⟩ := h
  obtain ⟨L, k⟩ := k
  have h1 := h (max K L) (by omega)
  have h2 := k (max K L) (by omega)
  rw [h1] at h2
  exact Option.some.inj h2
theorem lit64 {x : Int} (h : (Lit.int .i64 x).wf = true) : -9223372036854775808 ≤ x ∧ x ≤ 9223372036854775807 := by
  have h := h
  simp [Lit.wf, IntKind.min, IntKind.max, IntKind.bits, IntKind.signed] at h
  omega
theorem mn_eq (a b : Int) : mn a b = min a b := by unfold mn; omega
theorem mx_eq (a b : Int) : mx a b = max a b := by unfold mx; omega

/-- A loop over the numbers 0 to n - 1: d rounds from i on. -/
def forM {S ρ : Type} (step : S → Int → ρ ⊕ S) (out : S → ρ) : Nat → S → Int → ρ
  | 0, s, _ => out s
  | d + 1, s, i => match step s i with
    | .inl r => r
    | .inr s' => forM step out d s' (i + 1)
theorem Ev_for {S ρ : Type} {F : Nat → S → Int → Option ρ} {step : S → Int → ρ ⊕ S} {out : S → ρ} {n : Nat} (Inv : S → Int → Prop)
    (hend : ∀ s, Inv s n → ∃ K, ∀ k, K ≤ k → F k s n = some (out s))
    (hstep : ∀ (s : S) (i : Int), 0 ≤ i → i < n → Inv s i → (∃ r, step s i = .inl r ∧ ∃ K, ∀ k, K ≤ k → F k s i = some r) ∨ (∃ s', step s i = .inr s' ∧ Inv s' (i + 1) ∧ ∃ K, ∀ k, K ≤ k → F (k + 1) s i = F k s' (i + 1))) :
    ∀ (d : Nat) (s : S) (i : Int), 0 ≤ i → i + d = n → Inv s i → Ev (fun k => F k s i) (forM step out d s i) := by
  intro d
  induction d with
  | zero =>
    intro s i h0 h1 hI
    obtain rfl : i = n := by omega
    exact hend s hI
  | succ d ih =>
    intro s i h0 h1 hI
    rcases hstep s i h0 (by omega) hI with ⟨r, hr, hK⟩ | ⟨s', hs, hI', K, hK⟩
    · simp only [forM, hr]
      exact hK
    · simp only [forM, hs]
      obtain ⟨K', h⟩ := ih s' (i + 1) (by omega) (by omega) hI'
      refine ⟨K + K' + 1, fun k hk => ?_⟩
      obtain ⟨k, rfl⟩ : ∃ m, k = m + 1 := ⟨k - 1, by omega⟩
      exact (hK k (by omega)).trans (h k (by omega))
/-- What holds at the end of a loop. -/
theorem forM_ind {S ρ : Type} {step : S → Int → ρ ⊕ S} {out : S → ρ} {n : Nat} (Inv : S → Int → Prop) (Post : ρ → Prop) (hend : ∀ s, Inv s n → Post (out s))
    (hstep : ∀ (s : S) (i : Int), 0 ≤ i → i < n → Inv s i → (∀ r, step s i = .inl r → Post r) ∧ ∀ s', step s i = .inr s' → Inv s' (i + 1)) : ∀ (d : Nat) (s : S) (i : Int), 0 ≤ i → i + d = n → Inv s i → Post (forM step out d s i) := by
  intro d
  induction d with
  | zero =>
    intro s i h0 h1 hI
    obtain rfl : i = n := by omega
    exact hend s hI
  | succ d ih =>
    intro s i h0 h1 hI
    obtain ⟨h2, h3⟩ := hstep s i h0 (by omega) hI
    simp only [forM]
    cases hs : step s i with
    | inl r => exact h2 r hs
    | inr s' => exact ih s' (i + 1) (by omega) (by omega) (h3 s' hs)

/-- The source of the draws: the code's bytes, the place in it, the seed. -/
def Rd (c : List Int) (i seed : Int) : Prop := (∀ b ∈ c, 0 ≤ b ∧ b ≤ 255) ∧ c.length ≤ 4096 ∧ 0 ≤ i ∧ i ≤ c.length ∧ 0 ≤ seed ∧ seed < 2147483647
theorem rd_byte {c : List Int} (hc : ∀ b ∈ c, 0 ≤ b ∧ b ≤ 255) (i : Int) : 0 ≤ rd c i ∧ rd c i ≤ 255 := by
  unfold rd
  by_cases h : i.toNat < c.length
  · rw [List.getD_eq_getElem?_getD, List.getElem?_eq_getElem h]
    exact hc _ (List.getElem_mem h)
  · rw [List.getD_eq_getElem?_getD, List.getElem?_eq_none (by omega)]
    simp
theorem next_tells {c : List Int} {i seed : Int} (hr : Rd c i seed) (n : Int) (hn : n ≤ 4000000000000000000) : ∃ x i' s', spec_l01Next.f c i seed n = some (x, i', s') ∧ Rd c i' s' ∧ 0 ≤ x ∧ (1 ≤ n → x < n) := by
  obtain ⟨hc, hl, h0, h1, h2, h3⟩ := hr
  have e1 : wrap64 (wrap64 (seed * 48271) + 29) = seed * 48271 + 29 := by rw [w64 (x := seed * 48271) (by omega) (by omega), w64 (by omega) (by omega)]
  have e2 : Int.tmod (seed * 48271 + 29) 2147483647 = (seed * 48271 + 29) % 2147483647 := Int.tmod_eq_emod_of_nonneg (by omega)
  obtain ⟨s1, hs1⟩ : ∃ s1, s1 = (seed * 48271 + 29) % 2147483647 := ⟨_, rfl⟩
  have b0 : 0 ≤ s1 ∧ s1 < 2147483647 := by omega
  have e3 : wrap64 (Int.tdiv s1 31) = s1 / 31 := by
    rw [Int.tdiv_eq_ediv_of_nonneg b0.1]; exact w64 (by omega) (by omega)
  unfold spec_l01Next.f
  rw [e1, e2, ← hs1, e3]
  by_cases hn1 : n ≤ 1
  · rw [if_pos hn1]
    exact ⟨0, i, seed, rfl, ⟨hc, hl, h0, h1, h2, h3⟩, by omega, by omega⟩
  · rw [if_neg hn1]
    have hm : ∀ x : Int, 0 ≤ x → 0 ≤ Int.tmod x n ∧ Int.tmod x n < n := fun x hx => by
      rw [Int.tmod_eq_emod_of_nonneg hx]
      exact ⟨Int.emod_nonneg x (by omega), Int.emod_lt_of_pos x (by omega)⟩
    by_cases hi : i < (c.length : Int)
    · have hb := rd_byte hc i
      have w1 : wrap64 (i + 1) = i + 1 := w64 (by omega) (by omega)
      have w2 : wrap64 (i + 1 - 1) = i := by rw [w64 (by omega) (by omega)]; omega
      have w3 : wrap64 (rd c i) = rd c i := w64 (by omega) (by omega)
      have w4 : wrap64 (s1 / 31 + rd c i) = s1 / 31 + rd c i := w64 (by omega) (by omega)
      rw [if_pos hi, if_pos h0, w1, w2, w3, w4]
      have r1 := hm (rd c i) hb.1
      have r2 := hm (s1 / 31 + rd c i) (by omega)
      have hR : Rd c (i + 1) s1 := ⟨hc, hl, by omega, by omega, b0.1, b0.2⟩
      by_cases h256 : n ≤ 256
      · rw [if_pos h256]
        by_cases ht : Int.tmod (i + 1) 2 = 0
        · rw [if_pos ht, if_pos h0, if_pos hi, if_neg (by omega)]
          exact ⟨_, _, _, rfl, hR, r1.1, fun _ => r1.2⟩
        · rw [if_neg ht, if_neg (by omega)]
          exact ⟨_, _, _, rfl, hR, r2.1, fun _ => r2.2⟩
      · rw [if_neg h256, if_neg (by omega)]
        exact ⟨_, _, _, rfl, hR, r2.1, fun _ => r2.2⟩
    · have r3 := hm (s1 / 31) (by omega)
      rw [if_neg hi, if_neg (by omega)]
      exact ⟨_, _, _, rfl, ⟨hc, hl, h0, h1, b0.1, b0.2⟩, r3.1, fun _ => r3.2⟩
theorem from_tells (c : List Int) (hc : ∀ b ∈ c, 0 ≤ b ∧ b ≤ 255) (hl : c.length ≤ 4096) : ∃ seed, Ev (fun k => spec_l01From.f k c) (c, 0, seed) ∧ Rd c 0 seed := by
  have h := Ev_for (F := fun k s i => spec_l01From.l0 k c i c 0 s) (step := fun s i => if i < 64 then .inr ((s * 83 + rd c i) % 2147483647) else .inl (c, 0, s)) (out := fun s => (c, 0, s)) (n := c.length) (fun s i => 0 ≤ s ∧ s < 2147483647)
    (fun s hI => ⟨1, fun k hk => by
      obtain ⟨k, rfl⟩ : ∃ m, k = m + 1 := ⟨k - 1, by omega⟩
      simp only [spec_l01From.l0]
      rw [if_neg (by omega)]⟩)
    (fun s i h0 h1 hI => by
      have hb := rd_byte hc i
      by_cases h64 : i < 64
      · refine .inr ⟨_, if_pos h64, by omega, 0, fun k _ => ?_⟩
        simp only [spec_l01From.l0]
        rw [if_pos h1, if_pos h64, if_pos h0, w64 (x := i + 1) (by omega) (by omega), w64 (x := s * 83) (by omega) (by omega), w64 (x := rd c i) (by omega) (by omega), w64 (by omega) (by omega), Int.tmod_eq_emod_of_nonneg (by omega)]
      · refine .inl ⟨_, if_neg h64, 1, fun k hk => ?_⟩
        obtain ⟨k, rfl⟩ : ∃ m, k = m + 1 := ⟨k - 1, by omega⟩
        simp only [spec_l01From.l0]
        rw [if_pos h1, if_neg h64]) c.length 61043 0 (by omega) (by omega) (by omega)
  have h2 := forM_ind (step := fun s i => if i < 64 then .inr ((s * 83 + rd c i) % 2147483647) else .inl (c, 0, s)) (out := fun s => (c, (0 : Int), s)) (n := c.length) (fun s _ => 0 ≤ s ∧ s < 2147483647) (fun r => ∃ s, r = (c, (0 : Int), s) ∧ 0 ≤ s ∧ s < 2147483647) (fun s hI => ⟨s, rfl, hI⟩)
    (fun s i h0 h1 hI => ⟨fun r hr => by
        split at hr
        · cases hr
        · injection hr with hr
          exact ⟨s, hr.symm, hI⟩, fun s' hr => by
        split at hr
        · injection hr with hr
          omega
        · cases hr⟩) c.length 61043 0 (by omega) (by omega) (by omega)
  obtain ⟨s, hs, hb⟩ := h2
  refine ⟨s, ?_, hc, hl, by omega, by omega, hb.1, hb.2⟩
  rw [hs] at h
  exact h
/-- What a statement over a code knows of its bytes. -/
theorem bytes_of {c : List Int} (h : ∀ x ∈ c, (Lit.int .u8 x).wf = true) : ∀ b ∈ c, 0 ≤ b ∧ b ≤ 255 := fun b hb => by
  have h := h b hb
  simp [Lit.wf, IntKind.min, IntKind.max, IntKind.bits, IntKind.signed] at h
  omega
theorem big_eq (c : List Int) : laws_big.f c = some (decide (c.length > 4096)) := by
  unfold laws_big.f
  congr 1
  rw [decide_eq_decide]
  omega

theorem pick_tells {c : List Int} {i seed : Int} (hr : Rd c i seed) (l : List Int) (h0 : 0 < l.length) (hl : l.length ≤ 1000) : ∃ x i' s', spec_l01Pick.f c i seed l = some (x, i', s') ∧ Rd c i' s' ∧ x ∈ l := by
  obtain ⟨x, i', s', h1, h2, h3, h4⟩ := next_tells hr (l.length : Int) (by omega)
  have h4 := h4 (by omega)
  unfold spec_l01Pick.f
  rw [h1]
  simp only [Option.bind_some]
  rw [if_pos h3, if_pos h4]
  refine ⟨_, _, _, rfl, h2, ?_⟩
  unfold rd
  rw [List.getD_eq_getElem?_getD, List.getElem?_eq_getElem (show x.toNat < l.length by omega)]
  exact List.getElem_mem _

theorem within_eq (a lo hi : Int) : impl_within.f a lo hi = some (decide (lo ≤ a ∧ a ≤ hi)) := by
  unfold impl_within.f
  by_cases h : lo ≤ a <;> simp [h]

theorem isCue_eq (a : Int) : impl_isCue.f a = some (decide (0 ≤ a ∧ a ≤ 19)) := by unfold impl_isCue.f; rw [within_eq]; rfl
theorem isTick_eq (a : Int) : impl_isTick.f a = some (decide (0 ≤ a ∧ a ≤ 100000)) := by unfold impl_isTick.f; rw [within_eq]; rfl

theorem l01In_eq (a lo hi : Int) : spec_l01In.f a lo hi = some (decide (lo ≤ a ∧ a ≤ hi)) := by
  unfold spec_l01In.f
  by_cases h : a ≥ lo
  · have : lo ≤ a := h
    simp [this]
  · have : ¬ lo ≤ a := h
    simp [this]

theorem Ev_succ {α : Type} {g : Nat → Option α} {r : α} (h : Ev (fun k => g (k + 1)) r) : Ev g r := Ev.step (fun _ => rfl) h
theorem Ev_for2 {S ρ : Type} {F : Nat → S → Int → Option ρ} {step : S → Int → ρ ⊕ S} {out : S → ρ} {n : Nat} (Inv : S → Int → Prop)
    (hend : ∀ s, Inv s n → Ev (fun k => F k s n) (out s))
    (hstep : ∀ (s : S) (i : Int), 0 ≤ i → i < n → Inv s i → (∃ r, step s i = .inl r ∧ Ev (fun k => F k s i) r) ∨ (∃ s', step s i = .inr s' ∧ Inv s' (i + 1) ∧ ∀ r, Ev (fun k => F k s' (i + 1)) r → Ev (fun k => F k s i) r)) :
    ∀ (d : Nat) (s : S) (i : Int), 0 ≤ i → i + d = n → Inv s i → Ev (fun k => F k s i) (forM step out d s i) := by
  intro d
  induction d with
  | zero =>
    intro s i h0 h1 hI
    obtain rfl : i = n := by omega
    exact hend s hI
  | succ d ih =>
    intro s i h0 h1 hI
    rcases hstep s i h0 (by omega) hI with ⟨r, hr, hK⟩ | ⟨s', hs, hI', hK⟩
    · simp only [forM, hr]
      exact hK
    · simp only [forM, hs]
      exact hK _ (ih s' (i + 1) (by omega) (by omega) hI')
/-- A loop over a list that only gathers: a fold. -/
theorem forM_fold {S ρ α : Type} (xs : List α) (rdx : Int → α) (hrd : ∀ (j : Nat) (h : j < xs.length), rdx j = xs[j]) (upd : S → α → S) (out : S → ρ) (d : Nat) : ∀ (s : S) (i : Nat), i + d = xs.length →
    forM (ρ := ρ) (fun s i => .inr (upd s (rdx i))) out d s i = out ((xs.drop i).foldl upd s) := by
  induction d with
  | zero =>
    intro s i hi
    rw [List.drop_eq_nil_of_le (by omega)]
    rfl
  | succ d ih =>
    intro s i hi
    rw [List.drop_eq_getElem_cons (show i < xs.length by omega)]
    simp only [forM, List.foldl_cons]
    have := ih (upd s (rdx i)) (i + 1) (by omega)
    rw [← hrd i (by omega)]
    exact this
theorem forM_fold0 {S ρ α : Type} (xs : List α) (rdx : Int → α) (hrd : ∀ (j : Nat) (h : j < xs.length), rdx j = xs[j]) (upd : S → α → S) (out : S → ρ) (s : S) :
    forM (ρ := ρ) (fun s i => .inr (upd s (rdx i))) out xs.length s 0 = out (xs.foldl upd s) := by
  have := forM_fold xs rdx hrd upd out xs.length s 0 (by omega)
  rw [List.drop_zero] at this
  exact this
/-- A loop that looks at each place, and stops at the first that fails. -/
theorem forM_all {p : Int → Bool} {b : Bool} {n : Nat} (d : Nat) : ∀ i : Int, 0 ≤ i → i + d = n → (forM (S := Unit) (ρ := Bool) (fun _ i => if p i = true then .inr () else .inl false) (fun _ => b) d () i = true ↔ b = true ∧ ∀ j : Int, i ≤ j → j < n → p j = true) := by
  induction d with
  | zero =>
    intro i h0 hi
    simp only [forM]
    exact ⟨fun h => ⟨h, fun j h1 h2 => by omega⟩, fun h => h.1⟩
  | succ d ih =>
    intro i h0 hi
    simp only [forM]
    by_cases hp : p i = true
    · rw [if_pos hp]
      refine (ih (i + 1) (by omega) (by omega)).trans ⟨fun h => ⟨h.1, fun j h1 h2 => ?_⟩, fun h => ⟨h.1, fun j h1 h2 => h.2 j (by omega) h2⟩⟩
      by_cases hj : j = i
      · rw [hj]; exact hp
      · exact h.2 j (by omega) h2
    · rw [if_neg hp]
      exact ⟨(fun h => by cases h), fun h => absurd (h.2 i (Int.le_refl _) (by omega)) hp⟩

theorem rdTry {xs : List S36} {i : Int} (h0 : 0 ≤ i) (h1 : i < xs.length) : rd_T36 xs i = xs[i.toNat]'(by omega) := by
  simp [rd_T36, List.getD_eq_getElem?_getD, List.getElem?_eq_getElem (show i.toNat < xs.length by omega)]
theorem rdTry_nat {xs : List S36} (j : Nat) (h : j < xs.length) : rd_T36 xs (j : Int) = xs[j] := by
  rw [rdTry (by omega) (by omega)]; rfl
theorem rd_nat {xs : List Int} (j : Nat) (h : j < xs.length) : rd xs (j : Int) = xs[j] := by
  simp [rd, List.getD_eq_getElem?_getD, List.getElem?_eq_getElem h]
/-- The tries of a cue. -/
def ownT (xs : List S36) (c : Int) : List S36 := xs.filter fun x => x.f0 == c
/-- Has the last try been fired? -/
def lastF (xs : List S36) : Bool := match xs.getLast? with
  | some x => x.f2
  | none => false
/-- The tick of the last try. -/
def lastT (xs : List S36) : Int := match xs.getLast? with
  | some x => x.f1
  | none => 0
theorem ownT_length (xs : List S36) (c : Int) : (ownT xs c).length ≤ xs.length := List.length_filter_le _ _
theorem lastT_rd {xs : List S36} (h : 0 < xs.length) : (rd_T36 xs ((xs.length : Int) - 1)).f1 = lastT xs := by
  rw [rdTry (by omega) (by omega)]
  unfold lastT
  rw [List.getLast?_eq_getElem?, List.getElem?_eq_getElem (show xs.length - 1 < xs.length by omega)]
  congr 2
  omega
theorem lastF_rd {xs : List S36} (h : 0 < xs.length) : (rd_T36 xs ((xs.length : Int) - 1)).f2 = lastF xs := by
  rw [rdTry (by omega) (by omega)]
  unfold lastF
  rw [List.getLast?_eq_getElem?, List.getElem?_eq_getElem (show xs.length - 1 < xs.length by omega)]
  congr 2
  omega
theorem lastT_map {xs : List S36} (h : 0 < xs.length) : rd (xs.map (·.f1)) ((xs.length : Int) - 1) = lastT xs := by
  have e : (xs.length : Int) - 1 = ((xs.length - 1 : Nat) : Int) := by omega
  rw [e, rd_nat _ (by rw [List.length_map]; omega)]
  unfold lastT
  rw [List.getLast?_eq_getElem?, List.getElem?_eq_getElem (show xs.length - 1 < xs.length by omega)]
  simp
theorem fold_own (c : Int) (xs : List S36) : ∀ acc : List S36, xs.foldl (fun acc x => if x.f0 = c then acc ++ [x] else acc) acc = acc ++ ownT xs c := by
  induction xs with
  | nil => intro acc; simp [ownT]
  | cons x xs ih =>
    intro acc
    simp only [List.foldl_cons]
    rw [ih]
    unfold ownT
    by_cases hx : x.f0 = c
    · simp [List.filter_cons, hx]
    · have : (x.f0 == c) = false := by simpa using hx
      simp [List.filter_cons, hx]
theorem triesOf_ev (xs : List S36) (hn : xs.length ≤ 1000000) (c : Int) : Ev (fun k => impl_triesOf.f k xs c) (ownT xs c) := by
  have h := Ev_for2 (F := fun k s i => impl_triesOf.l0 k c s xs (xs.length : Int) i) (step := fun s i => .inr ((fun acc x => if x.f0 = c then acc ++ [x] else acc) s (rd_T36 xs i))) (out := fun s => s) (n := xs.length) (fun s i => (s.length : Int) ≤ i)
    (fun s hI => Ev_succ (by
      simp only [impl_triesOf.l0]
      exact Ev_neg (by omega) (Ev.now _)))
    (fun s i h0 h1 hI => .inr ⟨_, rfl, by
      by_cases hc : (rd_T36 xs i).f0 = c
      · simp only [hc, if_true]; rw [List.length_append]; simp; omega
      · simp only [hc, if_false]; omega, fun r hr => Ev_succ (by
      simp only [impl_triesOf.l0]
      refine Ev_pos h1 (Ev_pos h0 (Ev_pos h1 ?_))
      rw [w64 (by omega) (by omega)]
      refine Ev_ite (fun hc => ?_) (fun hc => ?_)
      · simp only [hc, if_true] at hr ⊢
        exact Ev_pos (by omega) (by rw [← hc] at hr ⊢; exact hr)
      · simp only [hc, if_false] at hr ⊢
        exact hr)⟩) xs.length [] 0 (by omega) (by omega) (by simp)
  rw [forM_fold0 xs (rd_T36 xs) (fun j hj => rdTry_nat j hj) (fun acc x => if x.f0 = c then acc ++ [x] else acc) (fun s => s) [], fold_own] at h
  exact h
theorem fold_l24 (c : Int) (xs : List S36) : ∀ (acc : List Int) (b : Bool), xs.foldl (fun (s : List Int × Bool) x => if x.f0 = c then (s.1 ++ [x.f1], x.f2) else s) (acc, b) = (acc ++ (ownT xs c).map (·.f1), if ownT xs c = [] then b else lastF (ownT xs c)) := by
  induction xs with
  | nil => intro acc b; simp [ownT]
  | cons x xs ih =>
    intro acc b
    simp only [List.foldl_cons]
    by_cases hx : x.f0 = c
    · rw [if_pos hx, ih]
      have e : ownT (x :: xs) c = x :: ownT xs c := by unfold ownT; simp [List.filter_cons, hx]
      rw [e]
      simp only [List.map_cons, List.append_assoc, List.singleton_append, reduceCtorEq, if_false, Prod.mk.injEq, true_and]
      unfold lastF
      cases ho : ownT xs c with
      | nil => simp
      | cons y ys => simp [List.getLast?_cons_cons]
    · rw [if_neg hx, ih]
      have e : ownT (x :: xs) c = ownT xs c := by
        have : (x.f0 == c) = false := by simpa using hx
        unfold ownT; simp [List.filter_cons, hx]
      rw [e]
theorem lastF_nil_or (xs : List S36) : (if xs = [] then false else lastF xs) = lastF xs := by
  by_cases h : xs = []
  · rw [if_pos h, h]; rfl
  · rw [if_neg h]
theorem l24Of_ev (xs : List S36) (hn : xs.length ≤ 1000000) (c : Int) : Ev (fun k => spec_l24Of.f k xs c) ((ownT xs c).map (·.f1), lastF (ownT xs c)) := by
  have h := Ev_for2 (F := fun k (s : List Int × Bool) i => spec_l24Of.l0 k xs c s.1 s.2 i) (step := fun s i => .inr ((fun (s : List Int × Bool) (x : S36) => if x.f0 = c then (s.1 ++ [x.f1], x.f2) else s) s (rd_T36 xs i))) (out := fun s => s) (n := xs.length) (fun s i => (s.1.length : Int) ≤ i)
    (fun s hI => Ev_succ (by
      simp only [spec_l24Of.l0]
      exact Ev_neg (by omega) (Ev.now _)))
    (fun s i h0 h1 hI => .inr ⟨_, rfl, by
      by_cases hc : (rd_T36 xs i).f0 = c
      · simp only [hc, if_true]; rw [List.length_append]; simp; omega
      · simp only [hc, if_false]; omega, fun r hr => Ev_succ (by
      simp only [spec_l24Of.l0]
      refine Ev_pos h1 (Ev_pos h0 ?_)
      rw [w64 (by omega) (by omega)]
      refine Ev_ite (fun hc => ?_) (fun hc => ?_)
      · simp only [hc, if_true] at hr ⊢
        exact Ev_pos (by omega) hr
      · simp only [hc, if_false] at hr ⊢
        exact hr)⟩) xs.length ([], false) 0 (by omega) (by omega) (by simp)
  rw [forM_fold0 xs (rd_T36 xs) (fun j hj => rdTry_nat j hj) (fun (s : List Int × Bool) (x : S36) => if x.f0 = c then (s.1 ++ [x.f1], x.f2) else s) (fun s => s) ([], false), fold_l24, lastF_nil_or] at h
  exact h

/-- The state of a cue. -/
def stateT (xs : List S36) (c : Int) : Int := if lastF (ownT xs c) = true then 2 else if (ownT xs c).length = 0 then 0 else if (ownT xs c).length = 3 then 3 else 1
theorem lastF_pos {xs : List S36} (h : lastF xs = true) : 0 < xs.length := by
  cases xs with
  | nil => cases h
  | cons x xs => simp
theorem cueState_ev (xs : List S36) (hn : xs.length ≤ 1000000) (c : Int) : Ev (fun k => impl_cueState.f k xs c) (stateT xs c) := by
  unfold impl_cueState.f
  have hl := ownT_length xs c
  refine Ev.bind (triesOf_ev xs hn c) ?_
  unfold stateT
  by_cases h0 : (ownT xs c).length = 0
  · have hf : ¬ lastF (ownT xs c) = true := fun h => by have := lastF_pos h; omega
    rw [if_neg hf, if_pos h0]
    exact Ev_pos (by omega) (Ev.now _)
  · rw [w64 (by omega) (by omega)]
    refine Ev_neg (by omega) (Ev_pos (by omega) (Ev_pos (by omega) ?_))
    rw [lastF_rd (by omega)]
    refine Ev_ite (fun h => by rw [if_pos h]; exact Ev.now _) (fun h => ?_)
    rw [if_neg h, if_neg h0]
    refine Ev_ite (fun h => by rw [if_pos (by omega)]; exact Ev.now _) (fun h => by rw [if_neg (by omega)]; exact Ev.now _)

/-- The first tick of a further try. -/
def nextT (xs : List S36) (c : Int) : Int := if (ownT xs c).length = 0 then lastT xs else max (lastT xs) (lastT (ownT xs c) + 50)
theorem lastT_mem {xs : List S36} (h : 0 < xs.length) : ∃ x ∈ xs, lastT xs = x.f1 := by
  refine ⟨xs[xs.length - 1]'(by omega), List.getElem_mem _, ?_⟩
  unfold lastT
  rw [List.getLast?_eq_getElem?, List.getElem?_eq_getElem (show xs.length - 1 < xs.length by omega)]
theorem lastT_range {xs : List S36} (hr : ∀ x ∈ xs, 0 ≤ x.f1 ∧ x.f1 ≤ 100000) : 0 ≤ lastT xs ∧ lastT xs ≤ 100000 := by
  by_cases h : 0 < xs.length
  · obtain ⟨x, hx, e⟩ := lastT_mem h
    rw [e]; exact hr x hx
  · have : xs = [] := List.eq_nil_of_length_eq_zero (by omega)
    subst this
    simp [lastT]
theorem own_range {xs : List S36} {c : Int} (hr : ∀ x ∈ xs, 0 ≤ x.f1 ∧ x.f1 ≤ 100000) : ∀ x ∈ ownT xs c, 0 ≤ x.f1 ∧ x.f1 ≤ 100000 := fun x hx => hr x ((List.mem_filter.1 hx).1)
theorem nextTick_ev (xs : List S36) (hn : xs.length ≤ 1000000) (hr : ∀ x ∈ xs, 0 ≤ x.f1 ∧ x.f1 ≤ 100000) (c : Int) : Ev (fun k => impl_nextTick.f k xs c) (nextT xs c) := by
  have hl := ownT_length xs c
  have ho := lastT_range (own_range (c := c) hr)
  have hx := lastT_range hr
  unfold impl_nextTick.f nextT
  refine Ev_ite (fun h => ?_) (fun h => ?_)
  · rw [w64 (x := (xs.length : Int) - 1) (by omega) (by omega)]
    refine Ev_pos (by omega) (Ev_pos (by omega) (Ev.bind (triesOf_ev xs hn c) ?_))
    rw [lastT_rd (xs := xs) (by omega)]
    by_cases h0 : (ownT xs c).length = 0
    · rw [if_pos h0]
      exact Ev_neg (by omega) (Ev.now _)
    · rw [if_neg h0, w64 (x := ((ownT xs c).length : Int) - 1) (by omega) (by omega), lastT_rd (xs := ownT xs c) (by omega), w64 (by omega) (by omega), mx_eq]
      exact Ev_pos (by omega) (Ev_pos (by omega) (Ev_pos (by omega) (Ev.now _)))
  · have hz : xs = [] := List.eq_nil_of_length_eq_zero (by omega)
    subst hz
    refine Ev.bind (triesOf_ev [] hn c) ?_
    simp only [ownT, List.filter_nil, List.length_nil]
    exact Ev_neg (by omega) (Ev.now _)

/-- The try at a place fits to those before it. -/
def okTry (xs : List S36) (i : Int) : Bool :=
  decide ((0 ≤ (rd_T36 xs i).f0 ∧ (rd_T36 xs i).f0 ≤ 19) ∧ (0 ≤ (rd_T36 xs i).f1 ∧ (rd_T36 xs i).f1 ≤ 100000) ∧ lastF (ownT (xs.take i.toNat) (rd_T36 xs i).f0) = false ∧ ¬ (ownT (xs.take i.toNat) (rd_T36 xs i).f0).length = 3 ∧ nextT (xs.take i.toNat) (rd_T36 xs i).f0 ≤ (rd_T36 xs i).f1)
def areTriesM (xs : List S36) : Bool := forM (S := Unit) (fun _ i => if okTry xs i = true then .inr () else .inl false) (fun _ => decide (xs.length ≤ 40)) xs.length () 0
theorem areTriesM_iff (xs : List S36) : areTriesM xs = true ↔ xs.length ≤ 40 ∧ ∀ i : Int, 0 ≤ i → i < xs.length → okTry xs i = true := by
  unfold areTriesM
  refine (forM_all (p := okTry xs) (n := xs.length) xs.length 0 (by omega) (by omega)).trans ?_
  rw [decide_eq_true_eq]
theorem state23 {xs : List S36} {c : Int} : (stateT xs c = 2 ↔ lastF (ownT xs c) = true) ∧ (stateT xs c = 3 ↔ lastF (ownT xs c) = false ∧ (ownT xs c).length = 3) := by
  unfold stateT
  by_cases h : lastF (ownT xs c) = true
  · rw [if_pos h]; simp [h]
  · rw [if_neg h]
    have hf : lastF (ownT xs c) = false := by simpa using h
    by_cases h0 : (ownT xs c).length = 0
    · rw [if_pos h0]; simp [hf]; omega
    · rw [if_neg h0]
      by_cases h3 : (ownT xs c).length = 3
      · rw [if_pos h3]; simp [hf, h3]
      · rw [if_neg h3]; simp [hf, h3]
theorem take_range {xs : List S36} {i : Int} (h0 : 0 ≤ i) (hi : i ≤ xs.length) (h : ∀ j : Int, 0 ≤ j → j < i → okTry xs j = true) : ∀ x ∈ xs.take i.toNat, 0 ≤ x.f1 ∧ x.f1 ≤ 100000 := fun x hx => by
  obtain ⟨j, hj⟩ := List.mem_iff_getElem?.1 hx
  rw [List.getElem?_take] at hj
  split at hj
  · rename_i hlt
    have hjl := (List.getElem?_eq_some_iff.1 hj).1
    have he := (List.getElem?_eq_some_iff.1 hj).2
    have := of_decide_eq_true (h j (by omega) (by omega))
    rw [rdTry_nat j hjl, he] at this
    exact this.2.1
  · cases hj
theorem impl_areTries_loop (xs : List S36) (hn : xs.length ≤ 40) : Ev (fun k => impl_AreTries.l0 k xs xs (xs.length : Int) 0) (areTriesM xs) := by
  refine Ev_for2 (F := fun k (_ : Unit) i => impl_AreTries.l0 k xs xs (xs.length : Int) i) (n := xs.length) (fun _ i => ∀ j : Int, 0 ≤ j → j < i → okTry xs j = true)
    (fun s hI => Ev_succ (by
      simp only [impl_AreTries.l0]
      rw [decide_eq_true hn]
      exact Ev_neg (by omega) (Ev.now _)))
    (fun s i h0 h1 hI => ?_) xs.length () 0 (by omega) (by omega) (fun j _ _ => by omega)
  have hr := take_range h0 (by omega) hI
  have ht : (xs.take i.toNat).length ≤ 1000000 := by rw [List.length_take]; omega
  have hF : ∀ b r, Ev (fun k => impl_AreTries.j1 k xs i xs (xs.length : Int) i b (rd_T36 xs i).f0 (rd_T36 xs i).f1 (rd_T36 xs i).f2) r → ((0 ≤ (rd_T36 xs i).f0 ∧ (rd_T36 xs i).f0 ≤ 19) ∧ b = !(decide (0 ≤ (rd_T36 xs i).f1 ∧ (rd_T36 xs i).f1 ≤ 100000)) ∨ ¬ (0 ≤ (rd_T36 xs i).f0 ∧ (rd_T36 xs i).f0 ≤ 19) ∧ b = true) → Ev (fun k => impl_AreTries.l0 k xs xs (xs.length : Int) i) r := fun b r h hb => Ev_succ (by
    simp only [impl_AreTries.l0, isCue_eq, isTick_eq, Option.bind_some, decide_eq_true_eq]
    refine Ev_pos h1 (Ev_pos h0 (Ev_pos h1 ?_))
    rcases hb with ⟨hc, rfl⟩ | ⟨hc, rfl⟩
    · exact Ev_pos hc h
    · exact Ev_neg hc h)
  have hno : Ev (fun k => impl_AreTries.j1 k xs i xs (xs.length : Int) i true (rd_T36 xs i).f0 (rd_T36 xs i).f1 (rd_T36 xs i).f2) false := Ev_succ (by
    simp only [impl_AreTries.j1, if_true]; exact Ev.now _)
  have hj : ∀ r, (stateT (xs.take i.toNat) (rd_T36 xs i).f0 = 2 ∨ stateT (xs.take i.toNat) (rd_T36 xs i).f0 = 3 ∨ (rd_T36 xs i).f1 < nextT (xs.take i.toNat) (rd_T36 xs i).f0 → r = false) → (¬ stateT (xs.take i.toNat) (rd_T36 xs i).f0 = 2 ∧ ¬ stateT (xs.take i.toNat) (rd_T36 xs i).f0 = 3 ∧ ¬ (rd_T36 xs i).f1 < nextT (xs.take i.toNat) (rd_T36 xs i).f0 → Ev (fun k => impl_AreTries.l0 k xs xs (xs.length : Int) (i + 1)) r) → Ev (fun k => impl_AreTries.j1 k xs i xs (xs.length : Int) i false (rd_T36 xs i).f0 (rd_T36 xs i).f1 (rd_T36 xs i).f2) r := fun r hf ht' => Ev_succ (by
    simp only [impl_AreTries.j1, Bool.false_eq_true, if_false]
    refine Ev_pos h0 (Ev_pos (by omega) (Ev.bind (cueState_ev _ ht _) ?_))
    refine Ev_ite (fun h2 => Ev_some (hf (.inl h2)).symm) (fun h2 => Ev_ite (fun h3 => Ev_some (hf (.inr (.inl h3))).symm) (fun h3 => Ev.bind (nextTick_ev _ ht hr _) ?_))
    refine Ev_ite (fun h4 => Ev_some (hf (.inr (.inr h4))).symm) (fun h4 => ?_)
    rw [w64 (by omega) (by omega)]
    exact ht' ⟨h2, h3, h4⟩)
  by_cases hc : 0 ≤ (rd_T36 xs i).f0 ∧ (rd_T36 xs i).f0 ≤ 19
  · by_cases ht2 : 0 ≤ (rd_T36 xs i).f1 ∧ (rd_T36 xs i).f1 ≤ 100000
    · have s23 := state23 (xs := xs.take i.toNat) (c := (rd_T36 xs i).f0)
      by_cases hok : okTry xs i = true
      · have hok' := of_decide_eq_true hok
        refine .inr ⟨(), if_pos hok, fun j h2 h3 => ?_, fun r hr' => hF false r (hj r (fun h => ?_) (fun _ => hr')) (.inl ⟨hc, by simp [ht2]⟩)⟩
        · by_cases hji : j = i
          · rw [hji]; exact hok
          · exact hI j h2 (by omega)
        · exfalso
          rcases h with h | h | h
          · rw [s23.1] at h; rw [hok'.2.2.1] at h; cases h
          · rw [s23.2] at h; exact hok'.2.2.2.1 h.2
          · have := hok'.2.2.2.2; omega
      · refine .inl ⟨false, if_neg hok, hF false false (hj false (fun _ => rfl) (fun h => ?_)) (.inl ⟨hc, by simp [ht2]⟩)⟩
        exfalso
        refine hok (decide_eq_true ⟨hc, ht2, ?_, ?_, by omega⟩)
        · rw [s23.1] at h; simpa using h.1
        · intro h3
          rw [s23.1, s23.2] at h
          have : lastF (ownT (xs.take i.toNat) (rd_T36 xs i).f0) = false := by simpa using h.1
          exact h.2.1 ⟨this, h3⟩
    · exact .inl ⟨false, if_neg (fun hok => ht2 (of_decide_eq_true hok).2.1), hF true false hno (.inl ⟨hc, by simp [ht2]⟩)⟩
  · exact .inl ⟨false, if_neg (fun hok => hc (of_decide_eq_true hok).1), hF true false hno (.inr ⟨hc, rfl⟩)⟩
theorem impl_AreTries_ev (xs : List S36) : Ev (fun k => impl_AreTries.f k xs) (areTriesM xs) := by
  unfold impl_AreTries.f
  by_cases h : xs.length ≤ 40
  · exact Ev_neg (by omega) (impl_areTries_loop xs h)
  · have e : areTriesM xs = false := by
      cases hb : areTriesM xs with
      | false => rfl
      | true => exact absurd ((areTriesM_iff xs).1 hb).1 h
    rw [e]
    exact Ev_pos (by omega) (Ev.now _)
theorem nextT_le {xs : List S36} {c t : Int} (ht : 0 ≤ t) : nextT xs c ≤ t ↔ (0 < xs.length → lastT xs ≤ t) ∧ (¬ (ownT xs c).length = 0 → lastT (ownT xs c) + 50 ≤ t) := by
  unfold nextT
  have hz : xs.length = 0 → lastT xs = 0 := fun h => by
    have : xs = [] := List.eq_nil_of_length_eq_zero h
    subst this; rfl
  by_cases h0 : (ownT xs c).length = 0
  · rw [if_pos h0]
    refine ⟨fun h => ⟨fun _ => h, fun hn => absurd h0 hn⟩, fun h => ?_⟩
    by_cases hp : 0 < xs.length
    · exact h.1 hp
    · have := hz (by omega); omega
  · rw [if_neg h0]
    refine ⟨fun h => ⟨fun _ => by omega, fun _ => by omega⟩, fun h => ?_⟩
    have := h.2 h0
    by_cases hp : 0 < xs.length
    · have := h.1 hp; omega
    · have := hz (by omega); omega
theorem lastT_take {xs : List S36} {i : Int} (h0 : 0 < i) (hi : i ≤ xs.length) : lastT (xs.take i.toNat) = (rd_T36 xs (i - 1)).f1 := by
  unfold lastT
  rw [rdTry (by omega) (by omega), List.getLast?_eq_getElem?, List.length_take, List.getElem?_take]
  rw [if_pos (by omega), List.getElem?_eq_getElem (by omega)]
  simp only
  congr 2
  omega
theorem spec_AreTries_ev (xs : List S36) (hn : xs.length ≤ 1000000) : Ev (fun k => spec_AreTries.f k xs) (areTriesM xs) := by
  unfold spec_AreTries.f
  refine Ev_for2 (F := fun k (_ : Unit) i => spec_AreTries.l0 k xs i) (n := xs.length) (fun _ i => ∀ j : Int, 0 ≤ j → j < i → okTry xs j = true)
    (fun s hI => Ev_succ (by
      simp only [spec_AreTries.l0]
      refine Ev_neg (by omega) (Ev_some ?_)
      rw [decide_eq_decide]
      omega))
    (fun s i h0 h1 hI => ?_) xs.length () 0 (by omega) (by omega) (fun j _ _ => by omega)
  have hr := take_range h0 (by omega) hI
  have ht : (xs.take i.toNat).length ≤ 1000000 := by rw [List.length_take]; omega
  have hol := ownT_length (xs.take i.toNat) (rd_T36 xs i).f0
  have hor := lastT_range (own_range (c := (rd_T36 xs i).f0) hr)
  have hF : ∀ b r, Ev (fun k => spec_AreTries.j1 k xs i b (rd_T36 xs i).f0 (rd_T36 xs i).f1 (rd_T36 xs i).f2) r → (b = true ↔ ¬ ((0 ≤ (rd_T36 xs i).f0 ∧ (rd_T36 xs i).f0 ≤ 19) ∧ (0 ≤ (rd_T36 xs i).f1 ∧ (rd_T36 xs i).f1 ≤ 100000) ∧ (0 < i → lastT (xs.take i.toNat) ≤ (rd_T36 xs i).f1))) → Ev (fun k => spec_AreTries.l0 k xs i) r := fun b r h hb => Ev_succ (by
    simp only [spec_AreTries.l0, l01In_eq, Option.bind_some, decide_eq_true_eq]
    refine Ev_pos h1 (Ev_pos h0 ?_)
    by_cases hc : 0 ≤ (rd_T36 xs i).f0 ∧ (rd_T36 xs i).f0 ≤ 19
    · refine Ev_pos hc ?_
      by_cases ht2 : 0 ≤ (rd_T36 xs i).f1 ∧ (rd_T36 xs i).f1 ≤ 100000
      · refine Ev_pos ht2 (Ev_ite (fun hi => ?_) (fun hi => ?_))
        · rw [w64 (by omega) (by omega)]
          refine Ev_pos (by omega) (Ev_pos (by omega) ?_)
          have e : decide ((rd_T36 xs (i - 1)).f1 > (rd_T36 xs i).f1) = b := by
            rw [Bool.eq_iff_iff, hb, decide_eq_true_eq, lastT_take hi (by omega)]
            exact ⟨fun h q => by have := q.2.2 hi; omega, fun h => by
              by_cases hgt : (rd_T36 xs (i - 1)).f1 > (rd_T36 xs i).f1
              · exact hgt
              · exact absurd ⟨hc, ht2, fun _ => by omega⟩ h⟩
          rw [e]
          exact h
        · have e : false = b := by
            rw [Bool.eq_iff_iff, hb]
            exact ⟨(fun h => by cases h), fun h => absurd ⟨hc, ht2, fun hi' => absurd hi' hi⟩ h⟩
          rw [e]
          exact h
      · have e : true = b := (hb.2 (fun q => ht2 q.2.1)).symm
        rw [e]
        exact Ev_neg ht2 h
    · have e : true = b := (hb.2 (fun q => hc q.1)).symm
      rw [e]
      exact Ev_neg hc h)
  by_cases hpre : (0 ≤ (rd_T36 xs i).f0 ∧ (rd_T36 xs i).f0 ≤ 19) ∧ (0 ≤ (rd_T36 xs i).f1 ∧ (rd_T36 xs i).f1 ≤ 100000) ∧ (0 < i → lastT (xs.take i.toNat) ≤ (rd_T36 xs i).f1)
  · have hj : ∀ r, (lastF (ownT (xs.take i.toNat) (rd_T36 xs i).f0) = true ∨ (ownT (xs.take i.toNat) (rd_T36 xs i).f0).length = 3 ∨ (¬ (ownT (xs.take i.toNat) (rd_T36 xs i).f0).length = 0 ∧ (rd_T36 xs i).f1 < lastT (ownT (xs.take i.toNat) (rd_T36 xs i).f0) + 50) → r = false) → (¬ (lastF (ownT (xs.take i.toNat) (rd_T36 xs i).f0) = true ∨ (ownT (xs.take i.toNat) (rd_T36 xs i).f0).length = 3 ∨ (¬ (ownT (xs.take i.toNat) (rd_T36 xs i).f0).length = 0 ∧ (rd_T36 xs i).f1 < lastT (ownT (xs.take i.toNat) (rd_T36 xs i).f0) + 50)) → Ev (fun k => spec_AreTries.l0 k xs (i + 1)) r) → Ev (fun k => spec_AreTries.j1 k xs i false (rd_T36 xs i).f0 (rd_T36 xs i).f1 (rd_T36 xs i).f2) r := fun r hf hg => Ev_succ (by
      simp only [spec_AreTries.j1, Bool.false_eq_true, if_false]
      refine Ev_pos h0 (Ev_pos (by omega) (Ev.bind (l24Of_ev _ ht _) ?_))
      simp only [List.length_map]
      refine Ev_ite (fun h2 => Ev_some (hf (.inl h2)).symm) (fun h2 => Ev_ite (fun h3 => Ev_some (hf (.inr (.inl (by omega)))).symm) (fun h3 => ?_))
      rw [w64 (x := i + 1) (by omega) (by omega)]
      refine Ev_ite (fun hp => ?_) (fun hp => hg (fun q => by rcases q with q | q | q ; exact h2 q; omega; omega))
      rw [w64 (x := ((ownT (xs.take i.toNat) (rd_T36 xs i).f0).length : Int) - 1) (by omega) (by omega), lastT_map (by omega), w64 (by omega) (by omega)]
      refine Ev_pos (by omega) (Ev_pos (by omega) (Ev_ite (fun h4 => Ev_some (hf (.inr (.inr ⟨by omega, h4⟩))).symm) (fun h4 => hg (fun q => by rcases q with q | q | q ; exact h2 q; omega; exact h4 q.2))))
      )
    have hb : (false = true ↔ ¬ ((0 ≤ (rd_T36 xs i).f0 ∧ (rd_T36 xs i).f0 ≤ 19) ∧ (0 ≤ (rd_T36 xs i).f1 ∧ (rd_T36 xs i).f1 ≤ 100000) ∧ (0 < i → lastT (xs.take i.toNat) ≤ (rd_T36 xs i).f1))) := ⟨fun h => (by cases h), fun h => absurd hpre h⟩
    have hlen : 0 < (xs.take i.toNat).length ↔ 0 < i := by rw [List.length_take]; omega
    have hnx := nextT_le (xs := xs.take i.toNat) (c := (rd_T36 xs i).f0) hpre.2.1.1
    by_cases hok : okTry xs i = true
    · have hok' := of_decide_eq_true hok
      refine .inr ⟨(), if_pos hok, fun j h2 h3 => ?_, fun r hr' => hF false r (hj r (fun h => ?_) (fun _ => hr')) hb⟩
      · by_cases hji : j = i
        · rw [hji]; exact hok
        · exact hI j h2 (by omega)
      · exfalso
        rcases h with h | h | h
        · rw [hok'.2.2.1] at h; cases h
        · exact hok'.2.2.2.1 h
        · have := (hnx.1 hok'.2.2.2.2).2 h.1; omega
    · refine .inl ⟨false, if_neg hok, hF false false (hj false (fun _ => rfl) (fun h => ?_)) hb⟩
      exfalso
      refine hok (decide_eq_true ⟨hpre.1, hpre.2.1, ?_, fun h3 => h (.inr (.inl h3)), hnx.2 ⟨fun hp => hpre.2.2 (hlen.1 hp), fun hp => ?_⟩⟩)
      · cases hl : lastF (ownT (xs.take i.toNat) (rd_T36 xs i).f0) with
        | false => rfl
        | true => exact absurd (.inl hl) h
      · by_cases hlt : (rd_T36 xs i).f1 < lastT (ownT (xs.take i.toNat) (rd_T36 xs i).f0) + 50
        · exact absurd (.inr (.inr ⟨hp, hlt⟩)) h
        · omega
  · refine .inl ⟨false, if_neg (fun hok => hpre ?_), hF true false (Ev_succ (by simp only [spec_AreTries.j1, if_true]; exact Ev.now _)) ⟨fun _ => hpre, fun _ => rfl⟩⟩
    have hok' := of_decide_eq_true hok
    have hlen : 0 < (xs.take i.toNat).length ↔ 0 < i := by rw [List.length_take]; omega
    exact ⟨hok'.1, hok'.2.1, fun hi => ((nextT_le hok'.2.1.1).1 hok'.2.2.2.2).1 (hlen.2 hi)⟩

def addTryM (xs : List S36) (x : S36) : List S36 × Int := if areTriesM xs = true then (if (xs.length : Int) = 40 then ([], 3) else if areTriesM (xs ++ [x]) = true then (xs ++ [x], 0) else ([], 5)) else ([], 1)
theorem spec_AddTry_ev (xs : List S36) (hn : xs.length ≤ 999999) (a b : Int) (c : Bool) : Ev (fun k => spec_AddTry.f k xs a b c) (addTryM xs ⟨a, b, c⟩) := by
  unfold spec_AddTry.f addTryM
  refine Ev.bind (spec_AreTries_ev xs (by omega)) (Ev_ite (fun h => ?_) (fun h => by rw [if_neg h]; exact Ev.now _))
  rw [if_pos h]
  refine Ev_ite (fun h => by rw [if_pos h]; exact Ev.now _) (fun h => ?_)
  rw [if_neg h]
  simp only [Option.bind_some, List.nil_append, List.length_nil, List.length_singleton]
  refine Ev_pos (by omega) (Ev_pos (by omega) (Ev.bind (spec_AreTries_ev _ (by rw [List.length_append]; simp; omega)) ?_))
  exact Ev_ite (fun h => by rw [if_pos h]; exact Ev.now _) (fun h => by rw [if_neg h]; exact Ev.now _)
theorem spec_AddTry_ev1 (xs : List S36) (hn : xs.length ≤ 1000000) (a b : Int) (c : Bool) : Ev (fun k => spec_AddTry.f k xs a b c) (addTryM xs ⟨a, b, c⟩) := by
  by_cases h : xs.length ≤ 999999
  · exact spec_AddTry_ev xs h a b c
  · have hno : ¬ areTriesM xs = true := fun q => by have := ((areTriesM_iff xs).1 q).1; omega
    unfold spec_AddTry.f addTryM
    refine Ev.bind (spec_AreTries_ev xs hn) (Ev_neg hno ?_)
    rw [if_neg hno]
    exact Ev.now _
theorem addTryM_length (xs : List S36) (x : S36) : (addTryM xs x).1.length ≤ 41 := by
  unfold addTryM
  repeat' split
  all_goals (first | (simp; done) | (rename_i h _ _; have := ((areTriesM_iff xs).1 h).1; rw [List.length_append]; simp; omega))

theorem good24_l0 (c : List Int) (d : Nat) : ∀ (xs : List S36) (t n i seed : Int), Rd c i seed → n ≤ d → d ≤ 20 → xs.length ≤ 41 → ∃ ys i' s', Ev (fun k => spec_l24Good.l0 k xs t n c i seed) (ys, i', s') ∧ Rd c i' s' ∧ ys.length ≤ 41 := by
  induction d with
  | zero =>
    intro xs t n i seed hr hn hd hx
    exact ⟨xs, i, seed, Ev_succ (by simp only [spec_l24Good.l0]; exact Ev_neg (by omega) (Ev.now _)), hr, hx⟩
  | succ d ih =>
    intro xs t n i seed hr hn hd hx
    by_cases hp : n > 0
    · obtain ⟨a, i1, s1, e1, r1, _⟩ := next_tells hr 4 (by omega)
      obtain ⟨b, i2, s2, e2, r2, _⟩ := next_tells r1 3 (by omega)
      obtain ⟨u, i3, s3, e3, r3, _⟩ := next_tells r2 30 (by omega)
      obtain ⟨v, i4, s4, e4, r4, _⟩ := next_tells r3 60 (by omega)
      obtain ⟨p, i5, s5, e5, r5, _⟩ := pick_tells r4 [0, u, 50, v] (by simp) (by simp)
      have hadd := spec_AddTry_ev1 xs (by omega) a t (b == 0)
      by_cases hq : (addTryM xs ⟨a, t, (b == 0)⟩).2 = 0
      · obtain ⟨ys, i6, s6, h6, r6, hl⟩ := ih (addTryM xs ⟨a, t, (b == 0)⟩).1 (wrap64 (t + p)) (n - 1) i5 s5 r5 (by omega) (by omega) (addTryM_length _ _)
        refine ⟨ys, i6, s6, Ev_succ (by
          simp only [spec_l24Good.l0]
          refine Ev_pos hp (Ev_bindc e1 (Ev_bindc e2 (Ev.bind hadd (Ev_pos hq (Ev_bindc e3 (Ev_bindc e4 (Ev_bindc e5 ?_)))))))
          rw [w64 (x := n - 1) (by omega) (by omega)]
          exact h6), r6, hl⟩
      · obtain ⟨ys, i6, s6, h6, r6, hl⟩ := ih xs (wrap64 (t + p)) (n - 1) i5 s5 r5 (by omega) (by omega) hx
        refine ⟨ys, i6, s6, Ev_succ (by
          simp only [spec_l24Good.l0]
          refine Ev_pos hp (Ev_bindc e1 (Ev_bindc e2 (Ev.bind hadd (Ev_neg hq (Ev_bindc e3 (Ev_bindc e4 (Ev_bindc e5 ?_)))))))
          rw [w64 (x := n - 1) (by omega) (by omega)]
          exact h6), r6, hl⟩
    · exact ⟨xs, i, seed, Ev_succ (by simp only [spec_l24Good.l0]; exact Ev_neg hp (Ev.now _)), hr, hx⟩
theorem draw24_l0 (c : List Int) (d : Nat) : ∀ (xs : List S36) (u i seed : Int), Rd c i seed → 41 - xs.length ≤ d → xs.length ≤ 41 → ∃ ys i' s', Ev (fun k => spec_l24Draw.l0 k xs u c i seed) (ys, i', s') ∧ Rd c i' s' ∧ ys.length ≤ 42 := by
  induction d with
  | zero =>
    intro xs u i seed hr hd hn
    obtain ⟨x1, i1, s1, e1, r1, h1, h2⟩ := next_tells hr 2 (by omega)
    have h2 := h2 (by omega)
    refine ⟨xs, i1, s1, Ev_succ (by
      simp only [spec_l24Draw.l0]
      refine Ev_bindc e1 ?_
      rw [w64 (x := 40 + x1) (by omega) (by omega)]
      exact Ev_neg (by omega) (Ev.now _)), r1, by omega⟩
  | succ d ih =>
    intro xs u i seed hr hd hn
    obtain ⟨x1, i1, s1, e1, r1, h1, h2⟩ := next_tells hr 2 (by omega)
    have h2 := h2 (by omega)
    by_cases hlt : (xs.length : Int) < 40 + x1
    · obtain ⟨ys, i3, s3, h3, r3, hl⟩ := ih (xs ++ [⟨wrap64 (4 + (Int.tmod u 16)), wrap64 (2000 + (wrap64 (50 * (wrap64 (Int.tdiv u 16))))), false⟩]) (wrap64 (u + 1)) i1 s1 r1 (by simp; omega) (by simp; omega)
      refine ⟨ys, i3, s3, Ev_succ (by
        simp only [spec_l24Draw.l0]
        refine Ev_bindc e1 ?_
        rw [w64 (x := 40 + x1) (by omega) (by omega)]
        exact Ev_pos hlt (Ev_pos (by omega) h3)), r3, hl⟩
    · refine ⟨xs, i1, s1, Ev_succ (by
        simp only [spec_l24Draw.l0]
        refine Ev_bindc e1 ?_
        rw [w64 (x := 40 + x1) (by omega) (by omega)]
        exact Ev_neg hlt (Ev.now _)), r1, by omega⟩
theorem draw24_tells {c : List Int} {i seed : Int} (hr : Rd c i seed) : ∃ ys i' s', Ev (fun k => spec_l24Draw.f k c i seed) (ys, i', s') ∧ Rd c i' s' ∧ ys.length ≤ 42 := by
  obtain ⟨t, i1, s1, e1, r1, _⟩ := next_tells hr 20 (by omega)
  obtain ⟨n, i2, s2, e2, r2, h20, h21⟩ := next_tells r1 12 (by omega)
  have h21 := h21 (by omega)
  obtain ⟨xs, i3, s3, h3, r3, hl⟩ := good24_l0 c 12 [] t n i2 s2 r2 (by omega) (by omega) (by simp)
  have hg : Ev (fun k => spec_l24Good.f k c i seed) (xs, i3, s3) := by
    unfold spec_l24Good.f
    exact Ev_bindc e1 (Ev_bindc e2 h3)
  obtain ⟨q, i4, s4, e4, r4, _⟩ := next_tells r3 30 (by omega)
  unfold spec_l24Draw.f
  by_cases q0 : q = 0
  · obtain ⟨a, i5, s5, e5, r5, _⟩ := pick_tells r4 [-1, 19, 20, 0] (by simp) (by simp)
    obtain ⟨b, i6, s6, e6, r6, _⟩ := pick_tells r5 [0, 100000, 100001] (by simp) (by simp)
    exact ⟨_, i6, s6, Ev.bind hg (Ev_bindc e4 (Ev_pos q0 (Ev_bindc e5 (Ev_bindc e6 (Ev_pos (by simp only; omega) (Ev.now _)))))), r6, by simp; omega⟩
  · by_cases q1 : q = 1
    · obtain ⟨ys, i5, s5, h5, r5, h6⟩ := draw24_l0 c 41 xs 0 i4 s4 r4 (by omega) hl
      exact ⟨ys, i5, s5, Ev.bind hg (Ev_bindc e4 (Ev_neg q0 (Ev_pos q1 h5))), r5, h6⟩
    · exact ⟨xs, i4, s4, Ev.bind hg (Ev_bindc e4 (Ev_neg q0 (Ev_neg q1 (Ev.now _)))), r4, by omega⟩
theorem drawCueState_tells (c : List Int) (hc : ∀ b ∈ c, 0 ≤ b ∧ b ≤ 255) (hl : c.length ≤ 4096) : ∃ xs q, Ev (fun k => spec_DrawCueState.f k c) (xs, q) ∧ xs.length ≤ 42 := by
  obtain ⟨seed, h0, r0⟩ := from_tells c hc hl
  obtain ⟨xs, i1, s1, h1, r1, hx⟩ := draw24_tells r0
  obtain ⟨x2, i2, s2, e2, r2, _⟩ := next_tells r1 5 (by omega)
  obtain ⟨x3, i3, s3, e3, r3, _⟩ := next_tells r2 5 (by omega)
  obtain ⟨x4, i4, s4, e4, r4, _⟩ := next_tells r3 4 (by omega)
  obtain ⟨x5, i5, s5, e5, r5, _⟩ := pick_tells r4 [x2, x3, 19, 20, -1, x4] (by simp) (by simp)
  refine ⟨xs, x5, ?_, hx⟩
  unfold spec_DrawCueState.f
  exact Ev.bind h0 (Ev.bind h1 (Ev_bindc e2 (Ev_bindc e3 (Ev_bindc e4 (Ev_bindc e5 (Ev.now _))))))

def codeT (xs : List S36) (c : Int) : Int := if areTriesM xs = true then (if 0 ≤ c ∧ c ≤ 19 then 0 else 2) else 1
theorem l24Code_ev (xs : List S36) (hn : xs.length ≤ 1000000) (c : Int) : Ev (fun k => spec_l24Code.f k xs c) (codeT xs c) := by
  unfold spec_l24Code.f codeT
  refine Ev.bind (spec_AreTries_ev xs hn) ?_
  simp only [l01In_eq, Option.bind_some, decide_eq_true_eq]
  refine Ev_ite (fun h => ?_) (fun h => by rw [if_neg h]; exact Ev.now _)
  rw [if_pos h]
  exact Ev_ite (fun h => by rw [if_pos h]; exact Ev.now _) (fun h => by rw [if_neg h]; exact Ev.now _)
theorem codeT_0 {xs : List S36} {c : Int} (h : codeT xs c = 0) : areTriesM xs = true ∧ 0 ≤ c ∧ c ≤ 19 := by
  unfold codeT at h
  by_cases h1 : areTriesM xs = true
  · rw [if_pos h1] at h
    by_cases h2 : 0 ≤ c ∧ c ≤ 19
    · exact ⟨h1, h2⟩
    · rw [if_neg h2] at h; exact absurd h (by decide)
  · rw [if_neg h1] at h; exact absurd h (by decide)
theorem areTries_range {xs : List S36} (h : areTriesM xs = true) : xs.length ≤ 40 ∧ ∀ x ∈ xs, 0 ≤ x.f1 ∧ x.f1 ≤ 100000 := by
  have h2 := (areTriesM_iff xs).1 h
  have := take_range (xs := xs) (i := xs.length) (by omega) (Int.le_refl _) (fun j h0 h1 => h2.2 j h0 h1)
  rw [Int.toNat_natCast, List.take_length] at this
  exact ⟨h2.1, this⟩

theorem cueAsked_ev (xs : List S36) (c : Int) : Ev (fun k => impl_cueAsked.f k xs c) (codeT xs c) := by
  unfold impl_cueAsked.f codeT
  refine Ev.bind (impl_AreTries_ev xs) ?_
  simp only [isCue_eq, Option.bind_some, decide_eq_true_eq]
  refine Ev_ite (fun h => ?_) (fun h => by rw [if_neg h]; exact Ev.now _)
  rw [if_pos h]
  exact Ev_ite (fun h => by rw [if_pos h]; exact Ev.now _) (fun h => by rw [if_neg h]; exact Ev.now _)

theorem l24State_ev (xs : List S36) (hn : xs.length ≤ 1000000) (c : Int) : Ev (fun k => spec_l24State.f k xs c) (stateT xs c) := by
  unfold spec_l24State.f
  refine Ev.bind (l24Of_ev xs hn c) ?_
  unfold stateT
  simp only [List.length_map]
  refine Ev_ite (fun h => by rw [if_pos h]; exact Ev.now _) (fun h => ?_)
  rw [if_neg h]
  refine Ev_ite (fun h => by rw [if_pos (by omega)]; exact Ev.now _) (fun h => ?_)
  rw [if_neg (show ¬ (ownT xs c).length = 0 by omega)]
  exact Ev_ite (fun h => by rw [if_pos (by omega)]; exact Ev.now _) (fun h => by rw [if_neg (by omega)]; exact Ev.now _)

def nextTryM (xs : List S36) (c : Int) : Int × Int := if codeT xs c = 0 then (if stateT xs c ≥ 2 then (0, 5) else if nextT xs c > 100000 then (0, 4) else (nextT xs c, 0)) else (0, codeT xs c)
theorem stateT_cases (xs : List S36) (c : Int) : stateT xs c = 0 ∨ stateT xs c = 1 ∨ stateT xs c = 2 ∨ stateT xs c = 3 := by unfold stateT; (repeat' split) <;> simp
theorem nextT_nonneg {xs : List S36} (hr : ∀ x ∈ xs, 0 ≤ x.f1 ∧ x.f1 ≤ 100000) (c : Int) : 0 ≤ nextT xs c := by
  have := lastT_range hr
  unfold nextT
  split <;> omega
theorem impl_NextTry_ev (xs : List S36) (hn : xs.length ≤ 1000000) (c : Int) : Ev (fun k => impl_NextTry.f k xs c) (nextTryM xs c) := by
  unfold impl_NextTry.f nextTryM
  refine Ev.bind (cueAsked_ev xs c) (Ev_ite (fun h => ?_) (fun h => by rw [if_neg h]; exact Ev.now _))
  rw [if_pos h]
  have hr := (areTries_range (codeT_0 h).1).2
  have hnn := nextT_nonneg hr c
  refine Ev.bind (cueState_ev xs hn c) ?_
  refine Ev_ite (fun h2 => ?_) (fun h2 => ?_)
  · rw [if_pos (by omega)]
    exact Ev_succ (by simp only [impl_NextTry.j0, if_true]; exact Ev.now _)
  · refine Ev_succ (by
      simp only [impl_NextTry.j0, beq_iff_eq]
      refine Ev_ite (fun h3 => by rw [if_pos (by omega)]; exact Ev.now _) (fun h3 => ?_)
      rw [if_neg (by have := stateT_cases xs c; omega)]
      refine Ev.bind (nextTick_ev xs hn hr c) ?_
      simp only [isTick_eq, Option.bind_some, decide_eq_true_eq]
      exact Ev_ite (fun h4 => by rw [if_neg (by omega)]; exact Ev.now _) (fun h4 => by rw [if_pos (by omega)]; exact Ev.now _))
theorem spec_NextTry_j0 (xs : List S36) (hn : xs.length ≤ 1000000) (hr : ∀ x ∈ xs, 0 ≤ x.f1 ∧ x.f1 ≤ 100000) (c : Int) : Ev (fun k => spec_NextTry.j0 k xs c (lastT xs)) (if nextT xs c > 100000 then (0, 4) else (nextT xs c, 0)) := by
  have hol := ownT_length xs c
  have hor := lastT_range (own_range (c := c) hr)
  refine Ev_succ (by
    simp only [spec_NextTry.j0]
    refine Ev.bind (l24Of_ev xs hn c) ?_
    simp only [List.length_map]
    unfold nextT
    refine Ev_ite (fun hp => ?_) (fun hp => ?_)
    · rw [w64 (x := ((ownT xs c).length : Int) - 1) (by omega) (by omega), lastT_map (by omega), w64 (by omega) (by omega), mx_eq, if_neg (show ¬ (ownT xs c).length = 0 by omega)]
      refine Ev_pos (by omega) (Ev_pos (by omega) ?_)
      exact Ev_ite (fun h4 => by rw [if_pos h4]; exact Ev.now _) (fun h4 => by rw [if_neg h4]; exact Ev.now _)
    · rw [if_pos (show (ownT xs c).length = 0 by omega)]
      exact Ev_ite (fun h4 => by rw [if_pos h4]; exact Ev.now _) (fun h4 => by rw [if_neg h4]; exact Ev.now _))
theorem spec_NextTry_ev (xs : List S36) (hn : xs.length ≤ 1000000) (c : Int) : Ev (fun k => spec_NextTry.f k xs c) (nextTryM xs c) := by
  unfold spec_NextTry.f nextTryM
  refine Ev.bind (l24Code_ev xs hn c) (Ev_ite (fun h => ?_) (fun h => by rw [if_neg h]; exact Ev.now _))
  rw [if_pos h]
  have hr := (areTries_range (codeT_0 h).1).2
  refine Ev.bind (l24State_ev xs hn c) (Ev_ite (fun h2 => by rw [if_pos h2]; exact Ev.now _) (fun h2 => ?_))
  rw [if_neg h2]
  have hj := spec_NextTry_j0 xs hn hr c
  refine Ev_ite (fun hp => ?_) (fun hp => ?_)
  · rw [w64 (by omega) (by omega), lastT_rd (by omega)]
    exact Ev_pos (by omega) (Ev_pos (by omega) hj)
  · have hz : xs = [] := List.eq_nil_of_length_eq_zero (by omega)
    subst hz
    exact hj
theorem core_FnExactNextTry (xs : List S36) (c : Int) (hx : xs.length ≤ 1000000) (_w1 : (Lit.int .i64 c).wf = true) : ∃ r1 r2, Ev (fun k => spec_NextTry.f k xs c) (r1, r2) ∧ Ev (fun k => impl_NextTry.f k xs c) (r1, r2) :=
  ⟨_, _, spec_NextTry_ev xs hx c, impl_NextTry_ev xs hx c⟩

theorem drawNextTry_tells (c : List Int) (hc : ∀ b ∈ c, 0 ≤ b ∧ b ≤ 255) (hl : c.length ≤ 4096) : ∃ xs q, Ev (fun k => spec_DrawNextTry.f k c) (xs, q) ∧ xs.length ≤ 42 := by
  obtain ⟨seed, h0, r0⟩ := from_tells c hc hl
  obtain ⟨xs, q, h1, hx⟩ := drawCueState_tells c hc hl
  obtain ⟨x2, i2, s2, e2, r2, _⟩ := next_tells r0 24 (by omega)
  unfold spec_DrawNextTry.f
  by_cases q0 : x2 = 0
  · obtain ⟨x3, i3, s3, e3, r3, _⟩ := next_tells r2 20 (by omega)
    exact ⟨_, _, Ev.bind h0 (Ev.bind h1 (Ev_bindc e2 (Ev_pos q0 (Ev_bindc e3 (Ev.now _))))), by simp⟩
  · exact ⟨_, _, Ev.bind h0 (Ev.bind h1 (Ev_bindc e2 (Ev_neg q0 (Ev.now _)))), hx⟩
theorem drawAddTry_tells (c : List Int) (hc : ∀ b ∈ c, 0 ≤ b ∧ b ≤ 255) (hl : c.length ≤ 4096) : ∃ xs a b f, Ev (fun k => spec_DrawAddTry.f k c) (xs, a, b, f) ∧ xs.length ≤ 42 := by
  obtain ⟨seed, h0, r0⟩ := from_tells c hc hl
  obtain ⟨xs, i1, s1, h1, r1, hx⟩ := draw24_tells r0
  obtain ⟨x2, i2, s2, e2, r2, _⟩ := next_tells r1 5 (by omega)
  obtain ⟨x3, i3, s3, e3, r3, _⟩ := next_tells r2 500 (by omega)
  obtain ⟨x4, i4, s4, e4, r4, _⟩ := pick_tells r3 [100000, 100001, x3] (by simp) (by simp)
  obtain ⟨x5, i5, s5, e5, r5, _⟩ := next_tells r4 2 (by omega)
  obtain ⟨x6, i6, s6, e6, r6, _⟩ := next_tells r5 3 (by omega)
  obtain ⟨x7, i7, s7, e7, r7, _⟩ := next_tells r6 3 (by omega)
  have hn := spec_NextTry_ev xs (by omega) x2
  unfold spec_DrawAddTry.f
  by_cases hq : (nextTryM xs x2).2 = 0
  · by_cases h6 : x6 > 0
    · exact ⟨_, _, _, _, Ev.bind h0 (Ev.bind h1 (Ev_bindc e2 (Ev_bindc e3 (Ev_bindc e4 (Ev_bindc e5 (Ev.bind hn (Ev_pos hq (Ev_bindc e6 (Ev_pos h6 (Ev_bindc e7 (Ev.now _))))))))))), hx⟩
    · exact ⟨_, _, _, _, Ev.bind h0 (Ev.bind h1 (Ev_bindc e2 (Ev_bindc e3 (Ev_bindc e4 (Ev_bindc e5 (Ev.bind hn (Ev_pos hq (Ev_bindc e6 (Ev_neg h6 (Ev.now _)))))))))), hx⟩
  · exact ⟨_, _, _, _, Ev.bind h0 (Ev.bind h1 (Ev_bindc e2 (Ev_bindc e3 (Ev_bindc e4 (Ev_bindc e5 (Ev.bind hn (Ev_neg hq (Ev.now _)))))))), hx⟩

theorem impl_AddTry_ev (xs : List S36) (hn : xs.length ≤ 1000000) (a b : Int) (c : Bool) : Ev (fun k => impl_AddTry.f k xs a b c) (addTryM xs ⟨a, b, c⟩) := by
  unfold impl_AddTry.f addTryM
  refine Ev.bind (impl_AreTries_ev xs) (Ev_ite (fun h => ?_) (fun h => by rw [if_neg h]; exact Ev.now _))
  rw [if_pos h]
  refine Ev_ite (fun h => by rw [if_pos h]; exact Ev.now _) (fun h => ?_)
  rw [if_neg h]
  simp only [Option.bind_some, List.nil_append, List.length_nil, List.length_singleton]
  refine Ev_pos (by omega) (Ev_pos (by omega) (Ev.bind (impl_AreTries_ev _) ?_))
  exact Ev_ite (fun h => by rw [if_pos h]; exact Ev.now _) (fun h => by rw [if_neg h]; exact Ev.now _)

/-- One more try fits. -/
def OkNew (xs : List S36) (x : S36) : Prop := (0 ≤ x.f0 ∧ x.f0 ≤ 19) ∧ (0 ≤ x.f1 ∧ x.f1 ≤ 100000) ∧ lastF (ownT xs x.f0) = false ∧ ¬ (ownT xs x.f0).length = 3 ∧ nextT xs x.f0 ≤ x.f1
theorem ownT_snoc (xs : List S36) (x : S36) (c : Int) : ownT (xs ++ [x]) c = ownT xs c ++ (if x.f0 = c then [x] else []) := by
  unfold ownT
  rw [List.filter_append]
  congr 1
  by_cases hc : x.f0 = c
  · simp [hc]
  · simp [hc]
theorem okTry_old (xs : List S36) (x : S36) {i : Int} (h0 : 0 ≤ i) (h1 : i < xs.length) : okTry (xs ++ [x]) i = okTry xs i := by
  have e1 : rd_T36 (xs ++ [x]) i = rd_T36 xs i := by
    rw [rdTry h0 (by rw [List.length_append]; omega), rdTry h0 h1, List.getElem_append_left (by omega)]
  have e2 : (xs ++ [x]).take i.toNat = xs.take i.toNat := List.take_append_of_le_length (by omega)
  unfold okTry
  rw [e1, e2]
theorem okTry_new (xs : List S36) (x : S36) : okTry (xs ++ [x]) xs.length = true ↔ OkNew xs x := by
  have e1 : rd_T36 (xs ++ [x]) xs.length = x := by
    rw [rdTry (by omega) (by rw [List.length_append]; simp; omega)]
    simp
  have e2 : (xs ++ [x]).take ((xs.length : Int)).toNat = xs := by simp
  unfold okTry OkNew
  rw [e1, e2, decide_eq_true_eq]
theorem areTries_snoc {xs : List S36} {x : S36} (h : areTriesM xs = true) (hl : ¬ (xs.length : Int) = 40) : areTriesM (xs ++ [x]) = true ↔ OkNew xs x := by
  have h2 := (areTriesM_iff xs).1 h
  rw [areTriesM_iff, List.length_append]
  constructor
  · intro q
    exact (okTry_new xs x).1 (q.2 xs.length (by omega) (by simp; omega))
  · intro q
    refine ⟨by simp; omega, fun i h0 h1 => ?_⟩
    by_cases hi : i = xs.length
    · rw [hi]; exact (okTry_new xs x).2 q
    · have h1 : i < (xs.length : Int) := by simp at h1; omega
      rw [okTry_old xs x h0 h1]
      exact h2.2 i h0 h1
theorem lastT_snoc (l : List S36) (x : S36) : lastT (l ++ [x]) = x.f1 := by unfold lastT; simp
theorem lastF_snoc (l : List S36) (x : S36) : lastF (l ++ [x]) = x.f2 := by unfold lastF; simp
/-- The tries of a cue wait for each other. -/
theorem spaced_take {xs : List S36} (h : areTriesM xs = true) (c : Int) (m : Nat) : m ≤ xs.length → ∀ (j : Nat) (x y : S36), (ownT (xs.take m) c)[j]? = some x → (ownT (xs.take m) c)[j + 1]? = some y → x.f1 + 50 ≤ y.f1 := by
  have hok := ((areTriesM_iff xs).1 h).2
  induction m with
  | zero => intro _ j x y hx; simp [ownT] at hx
  | succ m ih =>
    intro hm j x y hx hy
    have e : xs.take (m + 1) = xs.take m ++ [xs[m]'(by omega)] := List.take_succ_eq_append_getElem (by omega)
    rw [e, ownT_snoc] at hx hy
    by_cases hc : (xs[m]'(by omega)).f0 = c
    · rw [if_pos hc] at hx hy
      by_cases hj : j + 1 < (ownT (xs.take m) c).length
      · rw [List.getElem?_append_left (by omega)] at hx
        rw [List.getElem?_append_left hj] at hy
        exact ih (by omega) j x y hx hy
      · have hjl := (List.getElem?_eq_some_iff.1 hy).1
        rw [List.length_append] at hjl
        simp at hjl
        have hk := of_decide_eq_true (hok (m : Int) (by omega) (by omega))
        rw [rdTry_nat m (by omega), Int.toNat_natCast, hc] at hk
        have hjn : (ownT (xs.take m) c).length = j + 1 := by omega
        rw [List.getElem?_append_left (by omega)] at hx
        rw [List.getElem?_append_right (by omega), show j + 1 - (ownT (xs.take m) c).length = 0 by omega] at hy
        have hy2 : xs[m]'(by omega) = y := by simpa using hy
        have hl : lastT (ownT (xs.take m) c) = x.f1 := by
          unfold lastT
          rw [List.getLast?_eq_getElem?, show (ownT (xs.take m) c).length - 1 = j by omega, hx]
        have hn := hk.2.2.2.2
        unfold nextT at hn
        rw [if_neg (by omega), hl, hy2] at hn
        omega
    · rw [if_neg hc, List.append_nil] at hx hy
      exact ih (by omega) j x y hx hy
theorem spaced {xs : List S36} (h : areTriesM xs = true) (c : Int) (j : Nat) (x y : S36) (hx : (ownT xs c)[j]? = some x) (hy : (ownT xs c)[j + 1]? = some y) : x.f1 + 50 ≤ y.f1 := by
  have := spaced_take h c xs.length (Nat.le_refl _) j x y
  rw [List.take_length] at this
  exact this hx hy

/-- A loop that never stops before its end. -/
def foldU {S : Type} (upd : S → Int → S) : Nat → S → Int → S
  | 0, s, _ => s
  | d + 1, s, i => foldU upd d (upd s i) (i + 1)
theorem foldU_ind {S : Type} {upd : S → Int → S} {n : Int} (Inv : S → Int → Prop) (hstep : ∀ (s : S) (i : Int), 0 ≤ i → i < n → Inv s i → Inv (upd s i) (i + 1)) : ∀ (d : Nat) (s : S) (i : Int), 0 ≤ i → i + d = n → Inv s i → Inv (foldU upd d s i) n := by
  intro d
  induction d with
  | zero => intro s i h0 h1 hI; obtain rfl : i = n := by omega
            exact hI
  | succ d ih => intro s i h0 h1 hI; exact ih _ _ (by omega) (by omega) (hstep s i h0 (by omega) hI)
theorem Ev_forK {S τ : Type} {F : Nat → S → Int → Option τ} {upd : S → Int → S} {n : Int} {r : τ} (Inv : S → Int → Prop)
    (hstep : ∀ (s : S) (i : Int), 0 ≤ i → i < n → Inv s i → Inv (upd s i) (i + 1) ∧ (Ev (fun k => F k (upd s i) (i + 1)) r → Ev (fun k => F k s i) r)) :
    ∀ (d : Nat) (s : S) (i : Int), 0 ≤ i → i + d = n → Inv s i → (Inv (foldU upd d s i) n → Ev (fun k => F k (foldU upd d s i) n) r) → Ev (fun k => F k s i) r := by
  intro d
  induction d with
  | zero => intro s i h0 h1 hI h; obtain rfl : i = n := by omega
            exact h hI
  | succ d ih =>
    intro s i h0 h1 hI h
    obtain ⟨h2, h3⟩ := hstep s i h0 (by omega) hI
    exact h3 (ih _ _ (by omega) (by omega) h2 h)

theorem Ev_allK {τ : Type} {F : Nat → Int → Option τ} {p : Int → Prop} {n : Int} {r bad : τ}
    (hstep : ∀ i : Int, 0 ≤ i → i < n → (p i → Ev (fun k => F k (i + 1)) r → Ev (fun k => F k i) r) ∧ (¬ p i → r = bad → Ev (fun k => F k i) r)) :
    ∀ (d : Nat) (i : Int), 0 ≤ i → i + d = n → (¬ (∀ j : Int, i ≤ j → j < n → p j) → r = bad) → ((∀ j : Int, i ≤ j → j < n → p j) → Ev (fun k => F k n) r) → Ev (fun k => F k i) r := by
  intro d
  induction d with
  | zero => intro i h0 h1 _ h; obtain rfl : i = n := by omega
            exact h (fun j h2 h3 => by omega)
  | succ d ih =>
    intro i h0 h1 hb hg
    obtain ⟨h2, h3⟩ := hstep i h0 (by omega)
    by_cases hp : p i
    · refine h2 hp (ih (i + 1) (by omega) (by omega) (fun h => hb (fun q => h (fun j h4 h5 => q j (by omega) h5))) (fun h => hg (fun j h4 h5 => ?_)))
      by_cases hj : j = i
      · rw [hj]; exact hp
      · exact h j (by omega) h5
    · exact h3 hp (hb (fun q => hp (q i (Int.le_refl _) (by omega))))

theorem likeTries_refl (l : List S36) (h : l.length ≤ 1000000) : Ev (fun k => laws_likeTries.f k l l) true := by
  unfold laws_likeTries.f
  refine Ev_pos rfl ?_
  exact Ev_allK (F := fun k i => laws_likeTries.l0 k l l i) (p := fun _ => True) (n := l.length) (bad := false) (fun i h0 h1 => ⟨fun _ hr => Ev_succ (by
    simp only [laws_likeTries.l0]
    refine Ev_pos h1 (Ev_pos h0 (Ev_pos h1 (Ev_neg (by simp) ?_)))
    rw [w64 (by omega) (by omega)]
    exact hr), fun hp => absurd trivial hp⟩) l.length 0 (by omega) (by omega) (fun hno => absurd (fun _ _ _ => trivial) hno) (fun _ => Ev_succ (by
    simp only [laws_likeTries.l0]
    exact Ev_neg (by omega) (Ev.now _)))

theorem likeInts_refl (l : List Int) (h : l.length ≤ 1000000) : Ev (fun k => laws_likeInts.f k l l) true := by
  unfold laws_likeInts.f
  refine Ev_pos rfl ?_
  exact Ev_allK (F := fun k i => laws_likeInts.l0 k l l i) (p := fun _ => True) (n := l.length) (bad := false) (fun i h0 h1 => ⟨fun _ hr => Ev_succ (by
    simp only [laws_likeInts.l0]
    refine Ev_pos h1 (Ev_pos h0 (Ev_pos h1 (Ev_pos trivial ?_)))
    rw [w64 (by omega) (by omega)]
    exact hr), fun hp => absurd trivial hp⟩) l.length 0 (by omega) (by omega) (fun hno => absurd (fun _ _ _ => trivial) hno) (fun _ => Ev_succ (by
    simp only [laws_likeInts.l0]
    exact Ev_neg (by omega) (Ev.now _)))

def triesOfM (xs : List S36) (c : Int) : List Int × Int := if codeT xs c = 0 then ((ownT xs c).map (·.f1), 0) else ([], codeT xs c)
theorem spec_TriesOf_ev (xs : List S36) (hn : xs.length ≤ 1000000) (c : Int) : Ev (fun k => spec_TriesOf.f k xs c) (triesOfM xs c) := by
  unfold spec_TriesOf.f triesOfM
  refine Ev.bind (l24Code_ev xs hn c) ?_
  exact Ev_ite (fun h => by rw [if_pos h]; exact Ev.bind (l24Of_ev xs hn c) (Ev.now _)) (fun h => by rw [if_neg h]; exact Ev.now _)
theorem fold_f1 (xs : List S36) : ∀ acc : List Int, xs.foldl (fun acc x => acc ++ [x.f1]) acc = acc ++ xs.map (·.f1) := by
  induction xs with
  | nil => intro acc; simp
  | cons x xs ih => intro acc; simp only [List.foldl_cons]; rw [ih]; simp
theorem impl_TriesOf_ev (xs : List S36) (hn : xs.length ≤ 1000000) (c : Int) : Ev (fun k => impl_TriesOf.f k xs c) (triesOfM xs c) := by
  unfold impl_TriesOf.f triesOfM
  refine Ev.bind (cueAsked_ev xs c) (Ev_ite (fun h => ?_) (fun h => by rw [if_neg h]; exact Ev.now _))
  rw [if_pos h]
  have hol := ownT_length xs c
  refine Ev.bind (triesOf_ev xs hn c) ?_
  have h := Ev_for2 (F := fun k s i => impl_TriesOf.l0 k s (ownT xs c) ((ownT xs c).length : Int) i) (step := fun s i => .inr ((fun acc (x : S36) => acc ++ [x.f1]) s (rd_T36 (ownT xs c) i))) (out := fun s => (s, 0)) (n := (ownT xs c).length) (fun s i => (s.length : Int) ≤ i)
    (fun s hI => Ev_succ (by
      simp only [impl_TriesOf.l0]
      exact Ev_neg (by omega) (Ev.now _)))
    (fun s i h0 h1 hI => .inr ⟨_, rfl, (by rw [List.length_append]; simp; omega), fun r hr => Ev_succ (by
      simp only [impl_TriesOf.l0]
      refine Ev_pos h1 (Ev_pos h0 (Ev_pos h1 (Ev_pos (by omega) ?_)))
      rw [w64 (by omega) (by omega)]
      exact hr)⟩) (ownT xs c).length [] 0 (by omega) (by omega) (by simp)
  rw [forM_fold0 (ownT xs c) (rd_T36 (ownT xs c)) (fun j hj => rdTry_nat j hj) (fun acc x => acc ++ [x.f1]) (fun s => (s, (0 : Int))) [], fold_f1] at h
  exact h
theorem triesOfM_length (xs : List S36) (c : Int) (hn : xs.length ≤ 1000000) : (triesOfM xs c).1.length ≤ 1000000 := by
  have := ownT_length xs c
  unfold triesOfM
  split
  · rw [List.length_map]; omega
  · simp
theorem core_FnExactTriesOf (xs : List S36) (c : Int) (hx : xs.length ≤ 1000000) (_w1 : (Lit.int .i64 c).wf = true) : ∃ r1 r2, Ev (fun k => spec_TriesOf.f k xs c) (r1, r2) ∧ Ev (fun k => impl_TriesOf.f k xs c) (r1, r2) ∧ r1.length ≤ 1000000 :=
  ⟨_, _, spec_TriesOf_ev xs hx c, impl_TriesOf_ev xs hx c, triesOfM_length xs c hx⟩

theorem impl_CueState_ev (xs : List S36) (hn : xs.length ≤ 1000000) (c : Int) : Ev (fun k => impl_CueState.f k xs c) (if codeT xs c = 0 then (stateT xs c, 0) else (0, codeT xs c)) := by
  unfold impl_CueState.f
  refine Ev.bind (cueAsked_ev xs c) ?_
  exact Ev_ite (fun h => by rw [if_pos h]; exact Ev.bind (cueState_ev xs hn c) (Ev.now _)) (fun h => by rw [if_neg h]; exact Ev.now _)

theorem rd_f1 (L : List S36) {i : Int} (h0 : 0 ≤ i) (h1 : i < L.length) : ∃ x, L[i.toNat]? = some x ∧ rd (L.map (·.f1)) i = x.f1 := by
  refine ⟨L[i.toNat]'(by omega), List.getElem?_eq_getElem (by omega), ?_⟩
  simp [rd, List.getD_eq_getElem?_getD, List.getElem?_eq_getElem (show i.toNat < L.length by omega)]
theorem okNew_state {xs : List S36} {x : S36} (h : OkNew xs x) : ¬ stateT xs x.f0 ≥ 2 := by
  unfold stateT
  rw [h.2.2.1]
  simp only [Bool.false_eq_true, if_false]
  split
  · omega
  · rw [if_neg h.2.2.2.1]; omega
theorem nextTry_0 {xs : List S36} {q : Int} (h : (nextTryM xs q).2 = 0) : codeT xs q = 0 ∧ ¬ stateT xs q ≥ 2 ∧ ¬ nextT xs q > 100000 ∧ (nextTryM xs q).1 = nextT xs q := by
  unfold nextTryM at h ⊢
  by_cases hc : codeT xs q = 0
  · rw [if_pos hc] at h ⊢
    by_cases hs : stateT xs q ≥ 2
    · rw [if_pos hs] at h; exact absurd h (by decide)
    · rw [if_neg hs] at h ⊢
      by_cases hn : nextT xs q > 100000
      · rw [if_pos hn] at h; exact absurd h (by decide)
      · rw [if_neg hn]; exact ⟨hc, hs, hn, rfl⟩
  · rw [if_neg hc] at h; exact absurd h hc
theorem tries_j4 {xs : List S36} {q : Int} (hx : xs.length ≤ 42) (h : (nextTryM xs q).2 = 0) (b : Bool) (hb : b = ((xs.length : Int) == 40)) : Ev (fun k => laws_FnTries.j4 k xs q (nextTryM xs q).1 b) true := by
  obtain ⟨hc, hs, hn, ht⟩ := nextTry_0 h
  obtain ⟨ha, hq⟩ := codeT_0 hc
  have hr := (areTries_range ha).2
  have h0 := nextT_nonneg hr q
  refine Ev_succ (by
    simp only [laws_FnTries.j4]
    refine Ev_ite (fun _ => Ev.now _) (fun hb2 => ?_)
    have hl : ¬ (xs.length : Int) = 40 := fun e => hb2 (by rw [hb, e]; rfl)
    rw [ht]
    have hsn : lastF (ownT xs q) = false ∧ ¬ (ownT xs q).length = 3 := by
      refine ⟨?_, fun e => ?_⟩
      · rw [Bool.eq_false_iff]; exact fun e => hs (by rw [state23.1.2 e]; omega)
      · by_cases hf : lastF (ownT xs q) = true
        · exact hs (by rw [state23.1.2 hf]; omega)
        · exact hs (by rw [state23.2.2 ⟨by simpa using hf, e⟩]; omega)
    have hnew : OkNew xs ⟨q, nextT xs q, true⟩ := ⟨hq, ⟨h0, (show nextT xs q ≤ 100000 by omega)⟩, hsn.1, hsn.2, Int.le_refl _⟩
    have hadd := impl_AddTry_ev xs (by omega) q (nextT xs q) true
    have ea : addTryM xs ⟨q, nextT xs q, true⟩ = (xs ++ [⟨q, nextT xs q, true⟩], 0) := by
      unfold addTryM; rw [if_pos ha, if_neg hl, if_pos ((areTries_snoc ha hl).2 hnew)]
    rw [ea] at hadd
    have hcs := impl_CueState_ev (xs ++ [⟨q, nextT xs q, true⟩]) (by rw [List.length_append]; simp; omega) q
    have ec : codeT (xs ++ [⟨q, nextT xs q, true⟩]) q = 0 := by unfold codeT; rw [if_pos ((areTries_snoc ha hl).2 hnew), if_pos hq]
    have es : stateT (xs ++ [⟨q, nextT xs q, true⟩]) q = 2 := state23.1.2 (by rw [ownT_snoc, if_pos rfl, lastF_snoc])
    rw [if_pos ec, es] at hcs
    refine Ev.bind hadd (Ev.bind hcs (Ev_pos rfl (Ev_pos rfl (Ev_succ ?_))))
    simp only [laws_FnTries.j5, show ((2 : Int) != 2) = false from rfl, Bool.false_eq_true, if_false]
    refine Ev_ite (fun _ => Ev.now _) (fun hz => ?_)
    rw [w64 (x := nextT xs q - 1) (by omega) (by omega)]
    have hadd2 := impl_AddTry_ev xs (by omega) q (nextT xs q - 1) false
    have ea2 : addTryM xs ⟨q, nextT xs q - 1, false⟩ = ([], 5) := by
      unfold addTryM
      rw [if_pos ha, if_neg hl, if_neg (fun e => by have := ((areTries_snoc ha hl).1 e).2.2.2.2; simp only at this; omega)]
    rw [ea2] at hadd2
    exact Ev.bind hadd2 (Ev_pos rfl (Ev.now _)))
theorem tries_end {xs : List S36} {q : Int} (hx : xs.length ≤ 42) (l : List Int) (b3 i : Int) : Ev (fun k => laws_FnTries.j3 k xs q (nextTryM xs q).1 (nextTryM xs q).2 l b3 i false) true := Ev_succ (by
  simp only [laws_FnTries.j3, Bool.false_eq_true, if_false]
  exact Ev_ite (fun h => tries_j4 hx h _ rfl) (fun _ => Ev_succ (by
    simp only [laws_FnTries.j4, if_true]
    exact Ev.now _)))
theorem tries_l0 {xs : List S36} {q : Int} (hx : xs.length ≤ 42) (d : Nat) : ∀ i : Int, 1 ≤ i → ((triesOfM xs q).1.length : Int) - i ≤ d → i ≤ 100 → Ev (fun k => laws_FnTries.l0 k xs q (nextTryM xs q).1 (nextTryM xs q).2 (triesOfM xs q).1 (triesOfM xs q).2 i) true := by
  have hlen : (triesOfM xs q).1.length ≤ 42 := by
    unfold triesOfM
    split
    · have := ownT_length xs q; simp; omega
    · simp
  induction d with
  | zero =>
    intro i h1 hd hi
    refine Ev_succ (by
      simp only [laws_FnTries.l0]
      rw [decide_eq_false (show ¬ i < ((triesOfM xs q).1.length : Int) by omega)]
      exact Ev_ite (fun _ => tries_end hx _ _ _) (fun _ => tries_end hx _ _ _))
  | succ d ih =>
    intro i h1 hd hi
    by_cases hlt : i < ((triesOfM xs q).1.length : Int)
    · refine Ev_succ (by
        simp only [laws_FnTries.l0]
        rw [decide_eq_true hlt]
        refine Ev_ite (fun h3 => Ev_succ ?_) (fun _ => tries_end hx _ _ _)
        have hc : codeT xs q = 0 := by
          unfold triesOfM at h3
          by_cases hc : codeT xs q = 0
          · exact hc
          · rw [if_neg hc] at h3; exact absurd h3 hc
        obtain ⟨ha, _⟩ := codeT_0 hc
        have hr := own_range (c := q) (areTries_range ha).2
        have e : triesOfM xs q = ((ownT xs q).map (·.f1), 0) := by unfold triesOfM; rw [if_pos hc]
        have hn := ih (i + 1) (by omega) (by omega) (by omega)
        rw [e] at hn hlt hlen ⊢
        simp only [List.length_map] at hlt hlen
        obtain ⟨y, hy, ey⟩ := rd_f1 (ownT xs q) (i := i) (by omega) (by omega)
        obtain ⟨z, hz, ez⟩ := rd_f1 (ownT xs q) (i := i - 1) (by omega) (by omega)
        have hsp := spaced ha q (i - 1).toNat z y hz (by rw [show (i - 1).toNat + 1 = i.toNat by omega]; exact hy)
        have hzr := hr z (List.mem_of_getElem? hz)
        simp only [laws_FnTries.j3, if_true, List.length_map]
        rw [w64 (x := i - 1) (by omega) (by omega), w64 (x := i + 1) (by omega) (by omega), ey, ez, w64 (x := z.f1 + 50) (by omega) (by omega)]
        exact Ev_pos (by omega) (Ev_pos (by omega) (Ev_pos (by omega) (Ev_pos (by omega) (Ev_neg (by omega) hn)))))
    · exact ih i h1 (by omega) hi
theorem FnTries : laws_FnTries.Pure := by
  intro c _ _ hw
  refine Ev.rounds ?_
  unfold laws_FnTries.f
  rw [big_eq]
  simp only [Option.bind_some]
  refine Ev_ite (fun _ => Ev.now _) (fun hb => ?_)
  have hc := bytes_of hw
  have hl : c.length ≤ 4096 := by simpa using hb
  obtain ⟨xs, q, d1, hx⟩ := drawNextTry_tells c hc hl
  obtain ⟨ys, a, b, f, d2, hy⟩ := drawAddTry_tells c hc hl
  refine Ev.bind d1 (Ev.bind (impl_NextTry_ev xs (by omega) q) (Ev.bind (spec_NextTry_ev xs (by omega) q) (Ev.bind d2 (Ev.bind (impl_AddTry_ev ys (by omega) a b f) (Ev.bind (spec_AddTry_ev1 ys (by omega) a b f) (Ev.bind (impl_TriesOf_ev xs (by omega) q) (Ev.bind (spec_TriesOf_ev xs (by omega) q) ?_)))))))
  refine Ev_pos rfl (Ev_pos rfl (Ev_pos rfl (Ev.bind (likeTries_refl _ (by have := addTryM_length ys ⟨a, b, f⟩; omega)) (Ev_pos rfl (Ev_pos rfl (Ev.bind (likeInts_refl _ (triesOfM_length xs q (by omega))) (Ev_pos rfl (Ev.bind (impl_AreTries_ev xs) ?_))))))))
  have e : (areTriesM xs != ((nextTryM xs q).2 != 1)) = false := by
    unfold nextTryM codeT
    by_cases ha : areTriesM xs = true
    · rw [ha]
      simp only [if_true]
      (repeat' split) <;> simp_all
    · have ha2 : areTriesM xs = false := by simpa using ha
      rw [ha2]
      simp
  simp only [e]
  refine Ev_succ (by
    simp only [laws_FnTries.j0, Bool.false_eq_true, if_false]
    have hend : Ev (fun k => laws_FnTries.j1 k xs q (nextTryM xs q).1 (nextTryM xs q).2 (triesOfM xs q).1 (triesOfM xs q).2) true := Ev_succ (by
      simp only [laws_FnTries.j1]
      exact tries_l0 hx 1000000 1 (by omega) (by have := triesOfM_length xs q (by omega); omega) (by omega))
    refine Ev_ite (fun h1 => ?_) (fun _ => hend)
    have hfacts : areTriesM ys = true ∧ ¬ (ys.length : Int) = 40 ∧ areTriesM (ys ++ [⟨a, b, f⟩]) = true ∧ (addTryM ys ⟨a, b, f⟩).1 = ys ++ [⟨a, b, f⟩] := by
      unfold addTryM at h1 ⊢
      by_cases ha : areTriesM ys = true
      · rw [if_pos ha] at h1 ⊢
        by_cases h40 : (ys.length : Int) = 40
        · rw [if_pos h40] at h1; exact absurd h1 (by decide)
        · rw [if_neg h40] at h1 ⊢
          by_cases hn : areTriesM (ys ++ [⟨a, b, f⟩]) = true
          · rw [if_pos hn]; exact ⟨ha, h40, hn, rfl⟩
          · rw [if_neg hn] at h1; exact absurd h1 (by decide)
      · rw [if_neg ha] at h1; exact absurd h1 (by decide)
    obtain ⟨ha, h40, hn, e1⟩ := hfacts
    have hnew := (areTries_snoc ha h40).1 hn
    have hcs := impl_CueState_ev ys (by omega) a
    rw [if_pos (show codeT ys a = 0 by unfold codeT; rw [if_pos ha, if_pos hnew.1])] at hcs
    rw [e1]
    have har := impl_AreTries_ev (ys ++ [⟨a, b, f⟩])
    rw [hn] at har
    exact Ev.bind hcs (Ev_pos rfl (Ev_neg (okNew_state hnew) (Ev.bind har (Ev_pos rfl hend)))))



end Go.Proofs.Ythnpffomoaeeoaa.Pure
