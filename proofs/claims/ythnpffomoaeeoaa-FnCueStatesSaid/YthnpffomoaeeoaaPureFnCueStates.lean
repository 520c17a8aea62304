/- The statement over numbers and lists for FnCueStates: the reference and the program answer alike for all arguments. -/
import Derived.Test.YthnpffomoaeeoaaQFnCueStatesx10
set_option linter.unusedVariables false
set_option linter.unusedSimpArgs false
namespace Go.Proofs.Ythnpffomoaeeoaa.Pure
open Go.RowKit Go.Proofs.Ythnpffomoaeeoaa.PFnCueStates Go.Proofs.YthnpffomoaeeoaaW.PrintWords Go.Proofs.YthnpffomoaeeoaaW.PrintLast Go.Proofs.YthnpffomoaeeoaaW.PrintMore


theorem w64 {x : Int} (h0 : -9223372036854775808 ≤ x) (h1 : x ≤ 9223372036854775807) : wrap64 x = x := by unfold wrap64; omega
theorem Ev_ite {α : Type} {c : Prop} [Decidable c] {g h : Nat → Option α} {r : α} (h1 : c → Ev g r) (h2 : ¬ c → Ev h r) : Ev (fun k => if c then g k else h k) r := by
  by_cases hc : c
  · obtain ⟨K, hK⟩ := h1 hc
    exact ⟨K, fun k hk => (if_pos hc).trans (hK k hk)⟩
  · obtain ⟨K, hK⟩ := h2 hc
    exact ⟨K, fun k hk => (if_neg hc).trans (hK k hk)⟩
theorem Ev_pos {α : Type} {c : Prop} [Decidable c] {g h : Nat → Option α} {r : α} (hc : c) (h1 : Ev g r) : Ev (fun k => if c then g k else h k) r := Ev_ite (fun _ => h1) (fun n => absurd hc n)
theorem Ev_neg {α : Type} {c : Prop} [Decidable c] {g h : Nat → Option α} {r : α} (hc : ¬ c) (h1 : Ev h r) : Ev (fun k => if c then g k else h k) r := Ev_ite (fun n => absurd n hc) (fun _ => h1)
theorem Ev_some {α : Type} {r q : α} (h : r = q) : Ev (fun _ => some r) q := h ▸ Ev.now r
theorem Ev_eq {α : Type} {g : Nat → Option α} {r q : α} (h : r = q) (k : Ev g r) : Ev g q := h ▸ k
theorem Ev_const {α : Type} {o : Option α} {r : α} (h : o = some r) : Ev (fun _ => o) r := by subst h; exact Ev.now r
theorem Ev_bindc {α β : Type} {o : Option α} {f : Nat → α → Option β} {a : α} {r : β} (h : o = some a) (k : Ev (fun n => f n a) r) : Ev (fun n => o.bind (f n)) r := by subst h; exact k
theorem Ev_unique {α : Type} {g : Nat → Option α} {r q : α} (h : Ev g r) (k : Ev g q) : r = q := by
  obtain ⟨K, h⟩ := h
  obtain ⟨L, k⟩ := k
  have h1 := h (max K L) (by omega)
  have h2 := k (max K L) (by omega)
  rw [h1] at h2
  exact Option.some.inj h2
theorem lit64 {x : Int} (h : (Lit.int .i64 x).wf = true) : -9223372036854775808 ≤ x ∧ x ≤ 9223372036854775807 := by
  have h := h
  simp [Lit.wf, IntKind.min, IntKind.max, IntKind.bits, IntKind.signed] at h
  omega
theorem mn_eq (a b : Int) : mn a b = min a b := by unfold mn; omega
theorem mx_eq (a b : Int) : mx a b = max a b := by unfold mx; omega

/-- A loop over the numbers 0 to n - 1: d rounds from i on. -/
def forM {S ρ : Type} (step : S → Int → ρ ⊕ S) (out : S → ρ) : Nat → S → Int → ρ
  | 0, s, _ => out s
  | d + 1, s, i => match step s i with
    | .inl r => r
    | .inr s' => forM step out d s' (i + 1)
theorem Ev_for {S ρ : Type} {F : Nat → S → Int → Option ρ} {step : S → Int → ρ ⊕ S} {out : S → ρ} {n : Nat} (Inv : S → Int → Prop)
    (hend : ∀ s, Inv s n → ∃ K, ∀ k, K ≤ k → F k s n = some (out s))
    (hstep : ∀ (s : S) (i : Int), 0 ≤ i → i < n → Inv s i → (∃ r, step s i = .inl r ∧ ∃ K, ∀ k, K ≤ k → F k s i = some r) ∨ (∃ s', step s i = .inr s' ∧ Inv s' (i + 1) ∧ ∃ K, ∀ k, K ≤ k → F (k + 1) s i = F k s' (i + 1))) :
    ∀ (d : Nat) (s : S) (i : Int), 0 ≤ i → i + d = n → Inv s i → Ev (fun k => F k s i) (forM step out d s i) := by
  intro d
  induction d with
  | zero =>
    intro s i h0 h1 hI
    obtain rfl : i = n := by omega
    exact hend s hI
  | succ d ih =>
    intro s i h0 h1 hI
    rcases hstep s i h0 (by omega) hI with ⟨r, hr, hK⟩ | ⟨s', hs, hI', K, hK⟩
    · simp only [forM, hr]
      exact hK
    · simp only [forM, hs]
      obtain ⟨K', h⟩ := ih s' (i + 1) (by omega) (by omega) hI'
      refine ⟨K + K' + 1, fun k hk => ?_⟩
      obtain ⟨k, rfl⟩ : ∃ m, k = m + 1 := ⟨k - 1, by omega⟩
      exact (hK k (by omega)).trans (h k (by omega))
/-- What holds at the end of a loop. -/
theorem forM_ind {S ρ : Type} {step : S → Int → ρ ⊕ S} {out : S → ρ} {n : Nat} (Inv : S → Int → Prop) (Post : ρ → Prop) (hend : ∀ s, Inv s n → Post (out s))
    (hstep : ∀ (s : S) (i : Int), 0 ≤ i → i < n → Inv s i → (∀ r, step s i = .inl r → Post r) ∧ ∀ s', step s i = .inr s' → Inv s' (i + 1)) : ∀ (d : Nat) (s : S) (i : Int), 0 ≤ i → i + d = n → Inv s i → Post (forM step out d s i) := by
  intro d
  induction d with
  | zero =>
    intro s i h0 h1 hI
    obtain rfl : i = n := by omega
    exact hend s hI
  | succ d ih =>
    intro s i h0 h1 hI
    obtain ⟨h2, h3⟩ := hstep s i h0 (by omega) hI
    simp only [forM]
    cases hs : step s i with
    | inl r => exact h2 r hs
    | inr s' => exact ih s' (i + 1) (by omega) (by omega) (h3 s' hs)

/-- The source of the draws: the code's bytes, the place in it, the seed. -/
def Rd (c : List Int) (i seed : Int) : Prop := (∀ b ∈ c, 0 ≤ b ∧ b ≤ 255) ∧ c.length ≤ 4096 ∧ 0 ≤ i ∧ i ≤ c.length ∧ 0 ≤ seed ∧ seed < 2147483647
theorem rd_byte {c : List Int} (hc : ∀ b ∈ c, 0 ≤ b ∧ b ≤ 255) (i : Int) : 0 ≤ rd c i ∧ rd c i ≤ 255 := by
  unfold rd
  by_cases h : i.toNat < c.length
  · rw [List.getD_eq_getElem?_getD, List.getElem?_eq_getElem h]
    exact hc _ (List.getElem_mem h)
  · rw [List.getD_eq_getElem?_getD, List.getElem?_eq_none (by omega)]
    simp
theorem next_tells {c : List Int} {i seed : Int} (hr : Rd c i seed) (n : Int) (hn : n ≤ 4000000000000000000) : ∃ x i' s', spec_l01Next.f c i seed n = some (x, i', s') ∧ Rd c i' s' ∧ 0 ≤ x ∧ (1 ≤ n → x < n) := by
  obtain ⟨hc, hl, h0, h1, h2, h3⟩ := hr
  have e1 : wrap64 (wrap64 (seed * 48271) + 29) = seed * 48271 + 29 := by rw [w64 (x := seed * 48271) (by omega) (by omega), w64 (by omega) (by omega)]
  have e2 : Int.tmod (seed * 48271 + 29) 2147483647 = (seed * 48271 + 29) % 2147483647 := Int.tmod_eq_emod_of_nonneg (by omega)
  obtain ⟨s1, hs1⟩ : ∃ s1, s1 = (seed * 48271 + 29) % 2147483647 := ⟨_, rfl⟩
  have b0 : 0 ≤ s1 ∧ s1 < 2147483647 := by omega
  have e3 : wrap64 (Int.tdiv s1 31) = s1 / 31 := by
    rw [Int.tdiv_eq_ediv_of_nonneg b0.1]; exact w64 (by omega) (by omega)
  unfold spec_l01Next.f
  rw [e1, e2, ← hs1, e3]
  by_cases hn1 : n ≤ 1
  · rw [if_pos hn1]
    exact ⟨0, i, seed, rfl, ⟨hc, hl, h0, h1, h2, h3⟩, by omega, by omega⟩
  · rw [if_neg hn1]
    have hm : ∀ x : Int, 0 ≤ x → 0 ≤ Int.tmod x n ∧ Int.tmod x n < n := fun x hx => by
      rw [Int.tmod_eq_emod_of_nonneg hx]
      exact ⟨Int.emod_nonneg x (by omega), Int.emod_lt_of_pos x (by omega)⟩
    by_cases hi : i < (c.length : Int)
    · have hb := rd_byte hc i
      have w1 : wrap64 (i + 1) = i + 1 := w64 (by omega) (by omega)
      have w2 : wrap64 (i + 1 - 1) = i := by rw [w64 (by omega) (by omega)]; omega
      have w3 : wrap64 (rd c i) = rd c i := w64 (by omega) (by omega)
      have w4 : wrap64 (s1 / 31 + rd c i) = s1 / 31 + rd c i := w64 (by omega) (by omega)
      rw [if_pos hi, if_pos h0, w1, w2, w3, w4]
      have r1 := hm (rd c i) hb.1
      have r2 := hm (s1 / 31 + rd c i) (by omega)
      have hR : Rd c (i + 1) s1 := ⟨hc, hl, by omega, by omega, b0.1, b0.2⟩
      by_cases h256 : n ≤ 256
      · rw [if_pos h256]
        by_cases ht : Int.tmod (i + 1) 2 = 0
        · rw [if_pos ht, if_pos h0, if_pos hi, if_neg (by omega)]
          exact ⟨_, _, _, rfl, hR, r1.1, fun _ => r1.2⟩
        · rw [if_neg ht, if_neg (by omega)]
          exact ⟨_, _, _, rfl, hR, r2.1, fun _ => r2.2⟩
      · rw [if_neg h256, if_neg (by omega)]
        exact ⟨_, _, _, rfl, hR, r2.1, fun _ => r2.2⟩
    · have r3 := hm (s1 / 31) (by omega)
      rw [if_neg hi, if_neg (by omega)]
      exact ⟨_, _, _, rfl, ⟨hc, hl, h0, h1, b0.1, b0.2⟩, r3.1, fun _ => r3.2⟩
theorem from_tells (c : List Int) (hc : ∀ b ∈ c, 0 ≤ b ∧ b ≤ 255) (hl : c.length ≤ 4096) : ∃ seed, Ev (fun k => spec_l01From.f k c) (c, 0, seed) ∧ Rd c 0 seed := by
  have h := Ev_for (F := fun k s i => spec_l01From.l0 k c i c 0 s) (step := fun s i => if i < 64 then .inr ((s * 83 + rd c i) % 2147483647) else .inl (c, 0, s)) (out := fun s => (c, 0, s)) (n := c.length) (fun s i => 0 ≤ s ∧ s < 2147483647)
    (fun s hI => ⟨1, fun k hk => by
      obtain ⟨k, rfl⟩ : ∃ m, k = m + 1 := ⟨k - 1, by omega⟩
      simp only [spec_l01From.l0]
      rw [if_neg (by omega)]⟩)
    (fun s i h0 h1 hI => by
      have hb := rd_byte hc i
      by_cases h64 : i < 64
      · refine .inr ⟨_, if_pos h64, by omega, 0, fun k _ => ?_⟩
        simp only [spec_l01From.l0]
        rw [if_pos h1, if_pos h64, if_pos h0, w64 (x := i + 1) (by omega) (by omega), w64 (x := s * 83) (by omega) (by omega), w64 (x := rd c i) (by omega) (by omega), w64 (by omega) (by omega), Int.tmod_eq_emod_of_nonneg (by omega)]
      · refine .inl ⟨_, if_neg h64, 1, fun k hk => ?_⟩
        obtain ⟨k, rfl⟩ : ∃ m, k = m + 1 := ⟨k - 1, by omega⟩
        simp only [spec_l01From.l0]
        rw [if_pos h1, if_neg h64]) c.length 61043 0 (by omega) (by omega) (by omega)
  have h2 := forM_ind (step := fun s i => if i < 64 then .inr ((s * 83 + rd c i) % 2147483647) else .inl (c, 0, s)) (out := fun s => (c, (0 : Int), s)) (n := c.length) (fun s _ => 0 ≤ s ∧ s < 2147483647) (fun r => ∃ s, r = (c, (0 : Int), s) ∧ 0 ≤ s ∧ s < 2147483647) (fun s hI => ⟨s, rfl, hI⟩)
    (fun s i h0 h1 hI => ⟨fun r hr => by
        split at hr
        · cases hr
        · injection hr with hr
          exact ⟨s, hr.symm, hI⟩, fun s' hr => by
        split at hr
        · injection hr with hr
          omega
        · cases hr⟩) c.length 61043 0 (by omega) (by omega) (by omega)
  obtain ⟨s, hs, hb⟩ := h2
  refine ⟨s, ?_, hc, hl, by omega, by omega, hb.1, hb.2⟩
  rw [hs] at h
  exact h
/-- What a statement over a code knows of its bytes. -/
theorem bytes_of {c : List Int} (h : ∀ x ∈ c, (Lit.int .u8 x).wf = true) : ∀ b ∈ c, 0 ≤ b ∧ b ≤ 255 := fun b hb => by
  have h := h b hb
  simp [Lit.wf, IntKind.min, IntKind.max, IntKind.bits, IntKind.signed] at h
  omega
theorem big_eq (c : List Int) : laws_big.f c = some (decide (c.length > 4096)) := by
  unfold laws_big.f
  congr 1
  rw [decide_eq_decide]
  omega

theorem pick_tells {c : List Int} {i seed : Int} (hr : Rd c i seed) (l : List Int) (h0 : 0 < l.length) (hl : l.length ≤ 1000) : ∃ x i' s', spec_l01Pick.f c i seed l = some (x, i', s') ∧ Rd c i' s' ∧ x ∈ l := by
  obtain ⟨x, i', s', h1, h2, h3, h4⟩ := next_tells hr (l.length : Int) (by omega)
  have h4 := h4 (by omega)
  unfold spec_l01Pick.f
  rw [h1]
  simp only [Option.bind_some]
  rw [if_pos h3, if_pos h4]
  refine ⟨_, _, _, rfl, h2, ?_⟩
  unfold rd
  rw [List.getD_eq_getElem?_getD, List.getElem?_eq_getElem (show x.toNat < l.length by omega)]
  exact List.getElem_mem _

theorem within_eq (a lo hi : Int) : impl_within.f a lo hi = some (decide (lo ≤ a ∧ a ≤ hi)) := by
  unfold impl_within.f
  by_cases h : lo ≤ a <;> simp [h]

theorem isCue_eq (a : Int) : impl_isCue.f a = some (decide (0 ≤ a ∧ a ≤ 19)) := by unfold impl_isCue.f; rw [within_eq]; rfl
theorem isTick_eq (a : Int) : impl_isTick.f a = some (decide (0 ≤ a ∧ a ≤ 100000)) := by unfold impl_isTick.f; rw [within_eq]; rfl

theorem l01In_eq (a lo hi : Int) : spec_l01In.f a lo hi = some (decide (lo ≤ a ∧ a ≤ hi)) := by
  unfold spec_l01In.f
  by_cases h : a ≥ lo
  · have : lo ≤ a := h
    simp [this]
  · have : ¬ lo ≤ a := h
    simp [this]

theorem Ev_succ {α : Type} {g : Nat → Option α} {r : α} (h : Ev (fun k => g (k + 1)) r) : Ev g r := Ev.step (fun _ => rfl) h
theorem Ev_for2 {S ρ : Type} {F : Nat → S → Int → Option ρ} {step : S → Int → ρ ⊕ S} {out : S → ρ} {n : Nat} (Inv : S → Int → Prop)
    (hend : ∀ s, Inv s n → Ev (fun k => F k s n) (out s))
    (hstep : ∀ (s : S) (i : Int), 0 ≤ i → i < n → Inv s i → (∃ r, step s i = .inl r ∧ Ev (fun k => F k s i) r) ∨ (∃ s', step s i = .inr s' ∧ Inv s' (i + 1) ∧ ∀ r, Ev (fun k => F k s' (i + 1)) r → Ev (fun k => F k s i) r)) :
    ∀ (d : Nat) (s : S) (i : Int), 0 ≤ i → i + d = n → Inv s i → Ev (fun k => F k s i) (forM step out d s i) := by
  intro d
  induction d with
  | zero =>
    intro s i h0 h1 hI
    obtain rfl : i = n := by omega
    exact hend s hI
  | succ d ih =>
    intro s i h0 h1 hI
    rcases hstep s i h0 (by omega) hI with ⟨r, hr, hK⟩ | ⟨s', hs, hI', hK⟩
    · simp only [forM, hr]
      exact hK
    · simp only [forM, hs]
      exact hK _ (ih s' (i + 1) (by omega) (by omega) hI')
/-- A loop over a list that only gathers: a fold. -/
theorem forM_fold {S ρ α : Type} (xs : List α) (rdx : Int → α) (hrd : ∀ (j : Nat) (h : j < xs.length), rdx j = xs[j]) (upd : S → α → S) (out : S → ρ) (d : Nat) : ∀ (s : S) (i : Nat), i + d = xs.length →
    forM (ρ := ρ) (fun s i => .inr (upd s (rdx i))) out d s i = out ((xs.drop i).foldl upd s) := by
  induction d with
  | zero =>
    intro s i hi
    rw [List.drop_eq_nil_of_le (by omega)]
    rfl
  | succ d ih =>
    intro s i hi
    rw [List.drop_eq_getElem_cons (show i < xs.length by omega)]
    simp only [forM, List.foldl_cons]
    have := ih (upd s (rdx i)) (i + 1) (by omega)
    rw [← hrd i (by omega)]
    exact this
theorem forM_fold0 {S ρ α : Type} (xs : List α) (rdx : Int → α) (hrd : ∀ (j : Nat) (h : j < xs.length), rdx j = xs[j]) (upd : S → α → S) (out : S → ρ) (s : S) :
    forM (ρ := ρ) (fun s i => .inr (upd s (rdx i))) out xs.length s 0 = out (xs.foldl upd s) := by
  have := forM_fold xs rdx hrd upd out xs.length s 0 (by omega)
  rw [List.drop_zero] at this
  exact this
/-- A loop that looks at each place, and stops at the first that fails. -/
theorem forM_all {p : Int → Bool} {b : Bool} {n : Nat} (d : Nat) : ∀ i : Int, 0 ≤ i → i + d = n → (forM (S := Unit) (ρ := Bool) (fun _ i => if p i = true then .inr () else .inl false) (fun _ => b) d () i = true ↔ b = true ∧ ∀ j : Int, i ≤ j → j < n → p j = true) := by
  induction d with
  | zero =>
    intro i h0 hi
    simp only [forM]
    exact ⟨fun h => ⟨h, fun j h1 h2 => by omega⟩, fun h => h.1⟩
  | succ d ih =>
    intro i h0 hi
    simp only [forM]
    by_cases hp : p i = true
    · rw [if_pos hp]
      refine (ih (i + 1) (by omega) (by omega)).trans ⟨fun h => ⟨h.1, fun j h1 h2 => ?_⟩, fun h => ⟨h.1, fun j h1 h2 => h.2 j (by omega) h2⟩⟩
      by_cases hj : j = i
      · rw [hj]; exact hp
      · exact h.2 j (by omega) h2
    · rw [if_neg hp]
      exact ⟨(fun h => by cases h), fun h => absurd (h.2 i (Int.le_refl _) (by omega)) hp⟩

theorem rdTry {xs : List S36} {i : Int} (h0 : 0 ≤ i) (h1 : i < xs.length) : rd_T36 xs i = xs[i.toNat]'(by omega) := by
  simp [rd_T36, List.getD_eq_getElem?_getD, List.getElem?_eq_getElem (show i.toNat < xs.length by omega)]
theorem rdTry_nat {xs : List S36} (j : Nat) (h : j < xs.length) : rd_T36 xs (j : Int) = xs[j] := by
  rw [rdTry (by omega) (by omega)]; rfl
theorem rd_nat {xs : List Int} (j : Nat) (h : j < xs.length) : rd xs (j : Int) = xs[j] := by
  simp [rd, List.getD_eq_getElem?_getD, List.getElem?_eq_getElem h]
/-- The tries of a cue. -/
def ownT (xs : List S36) (c : Int) : List S36 := xs.filter fun x => x.f0 == c
/-- Has the last try been fired? -/
def lastF (xs : List S36) : Bool := match xs.getLast? with
  | some x => x.f2
  | none => false
/-- The tick of the last try. -/
def lastT (xs : List S36) : Int := match xs.getLast? with
  | some x => x.f1
  | none => 0
theorem ownT_length (xs : List S36) (c : Int) : (ownT xs c).length ≤ xs.length := List.length_filter_le _ _
theorem lastT_rd {xs : List S36} (h : 0 < xs.length) : (rd_T36 xs ((xs.length : Int) - 1)).f1 = lastT xs := by
  rw [rdTry (by omega) (by omega)]
  unfold lastT
  rw [List.getLast?_eq_getElem?, List.getElem?_eq_getElem (show xs.length - 1 < xs.length by omega)]
  congr 2
  omega
theorem lastF_rd {xs : List S36} (h : 0 < xs.length) : (rd_T36 xs ((xs.length : Int) - 1)).f2 = lastF xs := by
  rw [rdTry (by omega) (by omega)]
  unfold lastF
  rw [List.getLast?_eq_getElem?, List.getElem?_eq_getElem (show xs.length - 1 < xs.length by omega)]
  congr 2
  omega
theorem lastT_map {xs : List S36} (h : 0 < xs.length) : rd (xs.map (·.f1)) ((xs.length : Int) - 1) = lastT xs := by
  have e : (xs.length : Int) - 1 = ((xs.length - 1 : Nat) : Int) := by omega
  rw [e, rd_nat _ (by rw [List.length_map]; omega)]
  unfold lastT
  rw [List.getLast?_eq_getElem?, List.getElem?_eq_getElem (show xs.length - 1 < xs.length by omega)]
  simp
theorem fold_own (c : Int) (xs : List S36) : ∀ acc : List S36, xs.foldl (fun acc x => if x.f0 = c then acc ++ [x] else acc) acc = acc ++ ownT xs c := by
  induction xs with
  | nil => intro acc; simp [ownT]
  | cons x xs ih =>
    intro acc
    simp only [List.foldl_cons]
    rw [ih]
    unfold ownT
    by_cases hx : x.f0 = c
    · simp [List.filter_cons, hx]
    · have : (x.f0 == c) = false := by simpa using hx
      simp [List.filter_cons, hx]
theorem triesOf_ev (xs : List S36) (hn : xs.length ≤ 1000000) (c : Int) : Ev (fun k => impl_triesOf.f k xs c) (ownT xs c) := by
  have h := Ev_for2 (F := fun k s i => impl_triesOf.l0 k c s xs (xs.length : Int) i) (step := fun s i => .inr ((fun acc x => if x.f0 = c then acc ++ [x] else acc) s (rd_T36 xs i))) (out := fun s => s) (n := xs.length) (fun s i => (s.length : Int) ≤ i)
    (fun s hI => Ev_succ (by
      simp only [impl_triesOf.l0]
      exact Ev_neg (by omega) (Ev.now _)))
    (fun s i h0 h1 hI => .inr ⟨_, rfl, by
      by_cases hc : (rd_T36 xs i).f0 = c
      · simp only [hc, if_true]; rw [List.length_append]; simp; omega
      · simp only [hc, if_false]; omega, fun r hr => Ev_succ (by
      simp only [impl_triesOf.l0]
      refine Ev_pos h1 (Ev_pos h0 (Ev_pos h1 ?_))
      rw [w64 (by omega) (by omega)]
      refine Ev_ite (fun hc => ?_) (fun hc => ?_)
      · simp only [hc, if_true] at hr ⊢
        exact Ev_pos (by omega) (by rw [← hc] at hr ⊢; exact hr)
      · simp only [hc, if_false] at hr ⊢
        exact hr)⟩) xs.length [] 0 (by omega) (by omega) (by simp)
  rw [forM_fold0 xs (rd_T36 xs) (fun j hj => rdTry_nat j hj) (fun acc x => if x.f0 = c then acc ++ [x] else acc) (fun s => s) [], fold_own] at h
  exact h
theorem fold_l24 (c : Int) (xs : List S36) : ∀ (acc : List Int) (b : Bool), xs.foldl (fun (s : List Int × Bool) x => if x.f0 = c then (s.1 ++ [x.f1], x.f2) else s) (acc, b) = (acc ++ (ownT xs c).map (·.f1), if ownT xs c = [] then b else lastF (ownT xs c)) := by
  induction xs with
  | nil => intro acc b; simp [ownT]
  | cons x xs ih =>
    intro acc b
    simp only [List.foldl_cons]
    by_cases hx : x.f0 = c
    · rw [if_pos hx, ih]
      have e : ownT (x :: xs) c = x :: ownT xs c := by unfold ownT; simp [List.filter_cons, hx]
      rw [e]
      simp only [List.map_cons, List.append_assoc, List.singleton_append, reduceCtorEq, if_false, Prod.mk.injEq, true_and]
      unfold lastF
      cases ho : ownT xs c with
      | nil => simp
      | cons y ys => simp [List.getLast?_cons_cons]
    · rw [if_neg hx, ih]
      have e : ownT (x :: xs) c = ownT xs c := by
        have : (x.f0 == c) = false := by simpa using hx
        unfold ownT; simp [List.filter_cons, hx]
      rw [e]
theorem lastF_nil_or (xs : List S36) : (if xs = [] then false else lastF xs) = lastF xs := by
  by_cases h : xs = []
  · rw [if_pos h, h]; rfl
  · rw [if_neg h]
theorem l24Of_ev (xs : List S36) (hn : xs.length ≤ 1000000) (c : Int) : Ev (fun k => spec_l24Of.f k xs c) ((ownT xs c).map (·.f1), lastF (ownT xs c)) := by
  have h := Ev_for2 (F := fun k (s : List Int × Bool) i => spec_l24Of.l0 k xs c s.1 s.2 i) (step := fun s i => .inr ((fun (s : List Int × Bool) (x : S36) => if x.f0 = c then (s.1 ++ [x.f1], x.f2) else s) s (rd_T36 xs i))) (out := fun s => s) (n := xs.length) (fun s i => (s.1.length : Int) ≤ i)
    (fun s hI => Ev_succ (by
      simp only [spec_l24Of.l0]
      exact Ev_neg (by omega) (Ev.now _)))
    (fun s i h0 h1 hI => .inr ⟨_, rfl, by
      by_cases hc : (rd_T36 xs i).f0 = c
      · simp only [hc, if_true]; rw [List.length_append]; simp; omega
      · simp only [hc, if_false]; omega, fun r hr => Ev_succ (by
      simp only [spec_l24Of.l0]
      refine Ev_pos h1 (Ev_pos h0 ?_)
      rw [w64 (by omega) (by omega)]
      refine Ev_ite (fun hc => ?_) (fun hc => ?_)
      · simp only [hc, if_true] at hr ⊢
        exact Ev_pos (by omega) hr
      · simp only [hc, if_false] at hr ⊢
        exact hr)⟩) xs.length ([], false) 0 (by omega) (by omega) (by simp)
  rw [forM_fold0 xs (rd_T36 xs) (fun j hj => rdTry_nat j hj) (fun (s : List Int × Bool) (x : S36) => if x.f0 = c then (s.1 ++ [x.f1], x.f2) else s) (fun s => s) ([], false), fold_l24, lastF_nil_or] at h
  exact h

/-- The state of a cue. -/
def stateT (xs : List S36) (c : Int) : Int := if lastF (ownT xs c) = true then 2 else if (ownT xs c).length = 0 then 0 else if (ownT xs c).length = 3 then 3 else 1
theorem lastF_pos {xs : List S36} (h : lastF xs = true) : 0 < xs.length := by
  cases xs with
  | nil => cases h
  | cons x xs => simp
theorem cueState_ev (xs : List S36) (hn : xs.length ≤ 1000000) (c : Int) : Ev (fun k => impl_cueState.f k xs c) (stateT xs c) := by
  unfold impl_cueState.f
  have hl := ownT_length xs c
  refine Ev.bind (triesOf_ev xs hn c) ?_
  unfold stateT
  by_cases h0 : (ownT xs c).length = 0
  · have hf : ¬ lastF (ownT xs c) = true := fun h => by have := lastF_pos h; omega
    rw [if_neg hf, if_pos h0]
    exact Ev_pos (by omega) (Ev.now _)
  · rw [w64 (by omega) (by omega)]
    refine Ev_neg (by omega) (Ev_pos (by omega) (Ev_pos (by omega) ?_))
    rw [lastF_rd (by omega)]
    refine Ev_ite (fun h => by rw [if_pos h]; exact Ev.now _) (fun h => ?_)
    rw [if_neg h, if_neg h0]
    refine Ev_ite (fun h => by rw [if_pos (by omega)]; exact Ev.now _) (fun h => by rw [if_neg (by omega)]; exact Ev.now _)

/-- The first tick of a further try. -/
def nextT (xs : List S36) (c : Int) : Int := if (ownT xs c).length = 0 then lastT xs else max (lastT xs) (lastT (ownT xs c) + 50)
theorem lastT_mem {xs : List S36} (h : 0 < xs.length) : ∃ x ∈ xs, lastT xs = x.f1 := by
  refine ⟨xs[xs.length - 1]'(by omega), List.getElem_mem _, ?_⟩
  unfold lastT
  rw [List.getLast?_eq_getElem?, List.getElem?_eq_getElem (show xs.length - 1 < xs.length by omega)]
theorem lastT_range {xs : List S36} (hr : ∀ x ∈ xs, 0 ≤ x.f1 ∧ x.f1 ≤ 100000) : 0 ≤ lastT xs ∧ lastT xs ≤ 100000 := by
  by_cases h : 0 < xs.length
  · obtain ⟨x, hx, e⟩ := lastT_mem h
    rw [e]; exact hr x hx
  · have : xs = [] := List.eq_nil_of_length_eq_zero (by omega)
    subst this
    simp [lastT]
theorem own_range {xs : List S36} {c : Int} (hr : ∀ x ∈ xs, 0 ≤ x.f1 ∧ x.f1 ≤ 100000) : ∀ x ∈ ownT xs c, 0 ≤ x.f1 ∧ x.f1 ≤ 100000 := fun x hx => hr x ((List.mem_filter.1 hx).1)
theorem nextTick_ev (xs : List S36) (hn : xs.length ≤ 1000000) (hr : ∀ x ∈ xs, 0 ≤ x.f1 ∧ x.f1 ≤ 100000) (c : Int) : Ev (fun k => impl_nextTick.f k xs c) (nextT xs c) := by
  have hl := ownT_length xs c
  have ho := lastT_range (own_range (c := c) hr)
  have hx := lastT_range hr
  unfold impl_nextTick.f nextT
  refine Ev_ite (fun h => ?_) (fun h => ?_)
  · rw [w64 (x := (xs.length : Int) - 1) (by omega) (by omega)]
    refine Ev_pos (by omega) (Ev_pos (by omega) (Ev.bind (triesOf_ev xs hn c) ?_))
    rw [lastT_rd (xs := xs) (by omega)]
    by_cases h0 : (ownT xs c).length = 0
    · rw [if_pos h0]
      exact Ev_neg (by omega) (Ev.now _)
    · rw [if_neg h0, w64 (x := ((ownT xs c).length : Int) - 1) (by omega) (by omega), lastT_rd (xs := ownT xs c) (by omega), w64 (by omega) (by omega), mx_eq]
      exact Ev_pos (by omega) (Ev_pos (by omega) (Ev_pos (by omega) (Ev.now _)))
  · have hz : xs = [] := List.eq_nil_of_length_eq_zero (by omega)
    subst hz
    refine Ev.bind (triesOf_ev [] hn c) ?_
    simp only [ownT, List.filter_nil, List.length_nil]
    exact Ev_neg (by omega) (Ev.now _)

/-- The try at a place fits to those before it. -/
def okTry (xs : List S36) (i : Int) : Bool :=
  decide ((0 ≤ (rd_T36 xs i).f0 ∧ (rd_T36 xs i).f0 ≤ 19) ∧ (0 ≤ (rd_T36 xs i).f1 ∧ (rd_T36 xs i).f1 ≤ 100000) ∧ lastF (ownT (xs.take i.toNat) (rd_T36 xs i).f0) = false ∧ ¬ (ownT (xs.take i.toNat) (rd_T36 xs i).f0).length = 3 ∧ nextT (xs.take i.toNat) (rd_T36 xs i).f0 ≤ (rd_T36 xs i).f1)
def areTriesM (xs : List S36) : Bool := forM (S := Unit) (fun _ i => if okTry xs i = true then .inr () else .inl false) (fun _ => decide (xs.length ≤ 40)) xs.length () 0
theorem areTriesM_iff (xs : List S36) : areTriesM xs = true ↔ xs.length ≤ 40 ∧ ∀ i : Int, 0 ≤ i → i < xs.length → okTry xs i = true := by
  unfold areTriesM
  refine (forM_all (p := okTry xs) (n := xs.length) xs.length 0 (by omega) (by omega)).trans ?_
  rw [decide_eq_true_eq]
theorem state23 {xs : List S36} {c : Int} : (stateT xs c = 2 ↔ lastF (ownT xs c) = true) ∧ (stateT xs c = 3 ↔ lastF (ownT xs c) = false ∧ (ownT xs c).length = 3) := by
  unfold stateT
  by_cases h : lastF (ownT xs c) = true
  · rw [if_pos h]; simp [h]
  · rw [if_neg h]
    have hf : lastF (ownT xs c) = false := by simpa using h
    by_cases h0 : (ownT xs c).length = 0
    · rw [if_pos h0]; simp [hf]; omega
    · rw [if_neg h0]
      by_cases h3 : (ownT xs c).length = 3
      · rw [if_pos h3]; simp [hf, h3]
      · rw [if_neg h3]; simp [hf, h3]
theorem take_range {xs : List S36} {i : Int} (h0 : 0 ≤ i) (hi : i ≤ xs.length) (h : ∀ j : Int, 0 ≤ j → j < i → okTry xs j = true) : ∀ x ∈ xs.take i.toNat, 0 ≤ x.f1 ∧ x.f1 ≤ 100000 := fun x hx => by
  obtain ⟨j, hj⟩ := List.mem_iff_getElem?.1 hx
  rw [List.getElem?_take] at hj
  split at hj
  · rename_i hlt
    have hjl := (List.getElem?_eq_some_iff.1 hj).1
    have he := (List.getElem?_eq_some_iff.1 hj).2
    have := of_decide_eq_true (h j (by omega) (by omega))
    rw [rdTry_nat j hjl, he] at this
    exact this.2.1
  · cases hj
theorem impl_areTries_loop (xs : List S36) (hn : xs.length ≤ 40) : Ev (fun k => impl_AreTries.l0 k xs xs (xs.length : Int) 0) (areTriesM xs) := by
  refine Ev_for2 (F := fun k (_ : Unit) i => impl_AreTries.l0 k xs xs (xs.length : Int) i) (n := xs.length) (fun _ i => ∀ j : Int, 0 ≤ j → j < i → okTry xs j = true)
    (fun s hI => Ev_succ (by
      simp only [impl_AreTries.l0]
      rw [decide_eq_true hn]
      exact Ev_neg (by omega) (Ev.now _)))
    (fun s i h0 h1 hI => ?_) xs.length () 0 (by omega) (by omega) (fun j _ _ => by omega)
  have hr := take_range h0 (by omega) hI
  have ht : (xs.take i.toNat).length ≤ 1000000 := by rw [List.length_take]; omega
  have hF : ∀ b r, Ev (fun k => impl_AreTries.j1 k xs i xs (xs.length : Int) i b (rd_T36 xs i).f0 (rd_T36 xs i).f1 (rd_T36 xs i).f2) r → ((0 ≤ (rd_T36 xs i).f0 ∧ (rd_T36 xs i).f0 ≤ 19) ∧ b = !(decide (0 ≤ (rd_T36 xs i).f1 ∧ (rd_T36 xs i).f1 ≤ 100000)) ∨ ¬ (0 ≤ (rd_T36 xs i).f0 ∧ (rd_T36 xs i).f0 ≤ 19) ∧ b = true) → Ev (fun k => impl_AreTries.l0 k xs xs (xs.length : Int) i) r := fun b r h hb => Ev_succ (by
    simp only [impl_AreTries.l0, isCue_eq, isTick_eq, Option.bind_some, decide_eq_true_eq]
    refine Ev_pos h1 (Ev_pos h0 (Ev_pos h1 ?_))
    rcases hb with ⟨hc, rfl⟩ | ⟨hc, rfl⟩
    · exact Ev_pos hc h
    · exact Ev_neg hc h)
  have hno : Ev (fun k => impl_AreTries.j1 k xs i xs (xs.length : Int) i true (rd_T36 xs i).f0 (rd_T36 xs i).f1 (rd_T36 xs i).f2) false := Ev_succ (by
    simp only [impl_AreTries.j1, if_true]; exact Ev.now _)
  have hj : ∀ r, (stateT (xs.take i.toNat) (rd_T36 xs i).f0 = 2 ∨ stateT (xs.take i.toNat) (rd_T36 xs i).f0 = 3 ∨ (rd_T36 xs i).f1 < nextT (xs.take i.toNat) (rd_T36 xs i).f0 → r = false) → (¬ stateT (xs.take i.toNat) (rd_T36 xs i).f0 = 2 ∧ ¬ stateT (xs.take i.toNat) (rd_T36 xs i).f0 = 3 ∧ ¬ (rd_T36 xs i).f1 < nextT (xs.take i.toNat) (rd_T36 xs i).f0 → Ev (fun k => impl_AreTries.l0 k xs xs (xs.length : Int) (i + 1)) r) → Ev (fun k => impl_AreTries.j1 k xs i xs (xs.length : Int) i false (rd_T36 xs i).f0 (rd_T36 xs i).f1 (rd_T36 xs i).f2) r := fun r hf ht' => Ev_succ (by
    simp only [impl_AreTries.j1, Bool.false_eq_true, if_false]
    refine Ev_pos h0 (Ev_pos (by omega) (Ev.bind (cueState_ev _ ht _) ?_))
    refine Ev_ite (fun h2 => Ev_some (hf (.inl h2)).symm) (fun h2 => Ev_ite (fun h3 => Ev_some (hf (.inr (.inl h3))).symm) (fun h3 => Ev.bind (nextTick_ev _ ht hr _) ?_))
    refine Ev_ite (fun h4 => Ev_some (hf (.inr (.inr h4))).symm) (fun h4 => ?_)
    rw [w64 (by omega) (by omega)]
    exact ht' ⟨h2, h3, h4⟩)
  by_cases hc : 0 ≤ (rd_T36 xs i).f0 ∧ (rd_T36 xs i).f0 ≤ 19
  · by_cases ht2 : 0 ≤ (rd_T36 xs i).f1 ∧ (rd_T36 xs i).f1 ≤ 100000
    · have s23 := state23 (xs := xs.take i.toNat) (c := (rd_T36 xs i).f0)
      by_cases hok : okTry xs i = true
      · have hok' := of_decide_eq_true hok
        refine .inr ⟨(), if_pos hok, fun j h2 h3 => ?_, fun r hr' => hF false r (hj r (fun h => ?_) (fun _ => hr')) (.inl ⟨hc, by simp [ht2]⟩)⟩
        · by_cases hji : j = i
          · rw [hji]; exact hok
          · exact hI j h2 (by omega)
        · exfalso
          rcases h with h | h | h
          · rw [s23.1] at h; rw [hok'.2.2.1] at h; cases h
          · rw [s23.2] at h; exact hok'.2.2.2.1 h.2
          · have := hok'.2.2.2.2; omega
      · refine .inl ⟨false, if_neg hok, hF false false (hj false (fun _ => rfl) (fun h => ?_)) (.inl ⟨hc, by simp [ht2]⟩)⟩
        exfalso
        refine hok (decide_eq_true ⟨hc, ht2, ?_, ?_, by omega⟩)
        · rw [s23.1] at h; simpa using h.1
        · intro h3
          rw [s23.1, s23.2] at h
          have : lastF (ownT (xs.take i.toNat) (rd_T36 xs i).f0) = false := by simpa using h.1
          exact h.2.1 ⟨this, h3⟩
    · exact .inl ⟨false, if_neg (fun hok => ht2 (of_decide_eq_true hok).2.1), hF true false hno (.inl ⟨hc, by simp [ht2]⟩)⟩
  · exact .inl ⟨false, if_neg (fun hok => hc (of_decide_eq_true hok).1), hF true false hno (.inr ⟨hc, rfl⟩)⟩
theorem impl_AreTries_ev (xs : List S36) : Ev (fun k => impl_AreTries.f k xs) (areTriesM xs) := by
  unfold impl_AreTries.f
  by_cases h : xs.length ≤ 40
  · exact Ev_neg (by omega) (impl_areTries_loop xs h)
  · have e : areTriesM xs = false := by
      cases hb : areTriesM xs with
      | false => rfl
      | true => exact absurd ((areTriesM_iff xs).1 hb).1 h
    rw [e]
    exact Ev_pos (by omega) (Ev.now _)
theorem nextT_le {xs : List S36} {c t : Int} (ht : 0 ≤ t) : nextT xs c ≤ t ↔ (0 < xs.length → lastT xs ≤ t) ∧ (¬ (ownT xs c).length = 0 → lastT (ownT xs c) + 50 ≤ t) := by
  unfold nextT
  have hz : xs.length = 0 → lastT xs = 0 := fun h => by
    have : xs = [] := List.eq_nil_of_length_eq_zero h
    subst this; rfl
  by_cases h0 : (ownT xs c).length = 0
  · rw [if_pos h0]
    refine ⟨fun h => ⟨fun _ => h, fun hn => absurd h0 hn⟩, fun h => ?_⟩
    by_cases hp : 0 < xs.length
    · exact h.1 hp
    · have := hz (by omega); omega
  · rw [if_neg h0]
    refine ⟨fun h => ⟨fun _ => by omega, fun _ => by omega⟩, fun h => ?_⟩
    have := h.2 h0
    by_cases hp : 0 < xs.length
    · have := h.1 hp; omega
    · have := hz (by omega); omega
theorem lastT_take {xs : List S36} {i : Int} (h0 : 0 < i) (hi : i ≤ xs.length) : lastT (xs.take i.toNat) = (rd_T36 xs (i - 1)).f1 := by
  unfold lastT
  rw [rdTry (by omega) (by omega), List.getLast?_eq_getElem?, List.length_take, List.getElem?_take]
  rw [if_pos (by omega), List.getElem?_eq_getElem (by omega)]
  simp only
  congr 2
  omega
theorem spec_AreTries_ev (xs : List S36) (hn : xs.length ≤ 1000000) : Ev (fun k => spec_AreTries.f k xs) (areTriesM xs) := by
  unfold spec_AreTries.f
  refine Ev_for2 (F := fun k (_ : Unit) i => spec_AreTries.l0 k xs i) (n := xs.length) (fun _ i => ∀ j : Int, 0 ≤ j → j < i → okTry xs j = true)
    (fun s hI => Ev_succ (by
      simp only [spec_AreTries.l0]
      refine Ev_neg (by omega) (Ev_some ?_)
      rw [decide_eq_decide]
      omega))
    (fun s i h0 h1 hI => ?_) xs.length () 0 (by omega) (by omega) (fun j _ _ => by omega)
  have hr := take_range h0 (by omega) hI
  have ht : (xs.take i.toNat).length ≤ 1000000 := by rw [List.length_take]; omega
  have hol := ownT_length (xs.take i.toNat) (rd_T36 xs i).f0
  have hor := lastT_range (own_range (c := (rd_T36 xs i).f0) hr)
  have hF : ∀ b r, Ev (fun k => spec_AreTries.j1 k xs i b (rd_T36 xs i).f0 (rd_T36 xs i).f1 (rd_T36 xs i).f2) r → (b = true ↔ ¬ ((0 ≤ (rd_T36 xs i).f0 ∧ (rd_T36 xs i).f0 ≤ 19) ∧ (0 ≤ (rd_T36 xs i).f1 ∧ (rd_T36 xs i).f1 ≤ 100000) ∧ (0 < i → lastT (xs.take i.toNat) ≤ (rd_T36 xs i).f1))) → Ev (fun k => spec_AreTries.l0 k xs i) r := fun b r h hb => Ev_succ (by
    simp only [spec_AreTries.l0, l01In_eq, Option.bind_some, decide_eq_true_eq]
    refine Ev_pos h1 (Ev_pos h0 ?_)
    by_cases hc : 0 ≤ (rd_T36 xs i).f0 ∧ (rd_T36 xs i).f0 ≤ 19
    · refine Ev_pos hc ?_
      by_cases ht2 : 0 ≤ (rd_T36 xs i).f1 ∧ (rd_T36 xs i).f1 ≤ 100000
      · refine Ev_pos ht2 (Ev_ite (fun hi => ?_) (fun hi => ?_))
        · rw [w64 (by omega) (by omega)]
          refine Ev_pos (by omega) (Ev_pos (by omega) ?_)
          have e : decide ((rd_T36 xs (i - 1)).f1 > (rd_T36 xs i).f1) = b := by
            rw [Bool.eq_iff_iff, hb, decide_eq_true_eq, lastT_take hi (by omega)]
            exact ⟨fun h q => by have := q.2.2 hi; omega, fun h => by
              by_cases hgt : (rd_T36 xs (i - 1)).f1 > (rd_T36 xs i).f1
              · exact hgt
              · exact absurd ⟨hc, ht2, fun _ => by omega⟩ h⟩
          rw [e]
          exact h
        · have e : false = b := by
            rw [Bool.eq_iff_iff, hb]
            exact ⟨(fun h => by cases h), fun h => absurd ⟨hc, ht2, fun hi' => absurd hi' hi⟩ h⟩
          rw [e]
          exact h
      · have e : true = b := (hb.2 (fun q => ht2 q.2.1)).symm
        rw [e]
        exact Ev_neg ht2 h
    · have e : true = b := (hb.2 (fun q => hc q.1)).symm
      rw [e]
      exact Ev_neg hc h)
  by_cases hpre : (0 ≤ (rd_T36 xs i).f0 ∧ (rd_T36 xs i).f0 ≤ 19) ∧ (0 ≤ (rd_T36 xs i).f1 ∧ (rd_T36 xs i).f1 ≤ 100000) ∧ (0 < i → lastT (xs.take i.toNat) ≤ (rd_T36 xs i).f1)
  · have hj : ∀ r, (lastF (ownT (xs.take i.toNat) (rd_T36 xs i).f0) = true ∨ (ownT (xs.take i.toNat) (rd_T36 xs i).f0).length = 3 ∨ (¬ (ownT (xs.take i.toNat) (rd_T36 xs i).f0).length = 0 ∧ (rd_T36 xs i).f1 < lastT (ownT (xs.take i.toNat) (rd_T36 xs i).f0) + 50) → r = false) → (¬ (lastF (ownT (xs.take i.toNat) (rd_T36 xs i).f0) = true ∨ (ownT (xs.take i.toNat) (rd_T36 xs i).f0).length = 3 ∨ (¬ (ownT (xs.take i.toNat) (rd_T36 xs i).f0).length = 0 ∧ (rd_T36 xs i).f1 < lastT (ownT (xs.take i.toNat) (rd_T36 xs i).f0) + 50)) → Ev (fun k => spec_AreTries.l0 k xs (i + 1)) r) → Ev (fun k => spec_AreTries.j1 k xs i false (rd_T36 xs i).f0 (rd_T36 xs i).f1 (rd_T36 xs i).f2) r := fun r hf hg => Ev_succ (by
      simp only [spec_AreTries.j1, Bool.false_eq_true, if_false]
      refine Ev_pos h0 (Ev_pos (by omega) (Ev.bind (l24Of_ev _ ht _) ?_))
      simp only [List.length_map]
      refine Ev_ite (fun h2 => Ev_some (hf (.inl h2)).symm) (fun h2 => Ev_ite (fun h3 => Ev_some (hf (.inr (.inl (by omega)))).symm) (fun h3 => ?_))
      rw [w64 (x := i + 1) (by omega) (by omega)]
      refine Ev_ite (fun hp => ?_) (fun hp => hg (fun q => by rcases q with q | q | q ; exact h2 q; omega; omega))
      rw [w64 (x := ((ownT (xs.take i.toNat) (rd_T36 xs i).f0).length : Int) - 1) (by omega) (by omega), lastT_map (by omega), w64 (by omega) (by omega)]
      refine Ev_pos (by omega) (Ev_pos (by omega) (Ev_ite (fun h4 => Ev_some (hf (.inr (.inr ⟨by omega, h4⟩))).symm) (fun h4 => hg (fun q => by rcases q with q | q | q ; exact h2 q; omega; exact h4 q.2))))
      )
    have hb : (false = true ↔ ¬ ((0 ≤ (rd_T36 xs i).f0 ∧ (rd_T36 xs i).f0 ≤ 19) ∧ (0 ≤ (rd_T36 xs i).f1 ∧ (rd_T36 xs i).f1 ≤ 100000) ∧ (0 < i → lastT (xs.take i.toNat) ≤ (rd_T36 xs i).f1))) := ⟨fun h => (by cases h), fun h => absurd hpre h⟩
    have hlen : 0 < (xs.take i.toNat).length ↔ 0 < i := by rw [List.length_take]; omega
    have hnx := nextT_le (xs := xs.take i.toNat) (c := (rd_T36 xs i).f0) hpre.2.1.1
    by_cases hok : okTry xs i = true
    · have hok' := of_decide_eq_true hok
      refine .inr ⟨(), if_pos hok, fun j h2 h3 => ?_, fun r hr' => hF false r (hj r (fun h => ?_) (fun _ => hr')) hb⟩
      · by_cases hji : j = i
        · rw [hji]; exact hok
        · exact hI j h2 (by omega)
      · exfalso
        rcases h with h | h | h
        · rw [hok'.2.2.1] at h; cases h
        · exact hok'.2.2.2.1 h
        · have := (hnx.1 hok'.2.2.2.2).2 h.1; omega
    · refine .inl ⟨false, if_neg hok, hF false false (hj false (fun _ => rfl) (fun h => ?_)) hb⟩
      exfalso
      refine hok (decide_eq_true ⟨hpre.1, hpre.2.1, ?_, fun h3 => h (.inr (.inl h3)), hnx.2 ⟨fun hp => hpre.2.2 (hlen.1 hp), fun hp => ?_⟩⟩)
      · cases hl : lastF (ownT (xs.take i.toNat) (rd_T36 xs i).f0) with
        | false => rfl
        | true => exact absurd (.inl hl) h
      · by_cases hlt : (rd_T36 xs i).f1 < lastT (ownT (xs.take i.toNat) (rd_T36 xs i).f0) + 50
        · exact absurd (.inr (.inr ⟨hp, hlt⟩)) h
        · omega
  · refine .inl ⟨false, if_neg (fun hok => hpre ?_), hF true false (Ev_succ (by simp only [spec_AreTries.j1, if_true]; exact Ev.now _)) ⟨fun _ => hpre, fun _ => rfl⟩⟩
    have hok' := of_decide_eq_true hok
    have hlen : 0 < (xs.take i.toNat).length ↔ 0 < i := by rw [List.length_take]; omega
    exact ⟨hok'.1, hok'.2.1, fun hi => ((nextT_le hok'.2.1.1).1 hok'.2.2.2.2).1 (hlen.2 hi)⟩

def addTryM (xs : List S36) (x : S36) : List S36 × Int := if areTriesM xs = true then (if (xs.length : Int) = 40 then ([], 3) else if areTriesM (xs ++ [x]) = true then (xs ++ [x], 0) else ([], 5)) else ([], 1)
theorem spec_AddTry_ev (xs : List S36) (hn : xs.length ≤ 999999) (a b : Int) (c : Bool) : Ev (fun k => spec_AddTry.f k xs a b c) (addTryM xs ⟨a, b, c⟩) := by
  unfold spec_AddTry.f addTryM
  refine Ev.bind (spec_AreTries_ev xs (by omega)) (Ev_ite (fun h => ?_) (fun h => by rw [if_neg h]; exact Ev.now _))
  rw [if_pos h]
  refine Ev_ite (fun h => by rw [if_pos h]; exact Ev.now _) (fun h => ?_)
  rw [if_neg h]
  simp only [Option.bind_some, List.nil_append, List.length_nil, List.length_singleton]
  refine Ev_pos (by omega) (Ev_pos (by omega) (Ev.bind (spec_AreTries_ev _ (by rw [List.length_append]; simp; omega)) ?_))
  exact Ev_ite (fun h => by rw [if_pos h]; exact Ev.now _) (fun h => by rw [if_neg h]; exact Ev.now _)
theorem spec_AddTry_ev1 (xs : List S36) (hn : xs.length ≤ 1000000) (a b : Int) (c : Bool) : Ev (fun k => spec_AddTry.f k xs a b c) (addTryM xs ⟨a, b, c⟩) := by
  by_cases h : xs.length ≤ 999999
  · exact spec_AddTry_ev xs h a b c
  · have hno : ¬ areTriesM xs = true := fun q => by have := ((areTriesM_iff xs).1 q).1; omega
    unfold spec_AddTry.f addTryM
    refine Ev.bind (spec_AreTries_ev xs hn) (Ev_neg hno ?_)
    rw [if_neg hno]
    exact Ev.now _
theorem addTryM_length (xs : List S36) (x : S36) : (addTryM xs x).1.length ≤ 41 := by
  unfold addTryM
  repeat' split
  all_goals (first | (simp; done) | (rename_i h _ _; have := ((areTriesM_iff xs).1 h).1; rw [List.length_append]; simp; omega))

theorem good24_l0 (c : List Int) (d : Nat) : ∀ (xs : List S36) (t n i seed : Int), Rd c i seed → n ≤ d → d ≤ 20 → xs.length ≤ 41 → ∃ ys i' s', Ev (fun k => spec_l24Good.l0 k xs t n c i seed) (ys, i', s') ∧ Rd c i' s' ∧ ys.length ≤ 41 := by
  induction d with
  | zero =>
    intro xs t n i seed hr hn hd hx
    exact ⟨xs, i, seed, Ev_succ (by simp only [spec_l24Good.l0]; exact Ev_neg (by omega) (Ev.now _)), hr, hx⟩
  | succ d ih =>
    intro xs t n i seed hr hn hd hx
    by_cases hp : n > 0
    · obtain ⟨a, i1, s1, e1, r1, _⟩ := next_tells hr 4 (by omega)
      obtain ⟨b, i2, s2, e2, r2, _⟩ := next_tells r1 3 (by omega)
      obtain ⟨u, i3, s3, e3, r3, _⟩ := next_tells r2 30 (by omega)
      obtain ⟨v, i4, s4, e4, r4, _⟩ := next_tells r3 60 (by omega)
      obtain ⟨p, i5, s5, e5, r5, _⟩ := pick_tells r4 [0, u, 50, v] (by simp) (by simp)
      have hadd := spec_AddTry_ev1 xs (by omega) a t (b == 0)
      by_cases hq : (addTryM xs ⟨a, t, (b == 0)⟩).2 = 0
      · obtain ⟨ys, i6, s6, h6, r6, hl⟩ := ih (addTryM xs ⟨a, t, (b == 0)⟩).1 (wrap64 (t + p)) (n - 1) i5 s5 r5 (by omega) (by omega) (addTryM_length _ _)
        refine ⟨ys, i6, s6, Ev_succ (by
          simp only [spec_l24Good.l0]
          refine Ev_pos hp (Ev_bindc e1 (Ev_bindc e2 (Ev.bind hadd (Ev_pos hq (Ev_bindc e3 (Ev_bindc e4 (Ev_bindc e5 ?_)))))))
          rw [w64 (x := n - 1) (by omega) (by omega)]
          exact h6), r6, hl⟩
      · obtain ⟨ys, i6, s6, h6, r6, hl⟩ := ih xs (wrap64 (t + p)) (n - 1) i5 s5 r5 (by omega) (by omega) hx
        refine ⟨ys, i6, s6, Ev_succ (by
          simp only [spec_l24Good.l0]
          refine Ev_pos hp (Ev_bindc e1 (Ev_bindc e2 (Ev.bind hadd (Ev_neg hq (Ev_bindc e3 (Ev_bindc e4 (Ev_bindc e5 ?_)))))))
          rw [w64 (x := n - 1) (by omega) (by omega)]
          exact h6), r6, hl⟩
    · exact ⟨xs, i, seed, Ev_succ (by simp only [spec_l24Good.l0]; exact Ev_neg hp (Ev.now _)), hr, hx⟩
theorem draw24_l0 (c : List Int) (d : Nat) : ∀ (xs : List S36) (u i seed : Int), Rd c i seed → 41 - xs.length ≤ d → xs.length ≤ 41 → ∃ ys i' s', Ev (fun k => spec_l24Draw.l0 k xs u c i seed) (ys, i', s') ∧ Rd c i' s' ∧ ys.length ≤ 42 := by
  induction d with
  | zero =>
    intro xs u i seed hr hd hn
    obtain ⟨x1, i1, s1, e1, r1, h1, h2⟩ := next_tells hr 2 (by omega)
    have h2 := h2 (by omega)
    refine ⟨xs, i1, s1, Ev_succ (by
      simp only [spec_l24Draw.l0]
      refine Ev_bindc e1 ?_
      rw [w64 (x := 40 + x1) (by omega) (by omega)]
      exact Ev_neg (by omega) (Ev.now _)), r1, by omega⟩
  | succ d ih =>
    intro xs u i seed hr hd hn
    obtain ⟨x1, i1, s1, e1, r1, h1, h2⟩ := next_tells hr 2 (by omega)
    have h2 := h2 (by omega)
    by_cases hlt : (xs.length : Int) < 40 + x1
    · obtain ⟨ys, i3, s3, h3, r3, hl⟩ := ih (xs ++ [⟨wrap64 (4 + (Int.tmod u 16)), wrap64 (2000 + (wrap64 (50 * (wrap64 (Int.tdiv u 16))))), false⟩]) (wrap64 (u + 1)) i1 s1 r1 (by simp; omega) (by simp; omega)
      refine ⟨ys, i3, s3, Ev_succ (by
        simp only [spec_l24Draw.l0]
        refine Ev_bindc e1 ?_
        rw [w64 (x := 40 + x1) (by omega) (by omega)]
        exact Ev_pos hlt (Ev_pos (by omega) h3)), r3, hl⟩
    · refine ⟨xs, i1, s1, Ev_succ (by
        simp only [spec_l24Draw.l0]
        refine Ev_bindc e1 ?_
        rw [w64 (x := 40 + x1) (by omega) (by omega)]
        exact Ev_neg hlt (Ev.now _)), r1, by omega⟩
theorem draw24_tells {c : List Int} {i seed : Int} (hr : Rd c i seed) : ∃ ys i' s', Ev (fun k => spec_l24Draw.f k c i seed) (ys, i', s') ∧ Rd c i' s' ∧ ys.length ≤ 42 := by
  obtain ⟨t, i1, s1, e1, r1, _⟩ := next_tells hr 20 (by omega)
  obtain ⟨n, i2, s2, e2, r2, h20, h21⟩ := next_tells r1 12 (by omega)
  have h21 := h21 (by omega)
  obtain ⟨xs, i3, s3, h3, r3, hl⟩ := good24_l0 c 12 [] t n i2 s2 r2 (by omega) (by omega) (by simp)
  have hg : Ev (fun k => spec_l24Good.f k c i seed) (xs, i3, s3) := by
    unfold spec_l24Good.f
    exact Ev_bindc e1 (Ev_bindc e2 h3)
  obtain ⟨q, i4, s4, e4, r4, _⟩ := next_tells r3 30 (by omega)
  unfold spec_l24Draw.f
  by_cases q0 : q = 0
  · obtain ⟨a, i5, s5, e5, r5, _⟩ := pick_tells r4 [-1, 19, 20, 0] (by simp) (by simp)
    obtain ⟨b, i6, s6, e6, r6, _⟩ := pick_tells r5 [0, 100000, 100001] (by simp) (by simp)
    exact ⟨_, i6, s6, Ev.bind hg (Ev_bindc e4 (Ev_pos q0 (Ev_bindc e5 (Ev_bindc e6 (Ev_pos (by simp only; omega) (Ev.now _)))))), r6, by simp; omega⟩
  · by_cases q1 : q = 1
    · obtain ⟨ys, i5, s5, h5, r5, h6⟩ := draw24_l0 c 41 xs 0 i4 s4 r4 (by omega) hl
      exact ⟨ys, i5, s5, Ev.bind hg (Ev_bindc e4 (Ev_neg q0 (Ev_pos q1 h5))), r5, h6⟩
    · exact ⟨xs, i4, s4, Ev.bind hg (Ev_bindc e4 (Ev_neg q0 (Ev_neg q1 (Ev.now _)))), r4, by omega⟩
theorem drawCueState_tells (c : List Int) (hc : ∀ b ∈ c, 0 ≤ b ∧ b ≤ 255) (hl : c.length ≤ 4096) : ∃ xs q, Ev (fun k => spec_DrawCueState.f k c) (xs, q) ∧ xs.length ≤ 42 := by
  obtain ⟨seed, h0, r0⟩ := from_tells c hc hl
  obtain ⟨xs, i1, s1, h1, r1, hx⟩ := draw24_tells r0
  obtain ⟨x2, i2, s2, e2, r2, _⟩ := next_tells r1 5 (by omega)
  obtain ⟨x3, i3, s3, e3, r3, _⟩ := next_tells r2 5 (by omega)
  obtain ⟨x4, i4, s4, e4, r4, _⟩ := next_tells r3 4 (by omega)
  obtain ⟨x5, i5, s5, e5, r5, _⟩ := pick_tells r4 [x2, x3, 19, 20, -1, x4] (by simp) (by simp)
  refine ⟨xs, x5, ?_, hx⟩
  unfold spec_DrawCueState.f
  exact Ev.bind h0 (Ev.bind h1 (Ev_bindc e2 (Ev_bindc e3 (Ev_bindc e4 (Ev_bindc e5 (Ev.now _))))))

def codeT (xs : List S36) (c : Int) : Int := if areTriesM xs = true then (if 0 ≤ c ∧ c ≤ 19 then 0 else 2) else 1
theorem l24Code_ev (xs : List S36) (hn : xs.length ≤ 1000000) (c : Int) : Ev (fun k => spec_l24Code.f k xs c) (codeT xs c) := by
  unfold spec_l24Code.f codeT
  refine Ev.bind (spec_AreTries_ev xs hn) ?_
  simp only [l01In_eq, Option.bind_some, decide_eq_true_eq]
  refine Ev_ite (fun h => ?_) (fun h => by rw [if_neg h]; exact Ev.now _)
  rw [if_pos h]
  exact Ev_ite (fun h => by rw [if_pos h]; exact Ev.now _) (fun h => by rw [if_neg h]; exact Ev.now _)
theorem codeT_0 {xs : List S36} {c : Int} (h : codeT xs c = 0) : areTriesM xs = true ∧ 0 ≤ c ∧ c ≤ 19 := by
  unfold codeT at h
  by_cases h1 : areTriesM xs = true
  · rw [if_pos h1] at h
    by_cases h2 : 0 ≤ c ∧ c ≤ 19
    · exact ⟨h1, h2⟩
    · rw [if_neg h2] at h; exact absurd h (by decide)
  · rw [if_neg h1] at h; exact absurd h (by decide)
theorem areTries_range {xs : List S36} (h : areTriesM xs = true) : xs.length ≤ 40 ∧ ∀ x ∈ xs, 0 ≤ x.f1 ∧ x.f1 ≤ 100000 := by
  have h2 := (areTriesM_iff xs).1 h
  have := take_range (xs := xs) (i := xs.length) (by omega) (Int.le_refl _) (fun j h0 h1 => h2.2 j h0 h1)
  rw [Int.toNat_natCast, List.take_length] at this
  exact ⟨h2.1, this⟩

theorem l24State_ev (xs : List S36) (hn : xs.length ≤ 1000000) (c : Int) : Ev (fun k => spec_l24State.f k xs c) (stateT xs c) := by
  unfold spec_l24State.f
  refine Ev.bind (l24Of_ev xs hn c) ?_
  unfold stateT
  simp only [List.length_map]
  refine Ev_ite (fun h => by rw [if_pos h]; exact Ev.now _) (fun h => ?_)
  rw [if_neg h]
  refine Ev_ite (fun h => by rw [if_pos (by omega)]; exact Ev.now _) (fun h => ?_)
  rw [if_neg (show ¬ (ownT xs c).length = 0 by omega)]
  exact Ev_ite (fun h => by rw [if_pos (by omega)]; exact Ev.now _) (fun h => by rw [if_neg (by omega)]; exact Ev.now _)

def cuesStep (xs : List S36) (s : Int) (acc : List Int) (i : Int) : (List Int × Int) ⊕ List Int := .inr (if stateT xs i = s then acc ++ [i] else acc)
def cuesInM (xs : List S36) (s : Int) : List Int × Int := if areTriesM xs = true then (if 0 ≤ s ∧ s ≤ 3 then forM (cuesStep xs s) (fun acc => (acc, 0)) 20 [] 0 else ([], 2)) else ([], 1)
theorem impl_cues_loop (xs : List S36) (hn : xs.length ≤ 1000000) (s : Int) : Ev (fun k => impl_CuesIn.l0 k xs s [] 0) (forM (cuesStep xs s) (fun acc => (acc, 0)) 20 [] 0) :=
  Ev_for2 (F := fun k acc i => impl_CuesIn.l0 k xs s acc i) (n := 20) (fun acc i => (acc.length : Int) ≤ i)
    (fun acc hI => Ev_succ (by simp only [impl_CuesIn.l0]; exact Ev_neg (by omega) (Ev.now _)))
    (fun acc i h0 h1 hI => .inr ⟨_, rfl, by split <;> (try rw [List.length_append]) <;> (try simp) <;> omega, fun r hr => Ev_succ (by
      simp only [impl_CuesIn.l0]
      refine Ev_pos (by omega) (Ev.bind (cueState_ev xs hn i) ?_)
      rw [w64 (by omega) (by omega)]
      refine Ev_ite (fun h => ?_) (fun h => ?_)
      · rw [if_pos h] at hr
        exact Ev_pos (by omega) hr
      · rw [if_neg h] at hr
        exact hr)⟩) 20 [] 0 (by omega) (by omega) (by simp)
theorem spec_cues_loop (xs : List S36) (hn : xs.length ≤ 1000000) (s : Int) : Ev (fun k => spec_CuesIn.l0 k xs s [] 0) (forM (cuesStep xs s) (fun acc => (acc, 0)) 20 [] 0) :=
  Ev_for2 (F := fun k acc i => spec_CuesIn.l0 k xs s acc i) (n := 20) (fun acc i => (acc.length : Int) ≤ i)
    (fun acc hI => Ev_succ (by simp only [spec_CuesIn.l0]; exact Ev_neg (by omega) (Ev.now _)))
    (fun acc i h0 h1 hI => .inr ⟨_, rfl, by split <;> (try rw [List.length_append]) <;> (try simp) <;> omega, fun r hr => Ev_succ (by
      simp only [spec_CuesIn.l0]
      refine Ev_pos (by omega) (Ev.bind (l24State_ev xs hn i) ?_)
      rw [w64 (by omega) (by omega)]
      refine Ev_ite (fun h => ?_) (fun h => ?_)
      · rw [if_pos h] at hr
        exact Ev_pos (by omega) hr
      · rw [if_neg h] at hr
        exact hr)⟩) 20 [] 0 (by omega) (by omega) (by simp)
theorem impl_CuesIn_ev (xs : List S36) (hn : xs.length ≤ 1000000) (s : Int) : Ev (fun k => impl_CuesIn.f k xs s) (cuesInM xs s) := by
  unfold impl_CuesIn.f cuesInM
  refine Ev.bind (impl_AreTries_ev xs) (Ev_ite (fun h => ?_) (fun h => by rw [if_neg h]; exact Ev.now _))
  rw [if_pos h]
  simp only [within_eq, Option.bind_some, decide_eq_true_eq]
  exact Ev_ite (fun h => by rw [if_pos h]; exact impl_cues_loop xs hn s) (fun h => by rw [if_neg h]; exact Ev.now _)
theorem spec_CuesIn_ev (xs : List S36) (hn : xs.length ≤ 1000000) (s : Int) : Ev (fun k => spec_CuesIn.f k xs s) (cuesInM xs s) := by
  unfold spec_CuesIn.f cuesInM
  refine Ev.bind (l24Code_ev xs hn 0) ?_
  have hj : ∀ b c r, Ev (fun k => spec_CuesIn.j1 k xs s (if b = true then 2 else c)) r → Ev (fun k => spec_CuesIn.j0 k xs s c b) r := fun b c r h => Ev_succ (by
    simp only [spec_CuesIn.j0]
    exact Ev_ite (fun hb => by rw [if_pos hb] at h; exact h) (fun hb => by rw [if_neg hb] at h; exact h))
  by_cases h : areTriesM xs = true
  · have e : codeT xs 0 = 0 := by unfold codeT; rw [if_pos h, if_pos (by omega)]
    rw [if_pos h, e]
    simp only [l01In_eq, Option.bind_some, if_true]
    refine hj _ _ _ ?_
    by_cases h2 : 0 ≤ s ∧ s ≤ 3
    · rw [if_pos h2, if_neg (by simp [h2])]
      exact Ev_succ (by simp only [spec_CuesIn.j1, if_true]; exact spec_cues_loop xs hn s)
    · rw [if_neg h2, if_pos (by simp [h2])]
      exact Ev_succ (by simp only [spec_CuesIn.j1]; exact Ev_neg (by decide) (Ev.now _))
  · have e : codeT xs 0 = 1 := by unfold codeT; rw [if_neg h]
    rw [if_neg h, e]
    refine Ev_neg (by decide) (hj _ _ _ ?_)
    simp only [Bool.false_eq_true, if_false]
    exact Ev_succ (by simp only [spec_CuesIn.j1]; exact Ev_neg (by decide) (Ev.now _))
theorem cuesInM_length (xs : List S36) (s : Int) : (cuesInM xs s).1.length ≤ 20 := by
  unfold cuesInM
  split
  · split
    · exact forM_ind (step := cuesStep xs s) (out := fun acc => (acc, (0 : Int))) (n := 20) (fun acc i => (acc.length : Int) ≤ i) (fun r => r.1.length ≤ 20) (fun acc hI => by simp only; omega) (fun acc i h0 h1 hI => ⟨(fun r hr => by cases hr), fun s' hs => by
        injection hs with hs
        subst hs
        split <;> (try rw [List.length_append]) <;> (try simp) <;> omega⟩) 20 [] 0 (by omega) (by omega) (by simp)
    · simp
  · simp
theorem core_FnExactCuesIn (xs : List S36) (s : Int) (hx : xs.length ≤ 1000000) (_w1 : (Lit.int .i64 s).wf = true) : ∃ r1 r2, Ev (fun k => spec_CuesIn.f k xs s) (r1, r2) ∧ Ev (fun k => impl_CuesIn.f k xs s) (r1, r2) ∧ r1.length ≤ 20 :=
  ⟨_, _, spec_CuesIn_ev xs hx s, impl_CuesIn_ev xs hx s, cuesInM_length xs s⟩

/-- A loop that stops at the first that has a property. -/
theorem forM_find {ρ α : Type} (xs : List α) (rdx : Int → α) (hrd : ∀ (j : Nat) (h : j < xs.length), rdx j = xs[j]) (p : α → Bool) (g : α → ρ) (b : ρ) (d : Nat) : ∀ i : Nat, i + d = xs.length →
    forM (S := Unit) (fun _ i => if p (rdx i) = true then .inl (g (rdx i)) else .inr ()) (fun _ => b) d () i = match (xs.drop i).find? p with | some x => g x | none => b := by
  induction d with
  | zero =>
    intro i hi
    rw [List.drop_eq_nil_of_le (by omega)]
    rfl
  | succ d ih =>
    intro i hi
    rw [List.drop_eq_getElem_cons (show i < xs.length by omega)]
    simp only [forM]
    rw [hrd i (by omega)]
    by_cases hp : p (xs[i]'(by omega)) = true
    · rw [if_pos hp, List.find?_cons_of_pos hp]
    · rw [if_neg hp, List.find?_cons_of_neg hp]
      exact ih (i + 1) (by omega)
theorem forM_congr {S ρ : Type} {step step' : S → Int → ρ ⊕ S} {out out' : S → ρ} {n : Nat} (Inv : S → Int → Prop) (hout : ∀ s, Inv s n → out s = out' s) (hstep : ∀ (s : S) (i : Int), 0 ≤ i → i < n → Inv s i → step s i = step' s i ∧ ∀ s', step s i = .inr s' → Inv s' (i + 1)) (d : Nat) : ∀ (s : S) (i : Int), 0 ≤ i → i + d = n → Inv s i → forM step out d s i = forM step' out' d s i := by
  induction d with
  | zero =>
    intro s i h0 h1 hI
    obtain rfl : i = n := by omega
    exact hout s hI
  | succ d ih =>
    intro s i h0 h1 hI
    obtain ⟨h2, h3⟩ := hstep s i h0 (by omega) hI
    simp only [forM]
    rw [← h2]
    cases hs : step s i with
    | inl r => rfl
    | inr s' => exact ih s' (i + 1) (by omega) (by omega) (h3 s' hs)

/-- Only the last try of a cue can have been fired, and there are at most three. -/
def OnlyLast (l : List S36) : Prop := l.length ≤ 3 ∧ ∀ (j : Nat) (x : S36), j + 1 < l.length → l[j]? = some x → x.f2 = false
theorem onlyLast_take {xs : List S36} (h : areTriesM xs = true) (c : Int) (m : Nat) : m ≤ xs.length → OnlyLast (ownT (xs.take m) c) := by
  have hok := ((areTriesM_iff xs).1 h).2
  induction m with
  | zero => intro _; exact ⟨by simp [ownT], fun j x hj => by simp [ownT] at hj⟩
  | succ m ih =>
    intro hm
    obtain ⟨h1, h2⟩ := ih (by omega)
    have e : xs.take (m + 1) = xs.take m ++ [xs[m]'(by omega)] := List.take_succ_eq_append_getElem (by omega)
    have ho : ownT (xs.take (m + 1)) c = ownT (xs.take m) c ++ (if (xs[m]'(by omega)).f0 = c then [xs[m]'(by omega)] else []) := by
      rw [e]
      unfold ownT
      rw [List.filter_append]
      congr 1
      by_cases hc : (xs[m]'(by omega)).f0 = c
      · simp [hc]
      · simp [hc]
    rw [ho]
    by_cases hc : (xs[m]'(by omega)).f0 = c
    · rw [if_pos hc]
      have hk := of_decide_eq_true (hok (m : Int) (by omega) (by omega))
      rw [rdTry_nat m (by omega), Int.toNat_natCast, hc] at hk
      refine ⟨by have := hk.2.2.2.1; rw [List.length_append]; simp; omega, fun j x hj hx => ?_⟩
      rw [List.length_append] at hj
      simp at hj
      rw [List.getElem?_append_left (by omega)] at hx
      by_cases hj2 : j + 1 < (ownT (xs.take m) c).length
      · exact h2 j x hj2 hx
      · have hl := hk.2.2.1
        unfold lastF at hl
        rw [List.getLast?_eq_getElem?, show (ownT (xs.take m) c).length - 1 = j by omega, hx] at hl
        exact hl
    · rw [if_neg hc, List.append_nil]
      exact ⟨h1, h2⟩
theorem onlyLast {xs : List S36} (h : areTriesM xs = true) (c : Int) : OnlyLast (ownT xs c) := by
  have := onlyLast_take h c xs.length (Nat.le_refl _)
  rw [List.take_length] at this
  exact this
theorem find_last {l : List S36} (h : OnlyLast l) : l.find? (·.f2) = if lastF l = true then l.getLast? else none := by
  rcases List.eq_nil_or_concat l with rfl | ⟨ys, z, rfl⟩
  · rfl
  · rw [List.concat_eq_append] at h ⊢
    have hy : ys.find? (·.f2) = none := by
      rw [List.find?_eq_none]
      intro x hx
      obtain ⟨j, hj⟩ := List.mem_iff_getElem?.1 hx
      have hjl := (List.getElem?_eq_some_iff.1 hj).1
      have := h.2 j x (by rw [List.length_append]; simp; omega) (by rw [List.getElem?_append_left hjl]; exact hj)
      simp [this]
    rw [List.find?_append, hy]
    simp only [Option.none_or, lastF, List.getLast?_append, List.getLast?_singleton, Option.some_or]
    cases hz : z.f2 with
    | true => simp [hz]
    | false => simp [hz]

def countStep (xs : List S36) (out : List Int) (c : Int) : (List Int × Int) ⊕ List Int := .inr (if lastF (ownT xs c) = true then out.set ((ownT xs c).length - 1) (wrap64 (rd out (((ownT xs c).length : Int) - 1) + 1)) else out)
def countTriesM (xs : List S36) : List Int × Int := if areTriesM xs = true then forM (countStep xs) (fun o => (o, 0)) 20 (List.replicate 3 0) 0 else ([], 1)
theorem spec_CountTries_ev (xs : List S36) (hn : xs.length ≤ 1000000) : Ev (fun k => spec_CountTries.f k xs) (countTriesM xs) := by
  unfold spec_CountTries.f countTriesM
  refine Ev.bind (l24Code_ev xs hn 0) ?_
  by_cases h : areTriesM xs = true
  · have e : codeT xs 0 = 0 := by unfold codeT; rw [if_pos h, if_pos (by omega)]
    rw [if_pos h, e]
    refine Ev_pos rfl (Ev_pos (by omega) ?_)
    exact Ev_for2 (F := fun k o i => spec_CountTries.l0 k xs o i) (n := 20) (fun o _ => o.length = 3)
      (fun o hI => Ev_succ (by simp only [spec_CountTries.l0]; exact Ev_neg (by omega) (Ev.now _)))
      (fun o i h0 h1 hI => .inr ⟨_, rfl, by split <;> simp [hI], fun r hr => Ev_succ (by
        simp only [spec_CountTries.l0]
        refine Ev_pos (by omega) (Ev.bind (l24Of_ev xs hn i) ?_)
        simp only [List.length_map]
        rw [w64 (x := i + 1) (by omega) (by omega)]
        refine Ev_ite (fun hl => ?_) (fun hl => by rw [if_neg hl] at hr; exact hr)
        have hp := lastF_pos hl
        have h3 := (onlyLast h i).1
        rw [if_pos hl] at hr
        rw [w64 (x := ((ownT xs i).length : Int) - 1) (by omega) (by omega)]
        refine Ev_pos (by omega) (Ev_pos (by omega) ?_)
        rw [show (((ownT xs i).length : Int) - 1).toNat = (ownT xs i).length - 1 by omega]
        exact hr)⟩) 20 (List.replicate 3 0) 0 (by omega) (by omega) (by simp)
  · have e : codeT xs 0 = 1 := by unfold codeT; rw [if_neg h]
    rw [if_neg h, e]
    exact Ev_neg (by decide) (Ev.now _)
theorem impl_count_inner (xs : List S36) (h : areTriesM xs = true) (c : Int) (o : List Int) (ho : o.length = 3) (hc : 0 ≤ c ∧ c < 20) (r : List Int × Int) (d : Nat) : ∀ i : Int, 0 ≤ i → i + d = (ownT xs c).length → Ev (fun k => impl_CountTries.l0 k xs (if lastF (ownT xs c) = true ∧ 0 < d then o.set ((ownT xs c).length - 1) (wrap64 (rd o (((ownT xs c).length : Int) - 1) + 1)) else o) (c + 1)) r →
    Ev (fun k => impl_CountTries.l1 k xs o c (ownT xs c) ((ownT xs c).length : Int) i) r := by
  have h3 := onlyLast h c
  have hlen := h3.1
  induction d with
  | zero =>
    intro i h0 hi hr
    rw [if_neg (by omega)] at hr
    refine Ev_succ ?_
    simp only [impl_CountTries.l1]
    rw [w64 (x := c + 1) (by omega) (by omega)]
    exact Ev_neg (by omega) hr
  | succ d ih =>
    intro i h0 hi hr
    refine Ev_succ ?_
    simp only [impl_CountTries.l1]
    rw [w64 (x := i + 1) (by omega) (by omega)]
    refine Ev_pos (by omega) (Ev_pos h0 (Ev_pos (by omega) ?_))
    by_cases hd : d = 0
    · subst hd
      have ei : i = ((ownT xs c).length : Int) - 1 := by omega
      rw [ei, lastF_rd (by omega)]
      refine Ev_ite (fun hl => ?_) (fun hl => ?_)
      · rw [if_pos ⟨hl, by omega⟩] at hr
        refine Ev_pos (by omega) (Ev_succ ?_)
        simp only [impl_CountTries.l1]
        rw [w64 (x := c + 1) (by omega) (by omega), show (((ownT xs c).length : Int) - 1).toNat = (ownT xs c).length - 1 by omega]
        exact Ev_neg (by omega) hr
      · rw [if_neg (fun q => hl q.1)] at hr
        refine Ev_succ ?_
        simp only [impl_CountTries.l1]
        rw [w64 (x := c + 1) (by omega) (by omega)]
        exact Ev_neg (by omega) hr
    · have hnf : (rd_T36 (ownT xs c) i).f2 = false := by
        rw [rdTry h0 (by omega)]
        exact h3.2 i.toNat _ (by omega) (List.getElem?_eq_getElem (by omega))
      refine Ev_neg (by rw [hnf]; decide) (ih (i + 1) (by omega) (by omega) ?_)
      by_cases hl : lastF (ownT xs c) = true
      · rw [if_pos ⟨hl, by omega⟩] at hr ⊢
        exact hr
      · rw [if_neg (fun q => hl q.1)] at hr ⊢
        exact hr
theorem impl_CountTries_ev (xs : List S36) (hn : xs.length ≤ 1000000) : Ev (fun k => impl_CountTries.f k xs) (countTriesM xs) := by
  unfold impl_CountTries.f countTriesM
  refine Ev.bind (impl_AreTries_ev xs) (Ev_ite (fun h => ?_) (fun h => by rw [if_neg h]; exact Ev.now _))
  rw [if_pos h]
  refine Ev_pos (by omega) ?_
  exact Ev_for2 (F := fun k o i => impl_CountTries.l0 k xs o i) (n := 20) (fun o _ => o.length = 3)
    (fun o hI => Ev_succ (by simp only [impl_CountTries.l0]; exact Ev_neg (by omega) (Ev.now _)))
    (fun o i h0 h1 hI => .inr ⟨_, rfl, by split <;> simp [hI], fun r hr => Ev_succ (by
      simp only [impl_CountTries.l0]
      refine Ev_pos (by omega) (Ev.bind (triesOf_ev xs hn i) ?_)
      refine impl_count_inner xs h i o hI ⟨h0, by omega⟩ r (ownT xs i).length 0 (by omega) (by omega) ?_
      by_cases hl : lastF (ownT xs i) = true
      · rw [if_pos hl] at hr
        rw [if_pos ⟨hl, lastF_pos hl⟩]
        exact hr
      · rw [if_neg hl] at hr
        rw [if_neg (fun q => hl q.1)]
        exact hr)⟩) 20 (List.replicate 3 0) 0 (by omega) (by omega) (by simp)
theorem countTriesM_length (xs : List S36) : (countTriesM xs).1.length ≤ 3 := by
  unfold countTriesM
  split
  · exact forM_ind (step := countStep xs) (out := fun o => (o, (0 : Int))) (n := 20) (fun o _ => o.length = 3) (fun r => r.1.length ≤ 3) (fun o hI => by simp only; omega) (fun o i h0 h1 hI => ⟨(fun r hr => by cases hr), fun s' hs => by
      injection hs with hs
      subst hs
      split <;> simp [hI]⟩) 20 (List.replicate 3 0) 0 (by omega) (by omega) (by simp)
  · simp
theorem core_FnExactCountTries (xs : List S36) (hx : xs.length ≤ 1000000) : ∃ r1 r2, Ev (fun k => spec_CountTries.f k xs) (r1, r2) ∧ Ev (fun k => impl_CountTries.f k xs) (r1, r2) ∧ r1.length ≤ 3 :=
  ⟨_, _, spec_CountTries_ev xs hx, impl_CountTries_ev xs hx, countTriesM_length xs⟩

theorem stateT_c (xs : List S36) (c : Int) : stateT xs c = 0 ∨ stateT xs c = 1 ∨ stateT xs c = 2 ∨ stateT xs c = 3 := by unfold stateT; (repeat' split) <;> simp
/-- How many of the first cues are in a state. -/
def cntS (xs : List S36) (s : Int) : Nat → Int
  | 0 => 0
  | n + 1 => cntS xs s n + if stateT xs (n : Int) = s then 1 else 0
theorem cntS_all (xs : List S36) (n : Nat) : cntS xs 0 n + cntS xs 1 n + cntS xs 2 n + cntS xs 3 n = n := by
  induction n with
  | zero => rfl
  | succ n ih =>
    simp only [cntS]
    rcases stateT_c xs (n : Int) with h | h | h | h <;> rw [h] <;> simp <;> omega
theorem cntS_range (xs : List S36) (s : Int) (n : Nat) : 0 ≤ cntS xs s n ∧ cntS xs s n ≤ n := by
  induction n with
  | zero => exact ⟨Int.le_refl _, Int.le_refl _⟩
  | succ n ih => simp only [cntS]; split <;> omega
theorem cuesIn_count {xs : List S36} (h : areTriesM xs = true) {s : Int} (hs : 0 ≤ s ∧ s ≤ 3) : (cuesInM xs s).2 = 0 ∧ ((cuesInM xs s).1.length : Int) = cntS xs s 20 ∧ ∀ v ∈ (cuesInM xs s).1, (0 ≤ v ∧ v ≤ 19) ∧ stateT xs v = s := by
  unfold cuesInM
  rw [if_pos h, if_pos hs]
  refine forM_ind (step := cuesStep xs s) (out := fun acc => (acc, (0 : Int))) (n := 20) (fun acc i => (acc.length : Int) = cntS xs s i.toNat ∧ ∀ v ∈ acc, (0 ≤ v ∧ v < i) ∧ stateT xs v = s) (fun r => r.2 = 0 ∧ (r.1.length : Int) = cntS xs s 20 ∧ ∀ v ∈ r.1, (0 ≤ v ∧ v ≤ 19) ∧ stateT xs v = s) (fun acc hI => ⟨rfl, hI.1, fun v hv => ⟨by have := (hI.2 v hv).1; omega, (hI.2 v hv).2⟩⟩) (fun acc i h0 h1 hI => ⟨(fun r hr => by cases hr), fun s' hs' => by
    injection hs' with hs'
    subst hs'
    have e : cntS xs s (i + 1).toNat = cntS xs s i.toNat + if stateT xs i = s then 1 else 0 := by
      rw [show (i + 1).toNat = i.toNat + 1 by omega]
      simp only [cntS]
      rw [show ((i.toNat : Nat) : Int) = i by omega]
    rw [e]
    by_cases hq : stateT xs i = s
    · rw [if_pos hq, if_pos hq]
      refine ⟨by rw [List.length_append]; simp; omega, fun v hv => ?_⟩
      rcases List.mem_append.1 hv with hv | hv
      · exact ⟨by have := (hI.2 v hv).1; omega, (hI.2 v hv).2⟩
      · rw [List.mem_singleton.1 hv]; exact ⟨by omega, hq⟩
    · rw [if_neg hq, if_neg hq]
      exact ⟨by omega, fun v hv => ⟨by have := (hI.2 v hv).1; omega, (hI.2 v hv).2⟩⟩⟩) 20 [] 0 (by omega) (by omega) ⟨rfl, fun v hv => by cases hv⟩
theorem countTries_sum {xs : List S36} (h : areTriesM xs = true) : ∃ a b c, (countTriesM xs) = ([a, b, c], 0) ∧ a + b + c = cntS xs 2 20 ∧ (0 ≤ a ∧ a ≤ 20) ∧ (0 ≤ b ∧ b ≤ 20) ∧ 0 ≤ c ∧ c ≤ 20 := by
  unfold countTriesM
  rw [if_pos h]
  refine forM_ind (step := countStep xs) (out := fun o => (o, (0 : Int))) (n := 20) (fun o i => ∃ a b c, o = [a, b, c] ∧ a + b + c = cntS xs 2 i.toNat ∧ (0 ≤ a ∧ a ≤ i) ∧ (0 ≤ b ∧ b ≤ i) ∧ 0 ≤ c ∧ c ≤ i) (fun r => ∃ a b c, r = ([a, b, c], (0 : Int)) ∧ a + b + c = cntS xs 2 20 ∧ (0 ≤ a ∧ a ≤ 20) ∧ (0 ≤ b ∧ b ≤ 20) ∧ 0 ≤ c ∧ c ≤ 20) (fun o hI => by
    obtain ⟨a, b, c, h1, h2⟩ := hI
    exact ⟨a, b, c, by rw [h1], h2⟩) (fun o i h0 h1 hI => ⟨(fun r hr => by cases hr), fun s' hs' => by
    injection hs' with hs'
    obtain ⟨a, b, c, h2, h3, h4, h5, h6⟩ := hI
    have e : cntS xs 2 (i + 1).toNat = cntS xs 2 i.toNat + if stateT xs i = 2 then 1 else 0 := by
      rw [show (i + 1).toNat = i.toNat + 1 by omega]
      simp only [cntS]
      rw [show ((i.toNat : Nat) : Int) = i by omega]
    rw [e]
    by_cases hl : lastF (ownT xs i) = true
    · rw [if_pos hl] at hs'
      have hp := lastF_pos hl
      have hm := (onlyLast h i).1
      rw [if_pos (state23.1.2 hl)]
      subst hs'
      subst h2
      have hc : (ownT xs i).length = 1 ∨ (ownT xs i).length = 2 ∨ (ownT xs i).length = 3 := by omega
      rcases hc with hc | hc | hc
      · rw [hc]
        have e1 : rd [a, b, c] (((1 : Nat) : Int) - 1) = a := rfl
        rw [e1, w64 (by omega) (by omega)]
        exact ⟨a + 1, b, c, rfl, by omega, by omega, by omega, by omega⟩
      · rw [hc]
        have e1 : rd [a, b, c] (((2 : Nat) : Int) - 1) = b := rfl
        rw [e1, w64 (by omega) (by omega)]
        exact ⟨a, b + 1, c, rfl, by omega, by omega, by omega, by omega⟩
      · rw [hc]
        have e1 : rd [a, b, c] (((3 : Nat) : Int) - 1) = c := rfl
        rw [e1, w64 (by omega) (by omega)]
        exact ⟨a, b, c + 1, rfl, by omega, by omega, by omega, by omega⟩
    · rw [if_neg hl] at hs'
      rw [if_neg (fun q => hl (state23.1.1 q))]
      exact ⟨a, b, c, by rw [← hs', h2], by omega, by omega, by omega, by omega⟩⟩) 20 (List.replicate 3 0) 0 (by omega) (by omega) ⟨0, 0, 0, rfl, rfl, by omega, by omega, by omega⟩

/-- A loop that never stops before its end. -/
def foldU {S : Type} (upd : S → Int → S) : Nat → S → Int → S
  | 0, s, _ => s
  | d + 1, s, i => foldU upd d (upd s i) (i + 1)
theorem foldU_ind {S : Type} {upd : S → Int → S} {n : Int} (Inv : S → Int → Prop) (hstep : ∀ (s : S) (i : Int), 0 ≤ i → i < n → Inv s i → Inv (upd s i) (i + 1)) : ∀ (d : Nat) (s : S) (i : Int), 0 ≤ i → i + d = n → Inv s i → Inv (foldU upd d s i) n := by
  intro d
  induction d with
  | zero => intro s i h0 h1 hI; obtain rfl : i = n := by omega
            exact hI
  | succ d ih => intro s i h0 h1 hI; exact ih _ _ (by omega) (by omega) (hstep s i h0 (by omega) hI)
theorem Ev_forK {S τ : Type} {F : Nat → S → Int → Option τ} {upd : S → Int → S} {n : Int} {r : τ} (Inv : S → Int → Prop)
    (hstep : ∀ (s : S) (i : Int), 0 ≤ i → i < n → Inv s i → Inv (upd s i) (i + 1) ∧ (Ev (fun k => F k (upd s i) (i + 1)) r → Ev (fun k => F k s i) r)) :
    ∀ (d : Nat) (s : S) (i : Int), 0 ≤ i → i + d = n → Inv s i → (Inv (foldU upd d s i) n → Ev (fun k => F k (foldU upd d s i) n) r) → Ev (fun k => F k s i) r := by
  intro d
  induction d with
  | zero => intro s i h0 h1 hI h; obtain rfl : i = n := by omega
            exact h hI
  | succ d ih =>
    intro s i h0 h1 hI h
    obtain ⟨h2, h3⟩ := hstep s i h0 (by omega) hI
    exact h3 (ih _ _ (by omega) (by omega) h2 h)

theorem Ev_allK {τ : Type} {F : Nat → Int → Option τ} {p : Int → Prop} {n : Int} {r bad : τ}
    (hstep : ∀ i : Int, 0 ≤ i → i < n → (p i → Ev (fun k => F k (i + 1)) r → Ev (fun k => F k i) r) ∧ (¬ p i → r = bad → Ev (fun k => F k i) r)) :
    ∀ (d : Nat) (i : Int), 0 ≤ i → i + d = n → (¬ (∀ j : Int, i ≤ j → j < n → p j) → r = bad) → ((∀ j : Int, i ≤ j → j < n → p j) → Ev (fun k => F k n) r) → Ev (fun k => F k i) r := by
  intro d
  induction d with
  | zero => intro i h0 h1 _ h; obtain rfl : i = n := by omega
            exact h (fun j h2 h3 => by omega)
  | succ d ih =>
    intro i h0 h1 hb hg
    obtain ⟨h2, h3⟩ := hstep i h0 (by omega)
    by_cases hp : p i
    · refine h2 hp (ih (i + 1) (by omega) (by omega) (fun h => hb (fun q => h (fun j h4 h5 => q j (by omega) h5))) (fun h => hg (fun j h4 h5 => ?_)))
      by_cases hj : j = i
      · rw [hj]; exact hp
      · exact h j (by omega) h5
    · exact h3 hp (hb (fun q => hp (q i (Int.le_refl _) (by omega))))

theorem likeInts_refl (l : List Int) (h : l.length ≤ 1000000) : Ev (fun k => laws_likeInts.f k l l) true := by
  unfold laws_likeInts.f
  refine Ev_pos rfl ?_
  exact Ev_allK (F := fun k i => laws_likeInts.l0 k l l i) (p := fun _ => True) (n := l.length) (bad := false) (fun i h0 h1 => ⟨fun _ hr => Ev_succ (by
    simp only [laws_likeInts.l0]
    refine Ev_pos h1 (Ev_pos h0 (Ev_pos h1 (Ev_pos trivial ?_)))
    rw [w64 (by omega) (by omega)]
    exact hr), fun hp => absurd trivial hp⟩) l.length 0 (by omega) (by omega) (fun hno => absurd (fun _ _ _ => trivial) hno) (fun _ => Ev_succ (by
    simp only [laws_likeInts.l0]
    exact Ev_neg (by omega) (Ev.now _)))

theorem cueAsked_ev (xs : List S36) (c : Int) : Ev (fun k => impl_cueAsked.f k xs c) (codeT xs c) := by
  unfold impl_cueAsked.f codeT
  refine Ev.bind (impl_AreTries_ev xs) ?_
  simp only [isCue_eq, Option.bind_some, decide_eq_true_eq]
  refine Ev_ite (fun h => ?_) (fun h => by rw [if_neg h]; exact Ev.now _)
  rw [if_pos h]
  exact Ev_ite (fun h => by rw [if_pos h]; exact Ev.now _) (fun h => by rw [if_neg h]; exact Ev.now _)

def triesOfM (xs : List S36) (c : Int) : List Int × Int := if codeT xs c = 0 then ((ownT xs c).map (·.f1), 0) else ([], codeT xs c)
theorem spec_TriesOf_ev (xs : List S36) (hn : xs.length ≤ 1000000) (c : Int) : Ev (fun k => spec_TriesOf.f k xs c) (triesOfM xs c) := by
  unfold spec_TriesOf.f triesOfM
  refine Ev.bind (l24Code_ev xs hn c) ?_
  exact Ev_ite (fun h => by rw [if_pos h]; exact Ev.bind (l24Of_ev xs hn c) (Ev.now _)) (fun h => by rw [if_neg h]; exact Ev.now _)
theorem fold_f1 (xs : List S36) : ∀ acc : List Int, xs.foldl (fun acc x => acc ++ [x.f1]) acc = acc ++ xs.map (·.f1) := by
  induction xs with
  | nil => intro acc; simp
  | cons x xs ih => intro acc; simp only [List.foldl_cons]; rw [ih]; simp
theorem impl_TriesOf_ev (xs : List S36) (hn : xs.length ≤ 1000000) (c : Int) : Ev (fun k => impl_TriesOf.f k xs c) (triesOfM xs c) := by
  unfold impl_TriesOf.f triesOfM
  refine Ev.bind (cueAsked_ev xs c) (Ev_ite (fun h => ?_) (fun h => by rw [if_neg h]; exact Ev.now _))
  rw [if_pos h]
  have hol := ownT_length xs c
  refine Ev.bind (triesOf_ev xs hn c) ?_
  have h := Ev_for2 (F := fun k s i => impl_TriesOf.l0 k s (ownT xs c) ((ownT xs c).length : Int) i) (step := fun s i => .inr ((fun acc (x : S36) => acc ++ [x.f1]) s (rd_T36 (ownT xs c) i))) (out := fun s => (s, 0)) (n := (ownT xs c).length) (fun s i => (s.length : Int) ≤ i)
    (fun s hI => Ev_succ (by
      simp only [impl_TriesOf.l0]
      exact Ev_neg (by omega) (Ev.now _)))
    (fun s i h0 h1 hI => .inr ⟨_, rfl, (by rw [List.length_append]; simp; omega), fun r hr => Ev_succ (by
      simp only [impl_TriesOf.l0]
      refine Ev_pos h1 (Ev_pos h0 (Ev_pos h1 (Ev_pos (by omega) ?_)))
      rw [w64 (by omega) (by omega)]
      exact hr)⟩) (ownT xs c).length [] 0 (by omega) (by omega) (by simp)
  rw [forM_fold0 (ownT xs c) (rd_T36 (ownT xs c)) (fun j hj => rdTry_nat j hj) (fun acc x => acc ++ [x.f1]) (fun s => (s, (0 : Int))) [], fold_f1] at h
  exact h
theorem triesOfM_length (xs : List S36) (c : Int) (hn : xs.length ≤ 1000000) : (triesOfM xs c).1.length ≤ 1000000 := by
  have := ownT_length xs c
  unfold triesOfM
  split
  · rw [List.length_map]; omega
  · simp
theorem core_FnExactTriesOf (xs : List S36) (c : Int) (hx : xs.length ≤ 1000000) (_w1 : (Lit.int .i64 c).wf = true) : ∃ r1 r2, Ev (fun k => spec_TriesOf.f k xs c) (r1, r2) ∧ Ev (fun k => impl_TriesOf.f k xs c) (r1, r2) ∧ r1.length ≤ 1000000 :=
  ⟨_, _, spec_TriesOf_ev xs hx c, impl_TriesOf_ev xs hx c, triesOfM_length xs c hx⟩

def firedInM (xs : List S36) (c : Int) : Int × Int := if codeT xs c = 0 then (if lastF (ownT xs c) = true then (lastT (ownT xs c), 0) else (0, 4)) else (0, codeT xs c)
theorem spec_FiredIn_ev (xs : List S36) (hn : xs.length ≤ 1000000) (c : Int) : Ev (fun k => spec_FiredIn.f k xs c) (firedInM xs c) := by
  unfold spec_FiredIn.f firedInM
  have hol := ownT_length xs c
  refine Ev.bind (l24Code_ev xs hn c) (Ev_ite (fun h => ?_) (fun h => by rw [if_neg h]; exact Ev.now _))
  rw [if_pos h]
  refine Ev.bind (l24Of_ev xs hn c) ?_
  simp only [List.length_map]
  refine Ev_ite (fun h2 => ?_) (fun h2 => by rw [if_neg h2]; exact Ev.now _)
  have := lastF_pos h2
  rw [if_pos h2, w64 (by omega) (by omega), lastT_map (by omega)]
  exact Ev_pos (by omega) (Ev_pos (by omega) (Ev.now _))
theorem impl_FiredIn_ev (xs : List S36) (hn : xs.length ≤ 1000000) (c : Int) : Ev (fun k => impl_FiredIn.f k xs c) (firedInM xs c) := by
  unfold impl_FiredIn.f firedInM
  have hol := ownT_length xs c
  refine Ev.bind (cueAsked_ev xs c) (Ev_ite (fun h => ?_) (fun h => by rw [if_neg h]; exact Ev.now _))
  rw [if_pos h]
  refine Ev.bind (triesOf_ev xs hn c) ?_
  have h2 := Ev_for2 (F := fun k (_ : Unit) i => impl_FiredIn.l0 k (ownT xs c) ((ownT xs c).length : Int) i) (step := fun _ i => if (fun x : S36 => x.f2) (rd_T36 (ownT xs c) i) = true then .inl ((fun x : S36 => (x.f1, (0 : Int))) (rd_T36 (ownT xs c) i)) else .inr ()) (out := fun _ => (0, 4)) (n := (ownT xs c).length) (fun _ _ => True)
    (fun s _ => Ev_succ (by simp only [impl_FiredIn.l0]; exact Ev_neg (by omega) (Ev.now _)))
    (fun s i h0 h1 _ => by
      by_cases hf : (rd_T36 (ownT xs c) i).f2 = true
      · refine .inl ⟨_, if_pos hf, Ev_succ ?_⟩
        simp only [impl_FiredIn.l0]
        exact Ev_pos h1 (Ev_pos h0 (Ev_pos h1 (Ev_pos hf (Ev.now _))))
      · refine .inr ⟨(), if_neg hf, trivial, fun r hr => Ev_succ ?_⟩
        simp only [impl_FiredIn.l0]
        rw [w64 (by omega) (by omega)]
        exact Ev_pos h1 (Ev_pos h0 (Ev_pos h1 (Ev_neg hf hr)))) (ownT xs c).length () 0 (by omega) (by omega) trivial
  have h3 := forM_find (ownT xs c) (rd_T36 (ownT xs c)) (fun j hj => rdTry_nat j hj) (fun x : S36 => x.f2) (fun x : S36 => (x.f1, (0 : Int))) (0, 4) (ownT xs c).length 0 (by omega)
  rw [List.drop_zero, find_last (onlyLast (codeT_0 h).1 c)] at h3
  have h4 := h2
  rw [show (0 : Int) = ((0 : Nat) : Int) from rfl] at h4
  refine Ev_eq ?_ h2
  refine h3.trans ?_
  by_cases hl : lastF (ownT xs c) = true
  · rw [if_pos hl, if_pos hl]
    unfold lastT
    have := lastF_pos hl
    rw [List.getLast?_eq_getElem?, List.getElem?_eq_getElem (by omega)]
  · rw [if_neg hl, if_neg hl]
theorem core_FnExactFiredIn (xs : List S36) (c : Int) (hx : xs.length ≤ 1000000) (_w1 : (Lit.int .i64 c).wf = true) : ∃ r1 r2, Ev (fun k => spec_FiredIn.f k xs c) (r1, r2) ∧ Ev (fun k => impl_FiredIn.f k xs c) (r1, r2) :=
  ⟨_, _, spec_FiredIn_ev xs hx c, impl_FiredIn_ev xs hx c⟩

theorem spec_CueState_ev (xs : List S36) (hn : xs.length ≤ 1000000) (c : Int) : Ev (fun k => spec_CueState.f k xs c) (if codeT xs c = 0 then (stateT xs c, 0) else (0, codeT xs c)) := by
  unfold spec_CueState.f
  refine Ev.bind (l24Code_ev xs hn c) ?_
  exact Ev_ite (fun h => by rw [if_pos h]; exact Ev.bind (l24State_ev xs hn c) (Ev.now _)) (fun h => by rw [if_neg h]; exact Ev.now _)

theorem impl_CueState_ev (xs : List S36) (hn : xs.length ≤ 1000000) (c : Int) : Ev (fun k => impl_CueState.f k xs c) (if codeT xs c = 0 then (stateT xs c, 0) else (0, codeT xs c)) := by
  unfold impl_CueState.f
  refine Ev.bind (cueAsked_ev xs c) ?_
  exact Ev_ite (fun h => by rw [if_pos h]; exact Ev.bind (cueState_ev xs hn c) (Ev.now _)) (fun h => by rw [if_neg h]; exact Ev.now _)

theorem core_FnExactCueState (xs : List S36) (c : Int) (hx : xs.length ≤ 1000000) (_w1 : (Lit.int .i64 c).wf = true) : ∃ r1 r2, Ev (fun k => spec_CueState.f k xs c) (r1, r2) ∧ Ev (fun k => impl_CueState.f k xs c) (r1, r2) :=
  ⟨_, _, spec_CueState_ev xs hx c, impl_CueState_ev xs hx c⟩

theorem drawCuesIn_tells (c : List Int) (hc : ∀ b ∈ c, 0 ≤ b ∧ b ≤ 255) (hl : c.length ≤ 4096) : ∃ xs q, Ev (fun k => spec_DrawCuesIn.f k c) (xs, q) ∧ xs.length ≤ 42 := by
  obtain ⟨seed, h0, r0⟩ := from_tells c hc hl
  obtain ⟨xs, i1, s1, h1, r1, hx⟩ := draw24_tells r0
  obtain ⟨x2, i2, s2, e2, r2, _⟩ := next_tells r1 6 (by omega)
  refine ⟨xs, wrap64 (x2 - 1), ?_, hx⟩
  unfold spec_DrawCuesIn.f
  exact Ev.bind h0 (Ev.bind h1 (Ev_bindc e2 (Ev.now _)))
theorem sum3 {a b c : Int} (ha : 0 ≤ a ∧ a ≤ 20) (hb : 0 ≤ b ∧ b ≤ 20) (hc : 0 ≤ c ∧ c ≤ 20) : Ev (fun k => laws_sum.f k [a, b, c]) (a + b + c) := by
  unfold laws_sum.f
  have w1 : wrap64 (0 + a) = a := by rw [w64 (by omega) (by omega)]; omega
  have w2 : wrap64 (a + b) = a + b := w64 (by omega) (by omega)
  have w3 : wrap64 (a + b + c) = a + b + c := w64 (by omega) (by omega)
  have v1 : wrap64 (0 + 1) = 1 := by rw [w64 (by omega) (by omega)]; omega
  have v2 : wrap64 (1 + 1) = 2 := by rw [w64 (by omega) (by omega)]; omega
  have v3 : wrap64 (2 + 1) = 3 := by rw [w64 (by omega) (by omega)]; omega
  refine Ev_succ ?_
  simp only [laws_sum.l0]
  refine Ev_pos (by simp) (Ev_pos (by omega) (Ev_succ ?_))
  simp only [laws_sum.l0, show rd [a, b, c] 0 = a from rfl, w1, v1]
  refine Ev_pos (by simp) (Ev_pos (by omega) (Ev_succ ?_))
  simp only [laws_sum.l0, show rd [a, b, c] 1 = b from rfl, w2, v2]
  refine Ev_pos (by simp) (Ev_pos (by omega) (Ev_succ ?_))
  simp only [laws_sum.l0, show rd [a, b, c] 2 = c from rfl, w3, v3]
  exact Ev_neg (by simp) (Ev.now _)
theorem states_l1 {xs : List S36} (hx : xs.length ≤ 42) (st : Int) (d : Nat) : ∀ i : Int, 0 ≤ i → ((cuesInM xs st).1.length : Int) - i ≤ d → i ≤ 100 → Ev (fun k => laws_FnCueStates.l1 k xs st (cuesInM xs st).1 (cuesInM xs st).2 i) true := by
  have hend : ∀ i, Ev (fun k => laws_FnCueStates.j6 k xs st (cuesInM xs st).1 (cuesInM xs st).2 i false) true := fun i => Ev_succ (by
    simp only [laws_FnCueStates.j6, Bool.false_eq_true, if_false]
    exact Ev.now _)
  have hlen := cuesInM_length xs st
  induction d with
  | zero =>
    intro i h0 hd hi
    refine Ev_succ (by
      simp only [laws_FnCueStates.l1]
      rw [decide_eq_false (show ¬ i < ((cuesInM xs st).1.length : Int) by omega)]
      exact Ev_ite (fun _ => hend i) (fun _ => hend i))
  | succ d ih =>
    intro i h0 hd hi
    by_cases hlt : i < ((cuesInM xs st).1.length : Int)
    · refine Ev_succ (by
        simp only [laws_FnCueStates.l1]
        rw [decide_eq_true hlt]
        refine Ev_ite (fun h3 => Ev_succ ?_) (fun _ => hend i)
        have hok : areTriesM xs = true ∧ 0 ≤ st ∧ st ≤ 3 := by
          unfold cuesInM at h3
          by_cases ha : areTriesM xs = true
          · rw [if_pos ha] at h3
            by_cases hs : 0 ≤ st ∧ st ≤ 3
            · exact ⟨ha, hs⟩
            · rw [if_neg hs] at h3; exact absurd h3 (by decide)
          · rw [if_neg ha] at h3; exact absurd h3 (by decide)
        have hm : rd (cuesInM xs st).1 i ∈ (cuesInM xs st).1 := by
          simp only [rd, List.getD_eq_getElem?_getD, List.getElem?_eq_getElem (show i.toNat < (cuesInM xs st).1.length by omega)]
          exact List.getElem_mem _
        obtain ⟨hv, hsv⟩ := (cuesIn_count hok.1 hok.2).2.2 _ hm
        have hcs := impl_CueState_ev xs (by omega) (rd (cuesInM xs st).1 i)
        rw [if_pos (show codeT xs (rd (cuesInM xs st).1 i) = 0 by unfold codeT; rw [if_pos hok.1, if_pos hv]), hsv] at hcs
        have hn := ih (i + 1) (by omega) (by omega) (by omega)
        simp only [laws_FnCueStates.j6, if_true]
        rw [w64 (x := i + 1) (by omega) (by omega)]
        exact Ev_pos h0 (Ev_pos hlt (Ev.bind hcs (Ev_pos rfl (Ev_pos rfl hn)))))
    · exact ih i h0 (by omega) hi
theorem states_j4 {xs : List S36} (hx : xs.length ≤ 42) (st : Int) : Ev (fun k => laws_FnCueStates.j4 k xs st (cuesInM xs st).1 (cuesInM xs st).2) true := Ev_succ (by
  simp only [laws_FnCueStates.j4]
  exact states_l1 hx st 100 0 (by omega) (by have := cuesInM_length xs st; omega) (by omega))
theorem states_j2 {xs : List S36} (hx : xs.length ≤ 42) (st : Int) : Ev (fun k => laws_FnCueStates.j2 k xs st (cuesInM xs st).1 (cuesInM xs st).2 (countTriesM xs).1 (countTriesM xs).2) true := Ev_succ (by
  simp only [laws_FnCueStates.j2]
  refine Ev_ite (fun h => ?_) (fun _ => states_j4 hx st)
  have ha : areTriesM xs = true := by
    unfold countTriesM at h
    by_cases ha : areTriesM xs = true
    · exact ha
    · rw [if_neg ha] at h; exact absurd h (by decide)
  obtain ⟨a, b, c, e, hs, h1, h2, h3⟩ := countTries_sum ha
  rw [e]
  have hall := cntS_all xs 20
  have r0 := cntS_range xs 0 20
  have r1 := cntS_range xs 1 20
  have r2 := cntS_range xs 2 20
  have r3 := cntS_range xs 3 20
  have q0 := cuesIn_count ha (s := 0) (by omega)
  have q1 := cuesIn_count ha (s := 1) (by omega)
  have q2 := cuesIn_count ha (s := 2) (by omega)
  have q3 := cuesIn_count ha (s := 3) (by omega)
  have v1 : wrap64 (0 + 1) = 1 := by rw [w64 (by omega) (by omega)]; omega
  have v2 : wrap64 (1 + 1) = 2 := by rw [w64 (by omega) (by omega)]; omega
  have v3 : wrap64 (2 + 1) = 3 := by rw [w64 (by omega) (by omega)]; omega
  have v4 : wrap64 (3 + 1) = 4 := by rw [w64 (by omega) (by omega)]; omega
  refine Ev_succ ?_
  simp only [laws_FnCueStates.l0]
  refine Ev_pos (by omega) (Ev.bind (impl_CuesIn_ev xs (by omega) 0) (Ev_pos q0.1 (Ev_neg (by omega) (Ev_succ ?_))))
  simp only [laws_FnCueStates.l0, v1]
  refine Ev_pos (by omega) (Ev.bind (impl_CuesIn_ev xs (by omega) 1) (Ev_pos q1.1 (Ev_neg (by omega) (Ev_succ ?_))))
  simp only [laws_FnCueStates.l0, v2]
  refine Ev_pos (by omega) (Ev.bind (impl_CuesIn_ev xs (by omega) 2) (Ev_pos q2.1 (Ev_pos (by trivial) (Ev.bind (sum3 h1 h2 h3) (Ev_pos (by omega) (Ev_succ ?_))))))
  simp only [laws_FnCueStates.l0, v3]
  refine Ev_pos (by omega) (Ev.bind (impl_CuesIn_ev xs (by omega) 3) (Ev_pos q3.1 (Ev_neg (by omega) (Ev_succ ?_))))
  simp only [laws_FnCueStates.l0, v4]
  rw [q0.2.1, q1.2.1, q2.2.1, q3.2.1, w64 (x := 0 + cntS xs 0 20) (by omega) (by omega), w64 (x := 0 + cntS xs 0 20 + cntS xs 1 20) (by omega) (by omega), w64 (x := 0 + cntS xs 0 20 + cntS xs 1 20 + cntS xs 2 20) (by omega) (by omega), w64 (x := 0 + cntS xs 0 20 + cntS xs 1 20 + cntS xs 2 20 + cntS xs 3 20) (by omega) (by omega)]
  exact Ev_neg (by omega) (Ev_pos (by omega) (states_j4 hx st)))
theorem FnCueStates : laws_FnCueStates.Pure := by
  intro c _ _ hw
  refine Ev.rounds ?_
  unfold laws_FnCueStates.f
  rw [big_eq]
  simp only [Option.bind_some]
  refine Ev_ite (fun _ => Ev.now _) (fun hb => ?_)
  have hc := bytes_of hw
  have hl : c.length ≤ 4096 := by simpa using hb
  obtain ⟨xs, st, d1, hx⟩ := drawCuesIn_tells c hc hl
  obtain ⟨ys, q, d2, hy⟩ := drawCueState_tells c hc hl
  refine Ev.bind d1 (Ev.bind (impl_CuesIn_ev xs (by omega) st) (Ev.bind (spec_CuesIn_ev xs (by omega) st) (Ev.bind (impl_CountTries_ev xs (by omega)) (Ev.bind (spec_CountTries_ev xs (by omega)) (Ev.bind d2 (Ev.bind (impl_CueState_ev ys (by omega) q) (Ev.bind (spec_CueState_ev ys (by omega) q) (Ev.bind (impl_FiredIn_ev ys (by omega) q) (Ev.bind (spec_FiredIn_ev ys (by omega) q) ?_)))))))))
  refine Ev_pos rfl (Ev.bind (likeInts_refl _ (by have := cuesInM_length xs st; omega)) (Ev_pos rfl (Ev_pos rfl (Ev.bind (likeInts_refl _ (by have := countTriesM_length xs; omega)) (Ev_pos rfl (Ev_pos rfl (Ev_pos rfl (Ev_pos rfl ?_))))))))
  have e : ((firedInM ys q).1 != (firedInM ys q).1) = false := by simp
  simp only [e]
  refine Ev_succ (by
    simp only [laws_FnCueStates.j0, Bool.false_eq_true, if_false]
    refine Ev_ite (fun h3 => ?_) (fun _ => states_j2 hx st)
    have hcd : codeT ys q = 0 := by
      by_cases hcd : codeT ys q = 0
      · exact hcd
      · rw [if_neg hcd] at h3; exact absurd h3 hcd
    obtain ⟨ha, hq⟩ := codeT_0 hcd
    have et : triesOfM ys q = ((ownT ys q).map (·.f1), 0) := by unfold triesOfM; rw [if_pos hcd]
    have ef : firedInM ys q = if lastF (ownT ys q) = true then (lastT (ownT ys q), 0) else (0, 4) := by unfold firedInM; rw [if_pos hcd]
    have h1 := impl_TriesOf_ev ys (by omega) q
    have h2 := spec_TriesOf_ev ys (by omega) q
    have hol := ownT_length ys q
    rw [if_pos hcd, ef]
    rw [et] at h1 h2
    refine Ev.bind h1 (Ev.bind h2 (Ev_pos rfl (Ev.bind (likeInts_refl _ (by simp; omega)) (Ev_succ ?_))))
    simp only [laws_FnCueStates.j1, Bool.not_true, Bool.false_eq_true, if_false, List.length_map]
    refine Ev_pos trivial ?_
    have hj := states_j2 hx st
    by_cases hf : lastF (ownT ys q) = true
    · have hs : stateT ys q = 2 := state23.1.2 hf
      have hp := lastF_pos hf
      have hm := lastT_map hp
      rw [if_pos hf, hs, w64 (by omega) (by omega)]
      have hz : (((ownT ys q).length : Int) == 0) = false := beq_false_of_ne (by omega)
      refine Ev_neg (by simp) (Ev_neg (by rw [hz]; decide) (Ev_neg (by decide) (Ev_pos rfl (Ev_pos (by omega) (Ev_pos (by omega) (Ev_pos hm hj))))))
    · have hff : lastF (ownT ys q) = false := by simpa using hf
      rw [if_neg hf]
      have hne : ¬ stateT ys q = 2 := fun q2 => hf (state23.1.1 q2)
      refine Ev_neg (by simp [hne]) (Ev_neg ?_ ?_)
      · have : stateT ys q = 0 ↔ (ownT ys q).length = 0 := by
          unfold stateT
          rw [if_neg hf]
          by_cases h0 : (ownT ys q).length = 0
          · rw [if_pos h0]; simp [h0]
          · rw [if_neg h0]; (repeat' split) <;> simp [h0]
        have e1 : (stateT ys q == 0) = (((ownT ys q).length : Int) == 0) := by
          by_cases h0 : (ownT ys q).length = 0
          · rw [this.2 h0, h0]; rfl
          · rw [beq_false_of_ne (fun w => h0 (this.1 w)), beq_false_of_ne (show ¬ ((ownT ys q).length : Int) = 0 by omega)]
        rw [e1]
        simp
      · exact Ev_ite (fun w => Ev_pos (by have := (state23.2.1 w).2; omega) (Ev_neg (by decide) hj)) (fun _ => Ev_neg (by decide) hj))



end Go.Proofs.Ythnpffomoaeeoaa.Pure
