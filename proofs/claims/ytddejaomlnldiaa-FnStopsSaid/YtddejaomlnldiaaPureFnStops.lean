/- The statement over numbers and lists for FnStops: the reference and the program answer alike for all arguments. -/
import Derived.Test.YtddejaomlnldiaaQFnStopsx13
set_option linter.unusedVariables false
set_option linter.unusedSimpArgs false
namespace Go.Proofs.Ytddejaomlnldiaa.Pure
open Go.RowKit Go.Proofs.Ytddejaomlnldiaa.PFnStops Go.Proofs.YtddejaomlnldiaaW.PrintWords Go.Proofs.YtddejaomlnldiaaW.PrintLast Go.Proofs.YtddejaomlnldiaaW.PrintMore


theorem w64 {x : Int} (h0 : -9223372036854775808 ≤ x) (h1 : x ≤ 9223372036854775807) : wrap64 x = x := by unfold wrap64; omega
theorem Ev_ite {α : Type} {c : Prop} [Decidable c] {g h : Nat → Option α} {r : α} (h1 : c → Ev g r) (h2 : ¬ c → Ev h r) : Ev (fun k => if c then g k else h k) r := by
  by_cases hc : c
  · obtain ⟨K, hK⟩ := h1 hc
    exact ⟨K, fun k hk => (if_pos hc).trans (hK k hk)⟩
  · obtain ⟨K, hK⟩ := h2 hc
    exact ⟨K, fun k hk => (if_neg hc).trans (hK k hk)⟩
theorem Ev_pos {α : Type} {c : Prop} [Decidable c] {g h : Nat → Option α} {r : α} (hc : c) (h1 : Ev g r) : Ev (fun k => if c then g k else h k) r := Ev_ite (fun _ => h1) (fun n => absurd hc n)
theorem Ev_neg {α : Type} {c : Prop} [Decidable c] {g h : Nat → Option α} {r : α} (hc : ¬ c) (h1 : Ev h r) : Ev (fun k => if c then g k else h k) r := Ev_ite (fun n => absurd n hc) (fun _ => h1)
theorem Ev_some {α : Type} {r q : α} (h : r = q) : Ev (fun _ => some r) q := h ▸ Ev.now r
theorem Ev_eq {α : Type} {g : Nat → Option α} {r q : α} (h : r = q) (k : Ev g r) : Ev g q := h ▸ k
theorem Ev_const {α : Type} {o : Option α} {r : α} (h : o = some r) : Ev (fun _ => o) r := by subst h; exact Ev.now r
theorem Ev_bindc {α β : Type} {o : Option α} {f : Nat → α → Option β} {a : α} {r : β} (h : o = some a) (k : Ev (fun n => f n a) r) : Ev (fun n => o.bind (f n)) r := by subst h; exact k
theorem Ev_unique {α : Type} {g : Nat → Option α} {r q : α} (h : Ev g r) (k : Ev g q) : r = q := by
  obtain ⟨K, h⟩ := h
  obtain ⟨L, k⟩ := k
  have h1 := h (max K L) (by omega)
  have h2 := k (max K L) (by omega)
  rw [h1] at h2
  exact Option.some.inj h2
theorem lit64 {x : Int} (h : (Lit.int .i64 x).wf = true) : -9223372036854775808 ≤ x ∧ x ≤ 9223372036854775807 := by
  have h := h
  simp [Lit.wf, IntKind.min, IntKind.max, IntKind.bits, IntKind.signed] at h
  omega
theorem mn_eq (a b : Int) : mn a b = min a b := by unfold mn; omega
theorem mx_eq (a b : Int) : mx a b = max a b := by unfold mx; omega

/-- A loop over the numbers 0 to n - 1: d rounds from i on. -/
def forM {S ρ : Type} (step : S → Int → ρ ⊕ S) (out : S → ρ) : Nat → S → Int → ρ
  | 0, s, _ => out s
  | d + 1, s, i => match step s i with
    | .inl r => r
    | .inr s' => forM step out d s' (i + 1)
theorem Ev_for {S ρ : Type} {F : Nat → S → Int → Option ρ} {step : S → Int → ρ ⊕ S} {out : S → ρ} {n : Nat} (Inv : S → Int → Prop)
    (hend : ∀ s, Inv s n → ∃ K, ∀ k, K ≤ k → F k s n = some (out s))
    (hstep : ∀ (s : S) (i : Int), 0 ≤ i → i < n → Inv s i → (∃ r, step s i = .inl r ∧ ∃ K, ∀ k, K ≤ k → F k s i = some r) ∨ (∃ s', step s i = .inr s' ∧ Inv s' (i + 1) ∧ ∃ K, ∀ k, K ≤ k → F (k + 1) s i = F k s' (i + 1))) :
    ∀ (d : Nat) (s : S) (i : Int), 0 ≤ i → i + d = n → Inv s i → Ev (fun k => F k s i) (forM step out d s i) := by
  intro d
  induction d with
  | zero =>
    intro s i h0 h1 hI
    obtain rfl : i = n := by omega
    exact hend s hI
  | succ d ih =>
    intro s i h0 h1 hI
    rcases hstep s i h0 (by omega) hI with ⟨r, hr, hK⟩ | ⟨s', hs, hI', K, hK⟩
    · simp only [forM, hr]
      exact hK
    · simp only [forM, hs]
      obtain ⟨K', h⟩ := ih s' (i + 1) (by omega) (by omega) hI'
      refine ⟨K + K' + 1, fun k hk => ?_⟩
      obtain ⟨k, rfl⟩ : ∃ m, k = m + 1 := ⟨k - 1, by omega⟩
      exact (hK k (by omega)).trans (h k (by omega))
/-- What holds at the end of a loop. -/
theorem forM_ind {S ρ : Type} {step : S → Int → ρ ⊕ S} {out : S → ρ} {n : Nat} (Inv : S → Int → Prop) (Post : ρ → Prop) (hend : ∀ s, Inv s n → Post (out s))
    (hstep : ∀ (s : S) (i : Int), 0 ≤ i → i < n → Inv s i → (∀ r, step s i = .inl r → Post r) ∧ ∀ s', step s i = .inr s' → Inv s' (i + 1)) : ∀ (d : Nat) (s : S) (i : Int), 0 ≤ i → i + d = n → Inv s i → Post (forM step out d s i) := by
  intro d
  induction d with
  | zero =>
    intro s i h0 h1 hI
    obtain rfl : i = n := by omega
    exact hend s hI
  | succ d ih =>
    intro s i h0 h1 hI
    obtain ⟨h2, h3⟩ := hstep s i h0 (by omega) hI
    simp only [forM]
    cases hs : step s i with
    | inl r => exact h2 r hs
    | inr s' => exact ih s' (i + 1) (by omega) (by omega) (h3 s' hs)

/-- The source of the draws: the code's bytes, the place in it, the seed. -/
def Rd (c : List Int) (i seed : Int) : Prop := (∀ b ∈ c, 0 ≤ b ∧ b ≤ 255) ∧ c.length ≤ 4096 ∧ 0 ≤ i ∧ i ≤ c.length ∧ 0 ≤ seed ∧ seed < 2147483647
theorem rd_byte {c : List Int} (hc : ∀ b ∈ c, 0 ≤ b ∧ b ≤ 255) (i : Int) : 0 ≤ rd c i ∧ rd c i ≤ 255 := by
  unfold rd
  by_cases h : i.toNat < c.length
  · rw [List.getD_eq_getElem?_getD, List.getElem?_eq_getElem h]
    exact hc _ (List.getElem_mem h)
  · rw [List.getD_eq_getElem?_getD, List.getElem?_eq_none (by omega)]
    simp
theorem next_tells {c : List Int} {i seed : Int} (hr : Rd c i seed) (n : Int) (hn : n ≤ 4000000000000000000) : ∃ x i' s', spec_l01Next.f c i seed n = some (x, i', s') ∧ Rd c i' s' ∧ 0 ≤ x ∧ (1 ≤ n → x < n) := by
  obtain ⟨hc, hl, h0, h1, h2, h3⟩ := hr
  have e1 : wrap64 (wrap64 (seed * 48271) + 29) = seed * 48271 + 29 := by rw [w64 (x := seed * 48271) (by omega) (by omega), w64 (by omega) (by omega)]
  have e2 : Int.tmod (seed * 48271 + 29) 2147483647 = (seed * 48271 + 29) % 2147483647 := Int.tmod_eq_emod_of_nonneg (by omega)
  obtain ⟨s1, hs1⟩ : ∃ s1, s1 = (seed * 48271 + 29) % 2147483647 := ⟨_, rfl⟩
  have b0 : 0 ≤ s1 ∧ s1 < 2147483647 := by omega
  have e3 : wrap64 (Int.tdiv s1 31) = s1 / 31 := by
    rw [Int.tdiv_eq_ediv_of_nonneg b0.1]; exact w64 (by omega) (by omega)
  unfold spec_l01Next.f
  rw [e1, e2, ← hs1, e3]
  by_cases hn1 : n ≤ 1
  · rw [if_pos hn1]
    exact ⟨0, i, seed, rfl, ⟨hc, hl, h0, h1, h2, h3⟩, by omega, by omega⟩
  · rw [if_neg hn1]
    have hm : ∀ x : Int, 0 ≤ x → 0 ≤ Int.tmod x n ∧ Int.tmod x n < n := fun x hx => by
      rw [Int.tmod_eq_emod_of_nonneg hx]
      exact ⟨Int.emod_nonneg x (by omega), Int.emod_lt_of_pos x (by omega)⟩
    by_cases hi : i < (c.length : Int)
    · have hb := rd_byte hc i
      have w1 : wrap64 (i + 1) = i + 1 := w64 (by omega) (by omega)
      have w2 : wrap64 (i + 1 - 1) = i := by rw [w64 (by omega) (by omega)]; omega
      have w3 : wrap64 (rd c i) = rd c i := w64 (by omega) (by omega)
      have w4 : wrap64 (s1 / 31 + rd c i) = s1 / 31 + rd c i := w64 (by omega) (by omega)
      rw [if_pos hi, if_pos h0, w1, w2, w3, w4]
      have r1 := hm (rd c i) hb.1
      have r2 := hm (s1 / 31 + rd c i) (by omega)
      have hR : Rd c (i + 1) s1 := ⟨hc, hl, by omega, by omega, b0.1, b0.2⟩
      by_cases h256 : n ≤ 256
      · rw [if_pos h256]
        by_cases ht : Int.tmod (i + 1) 2 = 0
        · rw [if_pos ht, if_pos h0, if_pos hi, if_neg (by omega)]
          exact ⟨_, _, _, rfl, hR, r1.1, fun _ => r1.2⟩
        · rw [if_neg ht, if_neg (by omega)]
          exact ⟨_, _, _, rfl, hR, r2.1, fun _ => r2.2⟩
      · rw [if_neg h256, if_neg (by omega)]
        exact ⟨_, _, _, rfl, hR, r2.1, fun _ => r2.2⟩
    · have r3 := hm (s1 / 31) (by omega)
      rw [if_neg hi, if_neg (by omega)]
      exact ⟨_, _, _, rfl, ⟨hc, hl, h0, h1, b0.1, b0.2⟩, r3.1, fun _ => r3.2⟩
theorem from_tells (c : List Int) (hc : ∀ b ∈ c, 0 ≤ b ∧ b ≤ 255) (hl : c.length ≤ 4096) : ∃ seed, Ev (fun k => spec_l01From.f k c) (c, 0, seed) ∧ Rd c 0 seed := by
  have h := Ev_for (F := fun k s i => spec_l01From.l0 k c i c 0 s) (step := fun s i => if i < 64 then .inr ((s * 83 + rd c i) % 2147483647) else .inl (c, 0, s)) (out := fun s => (c, 0, s)) (n := c.length) (fun s i => 0 ≤ s ∧ s < 2147483647)
    (fun s hI => ⟨1, fun k hk => by
      obtain ⟨k, rfl⟩ : ∃ m, k = m + 1 := ⟨k - 1, by omega⟩
      simp only [spec_l01From.l0]
      rw [if_neg (by omega)]⟩)
    (fun s i h0 h1 hI => by
      have hb := rd_byte hc i
      by_cases h64 : i < 64
      · refine .inr ⟨_, if_pos h64, by omega, 0, fun k _ => ?_⟩
        simp only [spec_l01From.l0]
        rw [if_pos h1, if_pos h64, if_pos h0, w64 (x := i + 1) (by omega) (by omega), w64 (x := s * 83) (by omega) (by omega), w64 (x := rd c i) (by omega) (by omega), w64 (by omega) (by omega), Int.tmod_eq_emod_of_nonneg (by omega)]
      · refine .inl ⟨_, if_neg h64, 1, fun k hk => ?_⟩
        obtain ⟨k, rfl⟩ : ∃ m, k = m + 1 := ⟨k - 1, by omega⟩
        simp only [spec_l01From.l0]
        rw [if_pos h1, if_neg h64]) c.length 61043 0 (by omega) (by omega) (by omega)
  have h2 := forM_ind (step := fun s i => if i < 64 then .inr ((s * 83 + rd c i) % 2147483647) else .inl (c, 0, s)) (out := fun s => (c, (0 : Int), s)) (n := c.length) (fun s _ => 0 ≤ s ∧ s < 2147483647) (fun r => ∃ s, r = (c, (0 : Int), s) ∧ 0 ≤ s ∧ s < 2147483647) (fun s hI => ⟨s, rfl, hI⟩)
    (fun s i h0 h1 hI => ⟨fun r hr => by
        split at hr
        · cases hr
        · injection hr with hr
          exact ⟨s, hr.symm, hI⟩, fun s' hr => by
        split at hr
        · injection hr with hr
          omega
        · cases hr⟩) c.length 61043 0 (by omega) (by omega) (by omega)
  obtain ⟨s, hs, hb⟩ := h2
  refine ⟨s, ?_, hc, hl, by omega, by omega, hb.1, hb.2⟩
  rw [hs] at h
  exact h
/-- What a statement over a code knows of its bytes. -/
theorem bytes_of {c : List Int} (h : ∀ x ∈ c, (Lit.int .u8 x).wf = true) : ∀ b ∈ c, 0 ≤ b ∧ b ≤ 255 := fun b hb => by
  have h := h b hb
  simp [Lit.wf, IntKind.min, IntKind.max, IntKind.bits, IntKind.signed] at h
  omega
theorem big_eq (c : List Int) : laws_big.f c = some (decide (c.length > 4096)) := by
  unfold laws_big.f
  congr 1
  rw [decide_eq_decide]
  omega

theorem pick_tells {c : List Int} {i seed : Int} (hr : Rd c i seed) (l : List Int) (h0 : 0 < l.length) (hl : l.length ≤ 1000) : ∃ x i' s', spec_l01Pick.f c i seed l = some (x, i', s') ∧ Rd c i' s' ∧ x ∈ l := by
  obtain ⟨x, i', s', h1, h2, h3, h4⟩ := next_tells hr (l.length : Int) (by omega)
  have h4 := h4 (by omega)
  unfold spec_l01Pick.f
  rw [h1]
  simp only [Option.bind_some]
  rw [if_pos h3, if_pos h4]
  refine ⟨_, _, _, rfl, h2, ?_⟩
  unfold rd
  rw [List.getD_eq_getElem?_getD, List.getElem?_eq_getElem (show x.toNat < l.length by omega)]
  exact List.getElem_mem _

theorem Ev_succ {α : Type} {g : Nat → Option α} {r : α} (h : Ev (fun k => g (k + 1)) r) : Ev g r := Ev.step (fun _ => rfl) h
theorem Ev_for2 {S ρ : Type} {F : Nat → S → Int → Option ρ} {step : S → Int → ρ ⊕ S} {out : S → ρ} {n : Nat} (Inv : S → Int → Prop)
    (hend : ∀ s, Inv s n → Ev (fun k => F k s n) (out s))
    (hstep : ∀ (s : S) (i : Int), 0 ≤ i → i < n → Inv s i → (∃ r, step s i = .inl r ∧ Ev (fun k => F k s i) r) ∨ (∃ s', step s i = .inr s' ∧ Inv s' (i + 1) ∧ ∀ r, Ev (fun k => F k s' (i + 1)) r → Ev (fun k => F k s i) r)) :
    ∀ (d : Nat) (s : S) (i : Int), 0 ≤ i → i + d = n → Inv s i → Ev (fun k => F k s i) (forM step out d s i) := by
  intro d
  induction d with
  | zero =>
    intro s i h0 h1 hI
    obtain rfl : i = n := by omega
    exact hend s hI
  | succ d ih =>
    intro s i h0 h1 hI
    rcases hstep s i h0 (by omega) hI with ⟨r, hr, hK⟩ | ⟨s', hs, hI', hK⟩
    · simp only [forM, hr]
      exact hK
    · simp only [forM, hs]
      exact hK _ (ih s' (i + 1) (by omega) (by omega) hI')
/-- A loop over a list that only gathers: a fold. -/
theorem forM_fold {S ρ α : Type} (xs : List α) (rdx : Int → α) (hrd : ∀ (j : Nat) (h : j < xs.length), rdx j = xs[j]) (upd : S → α → S) (out : S → ρ) (d : Nat) : ∀ (s : S) (i : Nat), i + d = xs.length →
    forM (ρ := ρ) (fun s i => .inr (upd s (rdx i))) out d s i = out ((xs.drop i).foldl upd s) := by
  induction d with
  | zero =>
    intro s i hi
    rw [List.drop_eq_nil_of_le (by omega)]
    rfl
  | succ d ih =>
    intro s i hi
    rw [List.drop_eq_getElem_cons (show i < xs.length by omega)]
    simp only [forM, List.foldl_cons]
    have := ih (upd s (rdx i)) (i + 1) (by omega)
    rw [← hrd i (by omega)]
    exact this
theorem forM_fold0 {S ρ α : Type} (xs : List α) (rdx : Int → α) (hrd : ∀ (j : Nat) (h : j < xs.length), rdx j = xs[j]) (upd : S → α → S) (out : S → ρ) (s : S) :
    forM (ρ := ρ) (fun s i => .inr (upd s (rdx i))) out xs.length s 0 = out (xs.foldl upd s) := by
  have := forM_fold xs rdx hrd upd out xs.length s 0 (by omega)
  rw [List.drop_zero] at this
  exact this
/-- A loop that looks at each place, and stops at the first that fails. -/
theorem forM_all {p : Int → Bool} {b : Bool} {n : Nat} (d : Nat) : ∀ i : Int, 0 ≤ i → i + d = n → (forM (S := Unit) (ρ := Bool) (fun _ i => if p i = true then .inr () else .inl false) (fun _ => b) d () i = true ↔ b = true ∧ ∀ j : Int, i ≤ j → j < n → p j = true) := by
  induction d with
  | zero =>
    intro i h0 hi
    simp only [forM]
    exact ⟨fun h => ⟨h, fun j h1 h2 => by omega⟩, fun h => h.1⟩
  | succ d ih =>
    intro i h0 hi
    simp only [forM]
    by_cases hp : p i = true
    · rw [if_pos hp]
      refine (ih (i + 1) (by omega) (by omega)).trans ⟨fun h => ⟨h.1, fun j h1 h2 => ?_⟩, fun h => ⟨h.1, fun j h1 h2 => h.2 j (by omega) h2⟩⟩
      by_cases hj : j = i
      · rw [hj]; exact hp
      · exact h.2 j (by omega) h2
    · rw [if_neg hp]
      exact ⟨(fun h => by cases h), fun h => absurd (h.2 i (Int.le_refl _) (by omega)) hp⟩

theorem good12_l0 (c : List Int) (d : Nat) : ∀ (xs : List S63) (n i seed : Int), Rd c i seed → n ≤ d → d ≤ 10 → 1 ≤ xs.length → xs.length + d ≤ 20 → ∃ ys i' s', Ev (fun k => spec_l12Good.l0 k xs n c i seed) (ys, i', s') ∧ Rd c i' s' ∧ 1 ≤ ys.length ∧ ys.length ≤ 20 := by
  induction d with
  | zero =>
    intro xs n i seed hr hn hd h1 hx
    refine ⟨xs, i, seed, Ev_succ (by simp only [spec_l12Good.l0]; exact Ev_neg (by omega) (Ev.now _)), hr, h1, by omega⟩
  | succ d ih =>
    intro xs n i seed hr hn hd h1 hx
    by_cases hp : n > 0
    · obtain ⟨x, i1, s1, e1, r1, _⟩ := next_tells hr (xs.length : Int) (by omega)
      obtain ⟨y, i2, s2, e2, r2, _⟩ := next_tells r1 6 (by omega)
      obtain ⟨ys, i3, s3, h3, r3, hl⟩ := ih (xs ++ [⟨x, y⟩]) (n - 1) i2 s2 r2 (by omega) (by omega) (by simp) (by simp; omega)
      refine ⟨ys, i3, s3, Ev_succ (by
        simp only [spec_l12Good.l0]
        refine Ev_pos hp (Ev_bindc e1 (Ev_bindc e2 (Ev_pos (by omega) ?_)))
        rw [w64 (by omega) (by omega)]
        exact h3), r3, hl⟩
    · exact ih xs n i seed hr (by omega) (by omega) h1 (by omega)
theorem good12_tells {c : List Int} {i seed : Int} (hr : Rd c i seed) : ∃ ys i' s', Ev (fun k => spec_l12Good.f k c i seed) (ys, i', s') ∧ Rd c i' s' ∧ 1 ≤ ys.length ∧ ys.length ≤ 20 := by
  obtain ⟨x1, i1, s1, e1, r1, _⟩ := next_tells hr 5 (by omega)
  obtain ⟨x2, i2, s2, e2, r2, h1, h2⟩ := next_tells r1 8 (by omega)
  obtain ⟨ys, i3, s3, h3, r3, hl⟩ := good12_l0 c 8 [⟨-1, x1⟩] x2 i2 s2 r2 (by omega) (by omega) (by simp) (by simp)
  refine ⟨ys, i3, s3, ?_, r3, hl⟩
  unfold spec_l12Good.f
  exact Ev_bindc e1 (Ev_bindc e2 h3)
theorem draw12_l0 (c : List Int) (d : Nat) : ∀ (xs : List S63) (i seed : Int), Rd c i seed → 20 - xs.length ≤ d → xs.length ≤ 20 → ∃ ys i' s', Ev (fun k => spec_l12Draw.l0 k xs c i seed) (ys, i', s') ∧ Rd c i' s' ∧ ys.length ≤ 20 := by
  induction d with
  | zero =>
    intro xs i seed hr hd hn
    obtain ⟨x1, i1, s1, e1, r1, h1, h2⟩ := next_tells hr 2 (by omega)
    refine ⟨xs, i1, s1, Ev_succ (by
      simp only [spec_l12Draw.l0]
      refine Ev_bindc e1 ?_
      rw [w64 (by omega) (by omega)]
      exact Ev_neg (by omega) (Ev.now _)), r1, hn⟩
  | succ d ih =>
    intro xs i seed hr hd hn
    obtain ⟨x1, i1, s1, e1, r1, h1, h2⟩ := next_tells hr 2 (by omega)
    by_cases hlt : (xs.length : Int) < 12 + x1
    · obtain ⟨ys, i3, s3, h3, r3, hl⟩ := ih (xs ++ [⟨0, 1⟩]) i1 s1 r1 (by simp; omega) (by simp; omega)
      refine ⟨ys, i3, s3, Ev_succ (by
        simp only [spec_l12Draw.l0]
        refine Ev_bindc e1 ?_
        rw [w64 (by omega) (by omega)]
        exact Ev_pos hlt (Ev_pos (by omega) h3)), r3, hl⟩
    · refine ⟨xs, i1, s1, Ev_succ (by
        simp only [spec_l12Draw.l0]
        refine Ev_bindc e1 ?_
        rw [w64 (by omega) (by omega)]
        exact Ev_neg hlt (Ev.now _)), r1, hn⟩
theorem draw12_tells {c : List Int} {i seed : Int} (hr : Rd c i seed) : ∃ ys i' s', Ev (fun k => spec_l12Draw.f k c i seed) (ys, i', s') ∧ Rd c i' s' ∧ ys.length ≤ 20 := by
  obtain ⟨xs, i1, s1, h1, r1, hl1, hl2⟩ := good12_tells hr
  obtain ⟨x2, i2, s2, e2, r2, h20, h21⟩ := next_tells r1 (xs.length : Int) (by omega)
  obtain ⟨x3, i3, s3, e3, r3, _⟩ := next_tells r2 40 (by omega)
  have hx2 := h21 (by omega)
  unfold spec_l12Draw.f
  by_cases c0 : x3 = 0
  · obtain ⟨x4, i4, s4, e4, r4, _⟩ := pick_tells r3 [x2, wrap64 (x2 - 1), -1, -2] (by simp) (by simp)
    exact ⟨_, i4, s4, Ev.bind h1 (Ev_bindc e2 (Ev_bindc e3 (Ev_pos c0 (Ev_bindc e4 (Ev_pos h20 (Ev_pos hx2 (Ev.now _))))))), r4, by rw [List.length_set]; exact hl2⟩
  · by_cases c1 : x3 = 1
    · obtain ⟨x4, i4, s4, e4, r4, _⟩ := pick_tells r3 [-1, 32, 33] (by simp) (by simp)
      exact ⟨_, i4, s4, Ev.bind h1 (Ev_bindc e2 (Ev_bindc e3 (Ev_neg c0 (Ev_pos c1 (Ev_bindc e4 (Ev_pos h20 (Ev_pos hx2 (Ev.now _)))))))), r4, by rw [List.length_set]; exact hl2⟩
    · by_cases c2 : x3 = 2
      · obtain ⟨ys, i4, s4, h4, r4, hl⟩ := draw12_l0 c 20 xs i3 s3 r3 (by omega) hl2
        exact ⟨ys, i4, s4, Ev.bind h1 (Ev_bindc e2 (Ev_bindc e3 (Ev_neg c0 (Ev_neg c1 (Ev_pos c2 h4))))), r4, hl⟩
      · by_cases c3 : x3 = 3
        · exact ⟨_, i3, s3, Ev.bind h1 (Ev_bindc e2 (Ev_bindc e3 (Ev_neg c0 (Ev_neg c1 (Ev_neg c2 (Ev_pos c3 (Ev_pos (by omega) (Ev.now _)))))))), r3, by simp⟩
        · exact ⟨xs, i3, s3, Ev.bind h1 (Ev_bindc e2 (Ev_bindc e3 (Ev_neg c0 (Ev_neg c1 (Ev_neg c2 (Ev_neg c3 (Ev.now _))))))), r3, hl2⟩

theorem within_eq (a lo hi : Int) : impl_within.f a lo hi = some (decide (lo ≤ a ∧ a ≤ hi)) := by
  unfold impl_within.f
  by_cases h : lo ≤ a <;> simp [h]

theorem l01In_eq (a lo hi : Int) : spec_l01In.f a lo hi = some (decide (lo ≤ a ∧ a ≤ hi)) := by
  unfold spec_l01In.f
  by_cases h : a ≥ lo
  · have : lo ≤ a := h
    simp [this]
  · have : ¬ lo ≤ a := h
    simp [this]

theorem rdModule {xs : List S63} {i : Int} (h0 : 0 ≤ i) (h1 : i < xs.length) : rd_T63 xs i = xs[i.toNat]'(by omega) := by
  simp [rd_T63, List.getD_eq_getElem?_getD, List.getElem?_eq_getElem (show i.toNat < xs.length by omega)]
/-- The module at a place fits. -/
def okMod (xs : List S63) (i : Int) : Bool := decide ((0 ≤ (rd_T63 xs i).f1 ∧ (rd_T63 xs i).f1 ≤ 32) ∧ (i = 0 → (rd_T63 xs i).f0 = -1) ∧ (0 < i → 0 ≤ (rd_T63 xs i).f0 ∧ (rd_T63 xs i).f0 ≤ i - 1))
def areMods (xs : List S63) : Bool := forM (S := Unit) (fun _ i => if okMod xs i = true then .inr () else .inl false) (fun _ => decide (1 ≤ xs.length ∧ xs.length ≤ 12)) xs.length () 0
theorem areMods_iff (xs : List S63) : areMods xs = true ↔ (1 ≤ xs.length ∧ xs.length ≤ 12) ∧ ∀ i : Int, 0 ≤ i → i < xs.length → okMod xs i = true := by
  unfold areMods
  refine (forM_all (p := okMod xs) (n := xs.length) xs.length 0 (by omega) (by omega)).trans ?_
  rw [decide_eq_true_eq]
theorem spec_AreModules_ev (xs : List S63) (hn : xs.length ≤ 1000000) : Ev (fun k => spec_AreModules.f k xs) (areMods xs) := by
  unfold spec_AreModules.f
  refine Ev_for2 (F := fun k (_ : Unit) i => spec_AreModules.l0 k xs i) (n := xs.length) (fun _ _ => True)
    (fun s hI => Ev_succ (by
      simp only [spec_AreModules.l0, l01In_eq, Option.bind_some]
      refine Ev_neg (by omega) (Ev_some ?_)
      rw [decide_eq_decide]
      omega))
    (fun s i h0 h1 hI => ?_) xs.length () 0 (by omega) (by omega) trivial
  by_cases hok : okMod xs i = true
  · have hk := of_decide_eq_true hok
    refine .inr ⟨(), if_pos hok, trivial, fun r hr => Ev_succ (by
      simp only [spec_AreModules.l0, l01In_eq, Option.bind_some, decide_eq_true_eq]
      refine Ev_pos h1 (Ev_pos h0 (Ev_pos hk.1 ?_))
      rw [w64 (x := i + 1) (by omega) (by omega)]
      refine Ev_ite (fun hz => Ev_pos (hk.2.1 hz) (Ev_neg (by omega) hr)) (fun hz => Ev_pos (by omega) ?_)
      rw [w64 (by omega) (by omega)]
      exact Ev_pos (hk.2.2 (by omega)) hr)⟩
  · refine .inl ⟨false, if_neg hok, Ev_succ (by
      simp only [spec_AreModules.l0, l01In_eq, Option.bind_some, decide_eq_true_eq]
      refine Ev_pos h1 (Ev_pos h0 (Ev_ite (fun ha => ?_) (fun ha => Ev.now _)))
      refine Ev_ite (fun hz => Ev_ite (fun hb => ?_) (fun hb => Ev.now _)) (fun hz => Ev_pos (by omega) ?_)
      · exact absurd (decide_eq_true ⟨ha, fun _ => hb, fun h => by omega⟩) hok
      · rw [w64 (x := i - 1) (by omega) (by omega)]
        refine Ev_neg (fun hb => hok (decide_eq_true ⟨ha, fun h => absurd h hz, fun _ => hb⟩)) (Ev.now _))⟩
theorem impl_AreModules_ev (xs : List S63) : Ev (fun k => impl_AreModules.f k xs) (areMods xs) := by
  unfold impl_AreModules.f
  have hno : ¬ (1 ≤ xs.length ∧ xs.length ≤ 12) → areMods xs = false := fun h => by
    rw [Bool.eq_false_iff]
    exact fun h2 => h ((areMods_iff xs).1 h2).1
  have hj : ∀ r, r = false → Ev (fun k => impl_AreModules.j0 k xs true) r := fun r h => Ev_succ (by
    simp only [impl_AreModules.j0, if_true]
    exact Ev_some h.symm)
  refine Ev_ite (fun h => hj _ (hno (by omega))) (fun h => Ev_ite (fun h2 => hj _ (hno (by omega))) (fun h2 => Ev_pos (by omega) ?_))
  by_cases hp : (rd_T63 xs 0).f0 = -1
  · have e : ((rd_T63 xs 0).f0 != -1) = false := by simpa using hp
    rw [e]
    refine Ev_succ (by
      simp only [impl_AreModules.j0, Bool.false_eq_true, if_false]
      have ha : areMods xs = forM (S := Unit) (fun _ i => if okMod xs i = true then .inr () else .inl false) (fun _ => true) xs.length () 0 := by
        unfold areMods
        rw [decide_eq_true (show 1 ≤ xs.length ∧ xs.length ≤ 12 by omega)]
      rw [ha]
      refine Ev_for2 (F := fun k (_ : Unit) i => impl_AreModules.l0 k xs (xs.length : Int) i) (n := xs.length) (fun _ _ => True)
        (fun s hI => Ev_succ (by
          simp only [impl_AreModules.l0]
          exact Ev_neg (by omega) (Ev.now _)))
        (fun s i h0 h1 hI => ?_) xs.length () 0 (by omega) (by omega) trivial
      by_cases hok : okMod xs i = true
      · have hk := of_decide_eq_true hok
        refine .inr ⟨(), if_pos hok, trivial, fun r hr => Ev_succ (by
          simp only [impl_AreModules.l0, within_eq, Option.bind_some, decide_eq_true_eq]
          refine Ev_pos h1 (Ev_pos h0 (Ev_pos h1 (Ev_pos hk.1 ?_)))
          rw [w64 (x := i + 1) (by omega) (by omega)]
          refine Ev_ite (fun hz => ?_) (fun hz => hr)
          rw [w64 (by omega) (by omega)]
          exact Ev_pos (hk.2.2 (by omega)) hr)⟩
      · refine .inl ⟨false, if_neg hok, Ev_succ (by
          simp only [impl_AreModules.l0, within_eq, Option.bind_some, decide_eq_true_eq]
          refine Ev_pos h1 (Ev_pos h0 (Ev_pos h1 (Ev_ite (fun ha => ?_) (fun ha => Ev.now _))))
          refine Ev_ite (fun hz => ?_) (fun hz => ?_)
          · rw [w64 (x := i - 1) (by omega) (by omega)]
            exact Ev_neg (fun hb => hok (decide_eq_true ⟨ha, fun h => by omega, fun _ => hb⟩)) (Ev.now _)
          · have hi : i = 0 := by omega
            exact absurd (decide_eq_true ⟨ha, fun _ => by rw [hi]; exact hp, fun h => by omega⟩) hok)⟩)
  · have e : ((rd_T63 xs 0).f0 != -1) = true := by simpa using hp
    rw [e]
    refine hj _ ?_
    rw [Bool.eq_false_iff]
    intro h3
    have h4 := ((areMods_iff xs).1 h3).2 0 (by omega) (by omega)
    exact hp ((of_decide_eq_true h4).2.1 rfl)

/-- A module and all above it. -/
def wayM (xs : List S63) : Nat → Int → List Int → List Int
  | 0, _, acc => acc
  | d + 1, m, acc => if 0 ≤ m then wayM xs d (rd_T63 xs m).f0 (acc ++ [m]) else acc
theorem wayM_length (xs : List S63) : ∀ (d : Nat) (m : Int) (acc : List Int), acc.length ≤ (wayM xs d m acc).length ∧ (wayM xs d m acc).length ≤ acc.length + d := by
  intro d
  induction d with
  | zero => intro m acc; simp [wayM]
  | succ d ih =>
    intro m acc
    unfold wayM
    split
    · have := ih (rd_T63 xs m).f0 (acc ++ [m])
      rw [List.length_append] at this
      simp at this
      omega
    · omega
theorem parent_lt {xs : List S63} (hx : areMods xs = true) {m : Int} (h0 : 0 ≤ m) (h1 : m < xs.length) : (rd_T63 xs m).f0 < m := by
  have h := of_decide_eq_true (((areMods_iff xs).1 hx).2 m h0 h1)
  by_cases hz : m = 0
  · have := h.2.1 hz; omega
  · have := h.2.2 (by omega); omega
theorem spec_way_ev {xs : List S63} (hx : areMods xs = true) : ∀ (d : Nat) (m : Int) (acc : List Int), m < d → m < xs.length → acc.length + d ≤ 1000000 → Ev (fun k => spec_l12Way.l0 k xs m acc) (wayM xs d m acc) := by
  intro d
  induction d with
  | zero => intro m acc h0 h1 h2; exact Ev_succ (by simp only [spec_l12Way.l0]; exact Ev_neg (by omega) (Ev.now _))
  | succ d ih =>
    intro m acc h0 h1 h2
    unfold wayM
    refine Ev_succ (by
      simp only [spec_l12Way.l0]
      refine Ev_ite (fun hm => ?_) (fun hm => by rw [if_neg hm]; exact Ev.now _)
      rw [if_pos hm]
      have := parent_lt hx hm h1
      exact Ev_pos (by omega) (Ev_pos hm (Ev_pos h1 (ih _ _ (by omega) (by omega) (by rw [List.length_append]; simp; omega)))))
theorem impl_way_ev {xs : List S63} (hx : areMods xs = true) : ∀ (d : Nat) (m : Int) (acc : List Int), m < d → m < xs.length → acc.length + d ≤ 1000000 → Ev (fun k => impl_wayToMaster.l0 k xs m acc) (wayM xs d m acc) := by
  intro d
  induction d with
  | zero => intro m acc h0 h1 h2; exact Ev_succ (by simp only [impl_wayToMaster.l0]; exact Ev_neg (by omega) (Ev.now _))
  | succ d ih =>
    intro m acc h0 h1 h2
    unfold wayM
    refine Ev_succ (by
      simp only [impl_wayToMaster.l0]
      refine Ev_ite (fun hm => ?_) (fun hm => by rw [if_neg hm]; exact Ev.now _)
      rw [if_pos hm]
      have := parent_lt hx hm h1
      exact Ev_pos (by omega) (Ev_pos hm (Ev_pos h1 (ih _ _ (by omega) (by omega) (by rw [List.length_append]; simp; omega)))))
/-- The tick in which a module stops. -/
def tickS (xs : List S63) (hop sent m : Int) : Int := sent + hop * (((wayM xs xs.length m []).length : Int) - 1)
theorem tickW {hop sent l : Int} (hh : 1 ≤ hop ∧ hop ≤ 10) (hs : 0 ≤ sent ∧ sent ≤ 100000) (hl : 0 ≤ l ∧ l ≤ 12) : wrap64 (sent + wrap64 (hop * wrap64 (l - 1))) = sent + hop * (l - 1) := by
  rw [w64 (x := l - 1) (by omega) (by omega)]
  have h : -10 ≤ hop * (l - 1) ∧ hop * (l - 1) ≤ 120 := by
    have : hop = 1 ∨ hop = 2 ∨ hop = 3 ∨ hop = 4 ∨ hop = 5 ∨ hop = 6 ∨ hop = 7 ∨ hop = 8 ∨ hop = 9 ∨ hop = 10 := by omega
    rcases this with rfl | rfl | rfl | rfl | rfl | rfl | rfl | rfl | rfl | rfl <;> omega
  rw [w64 (x := hop * (l - 1)) (by omega) (by omega), w64 (by omega) (by omega)]
theorem spec_tick_ev {xs : List S63} (hx : areMods xs = true) {hop sent m : Int} (hh : 1 ≤ hop ∧ hop ≤ 10) (hs : 0 ≤ sent ∧ sent ≤ 100000) (h1 : m < xs.length) : Ev (fun k => spec_l23Tick.f k xs hop sent m) (tickS xs hop sent m) := by
  have hn := ((areMods_iff xs).1 hx).1
  have hl := wayM_length xs xs.length m []
  have hl2 : (wayM xs xs.length m []).length ≤ 12 := by simp at hl; omega
  unfold spec_l23Tick.f spec_l12Way.f
  exact Ev.bind (spec_way_ev hx xs.length m [] h1 h1 (by simp; omega)) (Ev_some (tickW hh hs (by omega)))
theorem impl_tick_ev {xs : List S63} (hx : areMods xs = true) {hop sent m : Int} (hh : 1 ≤ hop ∧ hop ≤ 10) (hs : 0 ≤ sent ∧ sent ≤ 100000) (h1 : m < xs.length) : Ev (fun k => impl_stopTick.f k xs hop sent m) (tickS xs hop sent m) := by
  have hn := ((areMods_iff xs).1 hx).1
  have hl := wayM_length xs xs.length m []
  have hl2 : (wayM xs xs.length m []).length ≤ 12 := by simp at hl; omega
  unfold impl_stopTick.f impl_wayToMaster.f
  exact Ev.bind (impl_way_ev hx xs.length m [] h1 h1 (by simp; omega)) (Ev_some (tickW hh hs (by omega)))

/-- A loop that never stops before its end. -/
def foldU {S : Type} (upd : S → Int → S) : Nat → S → Int → S
  | 0, s, _ => s
  | d + 1, s, i => foldU upd d (upd s i) (i + 1)
theorem foldU_ind {S : Type} {upd : S → Int → S} {n : Int} (Inv : S → Int → Prop) (hstep : ∀ (s : S) (i : Int), 0 ≤ i → i < n → Inv s i → Inv (upd s i) (i + 1)) : ∀ (d : Nat) (s : S) (i : Int), 0 ≤ i → i + d = n → Inv s i → Inv (foldU upd d s i) n := by
  intro d
  induction d with
  | zero => intro s i h0 h1 hI; obtain rfl : i = n := by omega
            exact hI
  | succ d ih => intro s i h0 h1 hI; exact ih _ _ (by omega) (by omega) (hstep s i h0 (by omega) hI)
theorem Ev_forK {S τ : Type} {F : Nat → S → Int → Option τ} {upd : S → Int → S} {n : Int} {r : τ} (Inv : S → Int → Prop)
    (hstep : ∀ (s : S) (i : Int), 0 ≤ i → i < n → Inv s i → Inv (upd s i) (i + 1) ∧ (Ev (fun k => F k (upd s i) (i + 1)) r → Ev (fun k => F k s i) r)) :
    ∀ (d : Nat) (s : S) (i : Int), 0 ≤ i → i + d = n → Inv s i → (Inv (foldU upd d s i) n → Ev (fun k => F k (foldU upd d s i) n) r) → Ev (fun k => F k s i) r := by
  intro d
  induction d with
  | zero => intro s i h0 h1 hI h; obtain rfl : i = n := by omega
            exact h hI
  | succ d ih =>
    intro s i h0 h1 hI h
    obtain ⟨h2, h3⟩ := hstep s i h0 (by omega) hI
    exact h3 (ih _ _ (by omega) (by omega) h2 h)

theorem Ev_allK {τ : Type} {F : Nat → Int → Option τ} {p : Int → Prop} {n : Int} {r bad : τ}
    (hstep : ∀ i : Int, 0 ≤ i → i < n → (p i → Ev (fun k => F k (i + 1)) r → Ev (fun k => F k i) r) ∧ (¬ p i → r = bad → Ev (fun k => F k i) r)) :
    ∀ (d : Nat) (i : Int), 0 ≤ i → i + d = n → (¬ (∀ j : Int, i ≤ j → j < n → p j) → r = bad) → ((∀ j : Int, i ≤ j → j < n → p j) → Ev (fun k => F k n) r) → Ev (fun k => F k i) r := by
  intro d
  induction d with
  | zero => intro i h0 h1 _ h; obtain rfl : i = n := by omega
            exact h (fun j h2 h3 => by omega)
  | succ d ih =>
    intro i h0 h1 hb hg
    obtain ⟨h2, h3⟩ := hstep i h0 (by omega)
    by_cases hp : p i
    · refine h2 hp (ih (i + 1) (by omega) (by omega) (fun h => hb (fun q => h (fun j h4 h5 => q j (by omega) h5))) (fun h => hg (fun j h4 h5 => ?_)))
      by_cases hj : j = i
      · rw [hj]; exact hp
      · exact h j (by omega) h5
    · exact h3 hp (hb (fun q => hp (q i (Int.le_refl _) (by omega))))

theorem Ev_allI {τ : Type} {F : Nat → Int → Option τ} {p : Int → Prop} {n : Int} {r bad : τ}
    (hstep : ∀ i : Int, 0 ≤ i → i < n → (∀ j : Int, 0 ≤ j → j < i → p j) → (p i → Ev (fun k => F k (i + 1)) r → Ev (fun k => F k i) r) ∧ (¬ p i → r = bad → Ev (fun k => F k i) r)) :
    ∀ (d : Nat) (i : Int), 0 ≤ i → i + d = n → (∀ j : Int, 0 ≤ j → j < i → p j) → (¬ (∀ j : Int, 0 ≤ j → j < n → p j) → r = bad) → ((∀ j : Int, 0 ≤ j → j < n → p j) → Ev (fun k => F k n) r) → Ev (fun k => F k i) r := by
  intro d
  induction d with
  | zero => intro i h0 h1 hp _ h; obtain rfl : i = n := by omega
            exact h hp
  | succ d ih =>
    intro i h0 h1 hb hbad hg
    obtain ⟨h2, h3⟩ := hstep i h0 (by omega) hb
    by_cases hp : p i
    · refine h2 hp (ih (i + 1) (by omega) (by omega) (fun j h4 h5 => ?_) hbad hg)
      by_cases hj : j = i
      · rw [hj]; exact hp
      · exact hb j h4 (by omega)
    · exact h3 hp (hbad (fun q => hp (q i h0 (by omega))))

theorem isIndex_eq (i : Int) (n : Nat) (hn : n ≤ 9000000000000000000) : impl_isIndex.f i (n : Int) = some (decide (0 ≤ i ∧ i ≤ (n : Int) - 1)) := by
  unfold impl_isIndex.f; rw [w64 (by omega) (by omega), within_eq]; rfl

theorem rdWire {ws : List S59} {i : Int} (h0 : 0 ≤ i) (h1 : i < ws.length) : rd_T59 ws i = ws[i.toNat]'(by omega) := by
  simp [rd_T59, List.getD_eq_getElem?_getD, List.getElem?_eq_getElem (show i.toNat < ws.length by omega)]
theorem rdWire_take {ws : List S59} {m : Nat} {i : Int} (h0 : 0 ≤ i) (h1 : i < m) : rd_T59 (ws.take m) i = rd_T59 ws i := by
  simp only [rd_T59, List.getD_eq_getElem?_getD]
  rw [List.getElem?_take_of_lt (by omega)]
/-- A wire ends at this pin. -/
def AtPin (ws : List S59) (m p i : Int) : Prop := (rd_T59 ws i).f1 = m ∧ (rd_T59 ws i).f2 = p
def PinOk (xs : List S63) (m p : Int) : Prop := (0 ≤ m ∧ m ≤ (xs.length : Int) - 1) ∧ 0 ≤ p ∧ p ≤ (rd_T63 xs m).f1 - 1
def OkWire (xs : List S63) (n : Int) (ws : List S59) (i : Int) : Prop :=
  (0 ≤ (rd_T59 ws i).f0 ∧ (rd_T59 ws i).f0 ≤ n - 1) ∧ PinOk xs (rd_T59 ws i).f1 (rd_T59 ws i).f2 ∧ (0 < i → (rd_T59 ws (i - 1)).f0 < (rd_T59 ws i).f0) ∧ ∀ j : Int, 0 ≤ j → j < i → ¬ AtPin ws (rd_T59 ws i).f1 (rd_T59 ws i).f2 j
def AreW (xs : List S63) (n : Int) (ws : List S59) : Prop := areMods xs = true ∧ (0 ≤ n ∧ n ≤ 20) ∧ ∀ i : Int, 0 ≤ i → i < ws.length → OkWire xs n ws i
noncomputable def areW (xs : List S63) (n : Int) (ws : List S59) : Bool := open Classical in decide (AreW xs n ws)
theorem areW_iff {xs : List S63} {n : Int} {ws : List S59} : areW xs n ws = true ↔ AreW xs n ws := by unfold areW; exact @decide_eq_true_iff _ (Classical.propDecidable _)
instance instPin (xs : List S63) (m p : Int) : Decidable (PinOk xs m p) := by unfold PinOk; infer_instance
theorem mod_pins {xs : List S63} (hx : areMods xs = true) {m : Int} (h0 : 0 ≤ m) (h1 : m < xs.length) : 0 ≤ (rd_T63 xs m).f1 ∧ (rd_T63 xs m).f1 ≤ 32 := (of_decide_eq_true (((areMods_iff xs).1 hx).2 m h0 h1)).1
theorem impl_isPin_eq {xs : List S63} (hx : areMods xs = true) (m p : Int) : impl_isPin.f xs m p = some (decide (PinOk xs m p)) := by
  have hn := ((areMods_iff xs).1 hx).1
  unfold impl_isPin.f
  rw [isIndex_eq m xs.length (by omega)]
  simp only [Option.bind_some]
  by_cases hm : 0 ≤ m ∧ m ≤ (xs.length : Int) - 1
  · have hp := mod_pins hx hm.1 (show m < xs.length by omega)
    rw [if_pos (decide_eq_true hm), if_pos hm.1, if_pos (by omega), w64 (by omega) (by omega), within_eq, Option.bind_some]
    congr 1
    rw [decide_eq_decide]
    exact ⟨fun h => ⟨hm, h⟩, fun h => h.2⟩
  · rw [if_neg (by simpa using hm), decide_eq_false (fun h => hm h.1)]
theorem spec_pin_eq {xs : List S63} (hx : areMods xs = true) (m p : Int) : spec_l13Pin.f xs m p = some (decide (PinOk xs m p)) := by
  have hn := ((areMods_iff xs).1 hx).1
  unfold spec_l13Pin.f
  rw [w64 (x := (xs.length : Int) - 1) (by omega) (by omega), l01In_eq]
  simp only [Option.bind_some]
  by_cases hm : 0 ≤ m ∧ m ≤ (xs.length : Int) - 1
  · have hp := mod_pins hx hm.1 (show m < xs.length by omega)
    rw [if_pos (decide_eq_true hm), if_pos hm.1, if_pos (by omega), w64 (by omega) (by omega), l01In_eq, Option.bind_some]
    congr 1
    rw [decide_eq_decide]
    exact ⟨fun h => ⟨hm, h⟩, fun h => h.2⟩
  · rw [if_neg (by simpa using hm), decide_eq_false (fun h => hm h.1)]
theorem cueAt_ev (us : List S59) (hn : us.length ≤ 1000000) (m p : Int) (hc : ∀ j : Int, 0 ≤ j → j < us.length → 0 ≤ (rd_T59 us j).f0) : ∃ c, Ev (fun k => impl_cueAt.f k us m p) c ∧ (0 ≤ c ↔ ∃ j : Int, 0 ≤ j ∧ j < us.length ∧ AtPin us m p j) := by
  have h : ∀ (d : Nat) (i : Int), 0 ≤ i → i + d = us.length → ∃ c, Ev (fun k => impl_cueAt.l0 k m p us (us.length : Int) i) c ∧ (0 ≤ c ↔ ∃ j : Int, i ≤ j ∧ j < us.length ∧ AtPin us m p j) := by
    intro d
    induction d with
    | zero => intro i h0 h1
              exact ⟨-1, Ev_succ (by simp only [impl_cueAt.l0]; exact Ev_neg (by omega) (Ev.now _)), ⟨fun h => by omega, fun ⟨j, h2, h3, _⟩ => by omega⟩⟩
    | succ d ih =>
      intro i h0 h1
      by_cases hm : AtPin us m p i
      · exact ⟨(rd_T59 us i).f0, Ev_succ (by
          simp only [impl_cueAt.l0]
          exact Ev_pos (by omega) (Ev_pos h0 (Ev_pos (by omega) (Ev_pos hm.1 (Ev_pos hm.2 (Ev.now _)))))), ⟨fun _ => ⟨i, Int.le_refl _, by omega, hm⟩, fun _ => hc i h0 (by omega)⟩⟩
      · obtain ⟨c, he, hi⟩ := ih (i + 1) (by omega) (by omega)
        refine ⟨c, Ev_succ (by
          simp only [impl_cueAt.l0]
          refine Ev_pos (by omega) (Ev_pos h0 (Ev_pos (by omega) ?_))
          rw [w64 (by omega) (by omega)]
          exact Ev_ite (fun ha => Ev_neg (fun hb => hm ⟨ha, hb⟩) he) (fun _ => he)), hi.trans ⟨fun ⟨j, h2, h3, h4⟩ => ⟨j, by omega, h3, h4⟩, fun ⟨j, h2, h3, h4⟩ => ⟨j, ?_, h3, h4⟩⟩⟩
        by_cases hj : j = i
        · rw [hj] at h4; exact absurd h4 hm
        · omega
  exact h us.length 0 (by omega) (by omega)
theorem l13At_ev (ws : List S59) (hn : ws.length ≤ 1000000) {i : Int} (hi0 : 0 ≤ i) (hi1 : i < ws.length) : ∃ c, Ev (fun k => spec_l13At.f k ws (rd_T59 ws i).f1 (rd_T59 ws i).f2) c ∧ (c = i ↔ ∀ j : Int, 0 ≤ j → j < i → ¬ AtPin ws (rd_T59 ws i).f1 (rd_T59 ws i).f2 j) := by
  have h : ∀ (d : Nat) (s : Int), 0 ≤ s → s + d = i → (∀ j : Int, 0 ≤ j → j < s → ¬ AtPin ws (rd_T59 ws i).f1 (rd_T59 ws i).f2 j) → ∃ c, Ev (fun k => spec_l13At.l0 k ws (rd_T59 ws i).f1 (rd_T59 ws i).f2 s) c ∧ (c = i ↔ ∀ j : Int, 0 ≤ j → j < i → ¬ AtPin ws (rd_T59 ws i).f1 (rd_T59 ws i).f2 j) := by
    intro d
    induction d with
    | zero =>
      intro s h0 h1 hno
      obtain rfl : s = i := by omega
      exact ⟨s, Ev_succ (by
        simp only [spec_l13At.l0, if_true]
        exact Ev_pos hi1 (Ev_pos h0 (Ev.now _))), ⟨fun _ => hno, fun _ => rfl⟩⟩
    | succ d ih =>
      intro s h0 h1 hno
      by_cases hm : AtPin ws (rd_T59 ws i).f1 (rd_T59 ws i).f2 s
      · exact ⟨s, Ev_succ (by
          simp only [spec_l13At.l0]
          exact Ev_pos (by omega) (Ev_pos h0 (Ev_pos hm.1 (Ev_pos hm.2 (Ev.now _))))), ⟨fun h => by omega, fun h => absurd hm (h s h0 (by omega))⟩⟩
      · obtain ⟨c, he, hi⟩ := ih (s + 1) (by omega) (by omega) (fun j h2 h3 => by
          by_cases hj : j = s
          · rw [hj]; exact hm
          · exact hno j h2 (by omega))
        refine ⟨c, Ev_succ (by
          simp only [spec_l13At.l0]
          refine Ev_pos (by omega) (Ev_pos h0 ?_)
          rw [w64 (by omega) (by omega)]
          exact Ev_ite (fun ha => Ev_neg (fun hb => hm ⟨ha, hb⟩) he) (fun _ => he)), hi⟩
  exact h i.toNat 0 (by omega) (by omega) (fun j h0 h1 => by omega)

theorem impl_AreWires_ev (xs : List S63) (n : Int) (ws : List S59) (hw : ws.length ≤ 1000000) : Ev (fun k => impl_AreWires.f k xs n ws) (areW xs n ws) := by
  unfold impl_AreWires.f
  have hj0 : ∀ r, r = false → Ev (fun k => impl_AreWires.j0 k xs n ws true) r := fun r h => Ev_succ (by
    simp only [impl_AreWires.j0, if_true]
    exact Ev_some h.symm)
  have hno : ¬ AreW xs n ws → areW xs n ws = false := fun h => by rw [Bool.eq_false_iff]; exact fun q => h (areW_iff.1 q)
  refine Ev.bind (impl_AreModules_ev xs) (Ev_ite (fun hx => ?_) (fun hx => hj0 _ (hno (fun q => hx q.1))))
  rw [within_eq]
  simp only [Option.bind_some]
  by_cases hn : 0 ≤ n ∧ n ≤ 20
  · rw [decide_eq_true hn]
    refine Ev_succ (by
      simp only [impl_AreWires.j0, Bool.not_true, Bool.false_eq_true, if_false]
      refine Ev_allI (F := fun k i => impl_AreWires.l0 k xs n ws ws (ws.length : Int) i) (p := OkWire xs n ws) (n := ws.length) (bad := false) (fun i h0 h1 hb => ?_) ws.length 0 (by omega) (by omega) (fun j h0 h1 => by omega) (fun h => hno (fun q => h q.2.2)) (fun h => Ev_succ (by
        simp only [impl_AreWires.l0]
        exact Ev_neg (by omega) (Ev_some (areW_iff.2 ⟨hx, hn, h⟩).symm)))
      have hi2 : ∀ j : Int, 0 ≤ j → j < i → rd_T59 (ws.take i.toNat) j = rd_T59 ws j := fun j h2 h3 => rdWire_take h2 (by omega)
      have hl : ((ws.take i.toNat).length : Int) = i := by rw [List.length_take]; omega
      obtain ⟨c, hce, hci⟩ := cueAt_ev (ws.take i.toNat) (by omega) (rd_T59 ws i).f1 (rd_T59 ws i).f2 (fun j h2 h3 => by rw [hi2 j h2 (by omega)]; exact (hb j h2 (by omega)).1.1)
      have hc : 0 ≤ c ↔ ∃ j : Int, 0 ≤ j ∧ j < i ∧ AtPin ws (rd_T59 ws i).f1 (rd_T59 ws i).f2 j := by
        rw [hci]
        constructor
        · rintro ⟨j, h2, h3, h4⟩
          refine ⟨j, h2, by omega, ?_⟩
          unfold AtPin at h4 ⊢
          rw [hi2 j h2 (by omega)] at h4
          exact h4
        · rintro ⟨j, h2, h3, h4⟩
          refine ⟨j, h2, by omega, ?_⟩
          unfold AtPin at h4 ⊢
          rw [hi2 j h2 (by omega)]
          exact h4
      have hj2t : ∀ r, r = false → Ev (fun k => impl_AreWires.j2 k xs n ws i ws (ws.length : Int) i true (rd_T59 ws i).f0 (rd_T59 ws i).f1 (rd_T59 ws i).f2) r := fun r h => Ev_succ (by
        simp only [impl_AreWires.j2, if_true]
        exact Ev_some h.symm)
      have hj2 : ∀ r, (0 ≤ c → r = false) → (¬ 0 ≤ c → Ev (fun k => impl_AreWires.l0 k xs n ws ws (ws.length : Int) (i + 1)) r) → Ev (fun k => impl_AreWires.j2 k xs n ws i ws (ws.length : Int) i false (rd_T59 ws i).f0 (rd_T59 ws i).f1 (rd_T59 ws i).f2) r := fun r hf hg => Ev_succ (by
        simp only [impl_AreWires.j2, Bool.false_eq_true, if_false]
        refine Ev_pos h0 (Ev_pos (by omega) (Ev.bind hce ?_))
        rw [w64 (by omega) (by omega)]
        exact Ev_ite (fun q => Ev_some (hf q).symm) (fun q => hg q))
      -- one round, by the four tests
      have hround : ∀ r, (¬ OkWire xs n ws i → r = false) → (OkWire xs n ws i → Ev (fun k => impl_AreWires.l0 k xs n ws ws (ws.length : Int) (i + 1)) r) → Ev (fun k => impl_AreWires.l0 k xs n ws ws (ws.length : Int) i) r := fun r hf hg => Ev_succ (by
        simp only [impl_AreWires.l0, within_eq, impl_isPin_eq hx, Option.bind_some]
        refine Ev_pos h1 (Ev_pos h0 (Ev_pos h1 ?_))
        rw [w64 (x := n - 1) (by omega) (by omega)]
        refine Ev_ite (fun ha => Ev_ite (fun hp => ?_) (fun hp => hj2t _ (hf (fun q => hp (decide_eq_true q.2.1))))) (fun ha => hj2t _ (hf (fun q => ha (decide_eq_true q.1))))
        have ha' := of_decide_eq_true ha
        have hp' := of_decide_eq_true hp
        have hlast : (0 < i → (rd_T59 ws (i - 1)).f0 < (rd_T59 ws i).f0) → Ev (fun k => impl_AreWires.j2 k xs n ws i ws (ws.length : Int) i false (rd_T59 ws i).f0 (rd_T59 ws i).f1 (rd_T59 ws i).f2) r := fun hprev =>
          hj2 r (fun q => hf (fun w => by
            obtain ⟨j, h2, h3, h4⟩ := hc.1 q
            exact w.2.2.2 j h2 h3 h4)) (fun q => hg ⟨ha', hp', hprev, fun j h2 h3 h4 => q (hc.2 ⟨j, h2, h3, h4⟩)⟩)
        refine Ev_ite (fun hi => ?_) (fun hi => hlast (fun q => absurd q hi))
        rw [w64 (x := i - 1) (by omega) (by omega)]
        refine Ev_pos (by omega) (Ev_pos (by omega) ?_)
        by_cases hlt : (rd_T59 ws (i - 1)).f0 ≥ (rd_T59 ws i).f0
        · rw [decide_eq_true hlt]
          exact hj2t _ (hf (fun q => by have := q.2.2.1 hi; omega))
        · rw [decide_eq_false hlt]
          exact hlast (fun _ => by omega))
      exact ⟨fun hp hr => hround _ (fun q => absurd hp q) (fun _ => hr), fun hp hr => hround _ (fun _ => hr) (fun q => absurd q hp)⟩)
  · rw [decide_eq_false hn]
    exact hj0 _ (hno (fun q => hn q.2.1))
theorem spec_AreWires_ev (xs : List S63) (hxn : xs.length ≤ 1000000) (n : Int) (ws : List S59) (hw : ws.length ≤ 1000000) : Ev (fun k => spec_AreWires.f k xs n ws) (areW xs n ws) := by
  unfold spec_AreWires.f
  have hj0 : ∀ r, r = false → Ev (fun k => spec_AreWires.j0 k xs n ws true) r := fun r h => Ev_succ (by
    simp only [spec_AreWires.j0, if_true]
    exact Ev_some h.symm)
  have hno : ¬ AreW xs n ws → areW xs n ws = false := fun h => by rw [Bool.eq_false_iff]; exact fun q => h (areW_iff.1 q)
  refine Ev.bind (spec_AreModules_ev xs hxn) (Ev_ite (fun hx => ?_) (fun hx => hj0 _ (hno (fun q => hx q.1))))
  rw [l01In_eq]
  simp only [Option.bind_some]
  by_cases hn : 0 ≤ n ∧ n ≤ 20
  · rw [decide_eq_true hn]
    refine Ev_succ (by
      simp only [spec_AreWires.j0, Bool.not_true, Bool.false_eq_true, if_false]
      refine Ev_allI (F := fun k i => spec_AreWires.l0 k xs n ws i) (p := OkWire xs n ws) (n := ws.length) (bad := false) (fun i h0 h1 hb => ?_) ws.length 0 (by omega) (by omega) (fun j h0 h1 => by omega) (fun h => hno (fun q => h q.2.2)) (fun h => Ev_succ (by
        simp only [spec_AreWires.l0]
        exact Ev_neg (by omega) (Ev_some (areW_iff.2 ⟨hx, hn, h⟩).symm)))
      obtain ⟨c, hce, hc⟩ := l13At_ev ws hw h0 h1
      have hround : ∀ r, (¬ OkWire xs n ws i → r = false) → (OkWire xs n ws i → Ev (fun k => spec_AreWires.l0 k xs n ws (i + 1)) r) → Ev (fun k => spec_AreWires.l0 k xs n ws i) r := fun r hf hg => Ev_succ (by
        simp only [spec_AreWires.l0, l01In_eq, spec_pin_eq hx, Option.bind_some]
        refine Ev_pos h1 (Ev_pos h0 ?_)
        rw [w64 (x := n - 1) (by omega) (by omega), w64 (x := i + 1) (by omega) (by omega)]
        refine Ev_ite (fun ha => Ev_ite (fun hp => ?_) (fun hp => Ev_some (hf (fun q => hp (decide_eq_true q.2.1))).symm)) (fun ha => Ev_some (hf (fun q => ha (decide_eq_true q.1))).symm)
        have ha' := of_decide_eq_true ha
        have hp' := of_decide_eq_true hp
        refine Ev_ite (fun hi => ?_) (fun hi => Ev.bind hce (Ev_ite (fun q => hg ⟨ha', hp', fun w => absurd w hi, hc.1 q⟩) (fun q => Ev_some (hf (fun w => q (hc.2 w.2.2.2))).symm)))
        rw [w64 (x := i - 1) (by omega) (by omega)]
        refine Ev_pos (by omega) (Ev_pos (by omega) (Ev_ite (fun hlt => Ev_some (hf (fun q => by have := q.2.2.1 hi; omega)).symm) (fun hlt => Ev.bind hce (Ev_ite (fun q => hg ⟨ha', hp', fun _ => by omega, hc.1 q⟩) (fun q => Ev_some (hf (fun w => q (hc.2 w.2.2.2))).symm)))))
        )
      exact ⟨fun hp hr => hround _ (fun q => absurd hp q) (fun _ => hr), fun hp hr => hround _ (fun _ => hr) (fun q => absurd q hp)⟩)
  · rw [decide_eq_false hn]
    exact hj0 _ (hno (fun q => hn q.2.1))

theorem good12p_l0 (c : List Int) (d : Nat) : ∀ (xs : List S63) (n i seed : Int), Rd c i seed → n ≤ d → d ≤ 10 → 1 ≤ xs.length → xs.length + d ≤ 20 → (∀ e ∈ xs, e.f1 ≤ 10) → ∃ ys i' s', Ev (fun k => spec_l12Good.l0 k xs n c i seed) (ys, i', s') ∧ Rd c i' s' ∧ 1 ≤ ys.length ∧ ys.length ≤ 20 ∧ ∀ e ∈ ys, e.f1 ≤ 10 := by
  induction d with
  | zero =>
    intro xs n i seed hr hn hd h1 hx hp
    refine ⟨xs, i, seed, Ev_succ (by simp only [spec_l12Good.l0]; exact Ev_neg (by omega) (Ev.now _)), hr, h1, by omega, hp⟩
  | succ d ih =>
    intro xs n i seed hr hn hd h1 hx hp
    by_cases hq : n > 0
    · obtain ⟨x, i1, s1, e1, r1, _⟩ := next_tells hr (xs.length : Int) (by omega)
      obtain ⟨y, i2, s2, e2, r2, h20, h21⟩ := next_tells r1 6 (by omega)
      have h22 := h21 (by omega)
      obtain ⟨ys, i3, s3, h3, r3, hl⟩ := ih (xs ++ [⟨x, y⟩]) (n - 1) i2 s2 r2 (by omega) (by omega) (by simp) (by simp; omega) (fun e he => by
        rcases List.mem_append.1 he with he | he
        · exact hp e he
        · rw [List.mem_singleton.1 he]; exact (show y ≤ 10 by omega))
      refine ⟨ys, i3, s3, Ev_succ (by
        simp only [spec_l12Good.l0]
        refine Ev_pos hq (Ev_bindc e1 (Ev_bindc e2 (Ev_pos (by omega) ?_)))
        rw [w64 (by omega) (by omega)]
        exact h3), r3, hl⟩
    · exact ih xs n i seed hr (by omega) (by omega) h1 (by omega) hp
theorem good12p_tells {c : List Int} {i seed : Int} (hr : Rd c i seed) : ∃ ys i' s', Ev (fun k => spec_l12Good.f k c i seed) (ys, i', s') ∧ Rd c i' s' ∧ 1 ≤ ys.length ∧ ys.length ≤ 20 ∧ ∀ e ∈ ys, e.f1 ≤ 10 := by
  obtain ⟨x1, i1, s1, e1, r1, h10, h11⟩ := next_tells hr 5 (by omega)
  have h12 := h11 (by omega)
  obtain ⟨x2, i2, s2, e2, r2, h1, h2⟩ := next_tells r1 8 (by omega)
  obtain ⟨ys, i3, s3, h3, r3, hl⟩ := good12p_l0 c 8 [⟨-1, x1⟩] x2 i2 s2 r2 (by omega) (by omega) (by simp) (by simp) (fun e he => by rw [List.mem_singleton.1 he]; exact (show x1 ≤ 10 by omega))
  refine ⟨ys, i3, s3, ?_, r3, hl⟩
  unfold spec_l12Good.f
  exact Ev_bindc e1 (Ev_bindc e2 h3)
theorem good13_l0 (c : List Int) (xs : List S63) (h1 : 1 ≤ xs.length) (h2 : xs.length ≤ 20) (hp : ∀ e ∈ xs, e.f1 ≤ 10) (n : Int) (hn : n ≤ 9) (d : Nat) : ∀ (ws : List S59) (u i seed : Int), Rd c i seed → 0 ≤ u → n - u ≤ d → (ws.length : Int) ≤ u → ws.length ≤ 20 → ∃ us i' s', Ev (fun k => spec_l13Good.l0 k xs n ws u c i seed) (xs, n, us, i', s') ∧ Rd c i' s' ∧ us.length ≤ 20 := by
  induction d with
  | zero =>
    intro ws u i seed hr h0 hd hl hl2
    exact ⟨ws, i, seed, Ev_succ (by simp only [spec_l13Good.l0]; exact Ev_neg (by omega) (Ev.now _)), hr, hl2⟩
  | succ d ih =>
    intro ws u i seed hr h0 hd hl hl2
    by_cases hlt : u < n
    · obtain ⟨m, i1, s1, e1, r1, h3, h4⟩ := next_tells hr (xs.length : Int) (by omega)
      have h4 := h4 (by omega)
      have hpin : (rd_T63 xs m).f1 ≤ 10 := by
        have : rd_T63 xs m = xs[m.toNat]'(by omega) := by simp [rd_T63, List.getD_eq_getElem?_getD, List.getElem?_eq_getElem (show m.toNat < xs.length by omega)]
        rw [this]
        exact hp _ (List.getElem_mem _)
      obtain ⟨p, i2, s2, e2, r2, _⟩ := next_tells r1 (rd_T63 xs m).f1 (by omega)
      obtain ⟨q, i3, s3, e3, r3, _⟩ := next_tells r2 3 (by omega)
      have hev := spec_AreWires_ev xs (by omega) n (ws ++ [⟨u, m, p⟩]) (by simp; omega)
      by_cases ha : q > 0 ∧ areW xs n (ws ++ [⟨u, m, p⟩]) = true
      · obtain ⟨us, i4, s4, h5, r4, h6⟩ := ih (ws ++ [⟨u, m, p⟩]) (u + 1) i3 s3 r3 (by omega) (by omega) (by simp; omega) (by simp; omega)
        refine ⟨us, i4, s4, Ev_succ (by
          simp only [spec_l13Good.l0, Option.bind_some, List.nil_append]
          refine Ev_pos hlt (Ev_bindc e1 (Ev_pos h3 (Ev_pos h4 (Ev_bindc e2 (Ev_pos (by simp; omega) (Ev_pos (by simp; omega) (Ev_bindc e3 (Ev_pos ha.1 (Ev.bind hev (Ev_pos ha.2 ?_))))))))))
          rw [w64 (by omega) (by omega)]
          exact h5), r4, h6⟩
      · obtain ⟨us, i4, s4, h5, r4, h6⟩ := ih ws (u + 1) i3 s3 r3 (by omega) (by omega) (by omega) hl2
        refine ⟨us, i4, s4, Ev_succ (by
          simp only [spec_l13Good.l0, Option.bind_some, List.nil_append]
          refine Ev_pos hlt (Ev_bindc e1 (Ev_pos h3 (Ev_pos h4 (Ev_bindc e2 (Ev_pos (by simp; omega) (Ev_pos (by simp; omega) (Ev_bindc e3 ?_)))))))
          rw [w64 (by omega) (by omega)]
          exact Ev_ite (fun hq => Ev.bind hev (Ev_neg (fun hw => ha ⟨hq, hw⟩) h5)) (fun _ => h5)), r4, h6⟩
    · exact ⟨ws, i, seed, Ev_succ (by simp only [spec_l13Good.l0]; exact Ev_neg hlt (Ev.now _)), hr, hl2⟩
theorem draw13_tells {c : List Int} {i seed : Int} (hr : Rd c i seed) : ∃ xs n ws i' s', Ev (fun k => spec_l13Draw.f k c i seed) (xs, n, ws, i', s') ∧ Rd c i' s' ∧ xs.length ≤ 20 ∧ ws.length ≤ 21 := by
  obtain ⟨xs, i1, s1, d1, r1, h1, h2, hp⟩ := good12p_tells hr
  obtain ⟨n, i2, s2, e2, r2, h3, h4⟩ := next_tells r1 9 (by omega)
  have h4 := h4 (by omega)
  obtain ⟨ws, i3, s3, d3, r3, h5⟩ := good13_l0 c xs h1 h2 hp n (by omega) 9 [] 0 i2 s2 r2 (by omega) (by omega) (by simp) (by simp)
  obtain ⟨q, i4, s4, e4, r4, _⟩ := next_tells r3 40 (by omega)
  have hg : Ev (fun k => spec_l13Good.f k c i seed) (xs, n, ws, i3, s3) := by
    unfold spec_l13Good.f
    exact Ev.bind d1 (Ev_bindc e2 d3)
  unfold spec_l13Draw.f
  by_cases q0 : q = 0
  · obtain ⟨ys, i5, s5, d5, r5, h6⟩ := draw12_tells r4
    exact ⟨ys, n, ws, i5, s5, Ev.bind hg (Ev_bindc e4 (Ev_pos q0 (Ev.bind d5 (Ev.now _)))), r5, h6, by omega⟩
  · by_cases q1 : q = 1
    · obtain ⟨v, i5, s5, e5, r5, _⟩ := pick_tells r4 [-1, 0, 20, 21] (by simp) (by simp)
      exact ⟨xs, v, ws, i5, s5, Ev.bind hg (Ev_bindc e4 (Ev_neg q0 (Ev_pos q1 (Ev_bindc e5 (Ev.now _))))), r5, h2, by omega⟩
    · by_cases q2 : q = 2
      · obtain ⟨a, i5, s5, e5, r5, _⟩ := next_tells r4 10 (by omega)
        obtain ⟨b, i6, s6, e6, r6, _⟩ := next_tells r5 3 (by omega)
        obtain ⟨v, i7, s7, e7, r7, _⟩ := next_tells r6 4 (by omega)
        exact ⟨xs, n, ws ++ [⟨wrap64 (a - 1), b, v⟩], i7, s7, Ev.bind hg (Ev_bindc e4 (Ev_neg q0 (Ev_neg q1 (Ev_pos q2 (Ev_bindc e5 (Ev_bindc e6 (Ev_bindc e7 (Ev_pos (by simp only; omega) (Ev.now _))))))))), r7, h2, by simp; omega⟩
      · by_cases q3 : q = 3
        · by_cases hz : (ws.length : Int) > 0
          · exact ⟨xs, n, ws ++ [⟨(rd_T59 ws 0).f0, (rd_T59 ws 0).f1, (rd_T59 ws 0).f2⟩], i4, s4, Ev.bind hg (Ev_bindc e4 (Ev_neg q0 (Ev_neg q1 (Ev_neg q2 (Ev_pos q3 (Ev_pos hz (Ev_pos (by simp only; omega) (Ev_pos (by simp only; omega) (Ev.now _))))))))), r4, h2, by simp; omega⟩
          · exact ⟨xs, n, ws, i4, s4, Ev.bind hg (Ev_bindc e4 (Ev_neg q0 (Ev_neg q1 (Ev_neg q2 (Ev_pos q3 (Ev_neg hz (Ev.now _))))))), r4, h2, by omega⟩
        · exact ⟨xs, n, ws, i4, s4, Ev.bind hg (Ev_bindc e4 (Ev_neg q0 (Ev_neg q1 (Ev_neg q2 (Ev_neg q3 (Ev.now _)))))), r4, h2, by omega⟩

theorem drawLate_l0 (c : List Int) (xs : List S63) (n : Int) (ws : List S59) (sent : Int) (d : Nat) : ∀ (ts : List Int) (u i seed : Int), Rd c i seed → 0 ≤ u → u ≤ 30 → 30 - u ≤ d → (ts.length : Int) ≤ u → ∃ hop us, Ev (fun k => spec_DrawLateCues.l0 k xs n ws sent ts u c i seed) (xs, n, ws, hop, sent, us) ∧ us.length ≤ 31 := by
  have hend : ∀ (ts : List Int) (u i seed : Int), Rd c i seed → (ts.length : Int) ≤ 30 → ¬ u < mn n 30 → ∃ hop us, Ev (fun k => spec_DrawLateCues.l0 k xs n ws sent ts u c i seed) (xs, n, ws, hop, sent, us) ∧ us.length ≤ 31 := by
    intro ts u i seed hr hl hno
    obtain ⟨q, i1, s1, e1, r1, _⟩ := next_tells hr 30 (by omega)
    by_cases q0 : q = 0
    · obtain ⟨a, i2, s2, e2, r2, _⟩ := next_tells r1 4 (by omega)
      obtain ⟨v, i3, s3, e3, r3, _⟩ := pick_tells r2 [1, 2, wrap64 (1 + a), 10, 11] (by simp) (by simp)
      exact ⟨v, ts ++ [3], Ev_succ (by
        simp only [spec_DrawLateCues.l0]
        exact Ev_neg hno (Ev_bindc e1 (Ev_pos q0 (Ev_pos (by omega) (Ev_bindc e2 (Ev_bindc e3 (Ev.now _))))))), by simp; omega⟩
    · by_cases q1 : q = 1
      · by_cases hz : (ts.length : Int) > 0
        · obtain ⟨b, i2, s2, e2, r2, _⟩ := pick_tells r1 [-2, 100000, 100001] (by simp) (by simp)
          obtain ⟨a, i3, s3, e3, r3, _⟩ := next_tells r2 4 (by omega)
          obtain ⟨v, i4, s4, e4, r4, _⟩ := pick_tells r3 [1, 2, wrap64 (1 + a), 10, 11] (by simp) (by simp)
          exact ⟨v, ts.set (0 : Int).toNat b, Ev_succ (by
            simp only [spec_DrawLateCues.l0]
            exact Ev_neg hno (Ev_bindc e1 (Ev_neg q0 (Ev_pos q1 (Ev_pos hz (Ev_bindc e2 (Ev_pos (by omega) (Ev_bindc e3 (Ev_bindc e4 (Ev.now _)))))))))), by rw [List.length_set]; omega⟩
        · obtain ⟨a, i3, s3, e3, r3, _⟩ := next_tells r1 4 (by omega)
          obtain ⟨v, i4, s4, e4, r4, _⟩ := pick_tells r3 [1, 2, wrap64 (1 + a), 10, 11] (by simp) (by simp)
          exact ⟨v, ts, Ev_succ (by
            simp only [spec_DrawLateCues.l0]
            exact Ev_neg hno (Ev_bindc e1 (Ev_neg q0 (Ev_pos q1 (Ev_neg hz (Ev_bindc e3 (Ev_bindc e4 (Ev.now _)))))))), by omega⟩
      · obtain ⟨a, i3, s3, e3, r3, _⟩ := next_tells r1 4 (by omega)
        obtain ⟨v, i4, s4, e4, r4, _⟩ := pick_tells r3 [1, 2, wrap64 (1 + a), 10, 11] (by simp) (by simp)
        exact ⟨v, ts, Ev_succ (by
          simp only [spec_DrawLateCues.l0]
          exact Ev_neg hno (Ev_bindc e1 (Ev_neg q0 (Ev_neg q1 (Ev_bindc e3 (Ev_bindc e4 (Ev.now _))))))), by omega⟩
  have hmn : mn n 30 ≤ 30 := by rw [mn_eq]; omega
  induction d with
  | zero =>
    intro ts u i seed hr h0 h1 hd hl
    exact hend ts u i seed hr (by omega) (by omega)
  | succ d ih =>
    intro ts u i seed hr h0 h1 hd hl
    by_cases hlt : u < mn n 30
    · obtain ⟨a, i1, s1, e1, r1, _⟩ := next_tells hr 60 (by omega)
      obtain ⟨b, i2, s2, e2, r2, _⟩ := next_tells r1 10 (by omega)
      obtain ⟨v, i3, s3, e3, r3, _⟩ := pick_tells r2 [a, wrap64 (sent + b), -1, sent] (by simp) (by simp)
      obtain ⟨hop, us, h2, h3⟩ := ih (ts ++ [v]) (u + 1) i3 s3 r3 (by omega) (by omega) (by omega) (by simp; omega)
      refine ⟨hop, us, Ev_succ (by
        simp only [spec_DrawLateCues.l0]
        refine Ev_pos hlt (Ev_bindc e1 (Ev_bindc e2 (Ev_bindc e3 (Ev_pos (by omega) ?_))))
        rw [w64 (by omega) (by omega)]
        exact h2), h3⟩
    · exact hend ts u i seed hr (by omega) hlt
theorem drawLate_tells (c : List Int) (hc : ∀ b ∈ c, 0 ≤ b ∧ b ≤ 255) (hl : c.length ≤ 4096) : ∃ xs n ws hop sent ts, Ev (fun k => spec_DrawLateCues.f k c) (xs, n, ws, hop, sent, ts) ∧ xs.length ≤ 20 ∧ ws.length ≤ 21 ∧ ts.length ≤ 31 := by
  obtain ⟨seed, h0, r0⟩ := from_tells c hc hl
  obtain ⟨xs, n, ws, i1, s1, h1, r1, hx, hw⟩ := draw13_tells r0
  obtain ⟨a, i2, s2, e2, r2, _⟩ := next_tells r1 40 (by omega)
  obtain ⟨b, i3, s3, e3, r3, _⟩ := next_tells r2 20 (by omega)
  obtain ⟨d, i4, s4, e4, r4, _⟩ := next_tells r3 20 (by omega)
  obtain ⟨v, i5, s5, e5, r5, _⟩ := pick_tells r4 [a, b, 100000, 100001, d] (by simp) (by simp)
  obtain ⟨hop, us, h2, h3⟩ := drawLate_l0 c xs n ws v 30 [] 0 i5 s5 r5 (by omega) (by omega) (by omega) (by simp)
  refine ⟨xs, n, ws, hop, v, us, ?_, hx, hw, h3⟩
  unfold spec_DrawLateCues.f
  exact Ev.bind h0 (Ev.bind h1 (Ev_bindc e2 (Ev_bindc e3 (Ev_bindc e4 (Ev_bindc e5 h2)))))

def codeS (xs : List S63) (hop sent : Int) : Int := if areMods xs = true then (if (1 ≤ hop ∧ hop ≤ 10) ∧ 0 ≤ sent ∧ sent ≤ 100000 then 0 else 2) else 1
theorem codeS_0 {xs : List S63} {hop sent : Int} (h : codeS xs hop sent = 0) : areMods xs = true ∧ (1 ≤ hop ∧ hop ≤ 10) ∧ 0 ≤ sent ∧ sent ≤ 100000 := by
  unfold codeS at h
  by_cases h1 : areMods xs = true
  · rw [if_pos h1] at h
    by_cases h2 : (1 ≤ hop ∧ hop ≤ 10) ∧ 0 ≤ sent ∧ sent ≤ 100000
    · exact ⟨h1, h2⟩
    · rw [if_neg h2] at h; exact absurd h (by decide)
  · rw [if_neg h1] at h; exact absurd h (by decide)
theorem l23Code_ev (xs : List S63) (hn : xs.length ≤ 1000000) (hop sent : Int) : Ev (fun k => spec_l23Code.f k xs hop sent 0) (codeS xs hop sent) := by
  unfold spec_l23Code.f
  have h12 : Ev (fun k => spec_l12Code.f k xs 0) (if areMods xs = true then 0 else 1) := by
    unfold spec_l12Code.f
    refine Ev.bind (spec_AreModules_ev xs hn) (Ev_ite (fun h => ?_) (fun h => by rw [if_neg h]; exact Ev.now _))
    have h2 := ((areMods_iff xs).1 h).1
    rw [if_pos h, l01In_eq, w64 (by omega) (by omega)]
    simp only [Option.bind_some, decide_eq_true_eq]
    exact Ev_pos (by omega) (Ev.now _)
  refine Ev.bind h12 ?_
  unfold codeS
  by_cases h : areMods xs = true
  · rw [if_pos h, if_pos h, l01In_eq, l01In_eq]
    simp only [Option.bind_some, decide_eq_true_eq]
    refine Ev_pos trivial (Ev_ite (fun h1 => Ev_ite (fun h2 => ?_) (fun h2 => ?_)) (fun h1 => ?_))
    · rw [if_pos ⟨h1, h2⟩]; exact Ev.now _
    · rw [if_neg (fun q => h2 q.2)]; exact Ev.now _
    · rw [if_neg (fun q => h1 q.1)]; exact Ev.now _
  · rw [if_neg h, if_neg h]
    exact Ev_neg (by decide) (Ev.now _)

theorem isHop_eq (a : Int) : impl_isHop.f a = some (decide (1 ≤ a ∧ a ≤ 10)) := by unfold impl_isHop.f; rw [within_eq]; rfl
theorem isTick_eq (a : Int) : impl_isTick.f a = some (decide (0 ≤ a ∧ a ≤ 100000)) := by unfold impl_isTick.f; rw [within_eq]; rfl

def TicksOk (ts : List Int) : Prop := ∀ i : Int, 0 ≤ i → i < ts.length → -1 ≤ rd ts i ∧ rd ts i ≤ 100000
noncomputable def codeC (xs : List S63) (n : Int) (ws : List S59) (hop sent : Int) (ts : List Int) : Int := open Classical in if AreW xs n ws then (if ((1 ≤ hop ∧ hop ≤ 10) ∧ 0 ≤ sent ∧ sent ≤ 100000) ∧ (ts.length : Int) = n ∧ TicksOk ts then 0 else 2) else 1
theorem codeC_of {xs : List S63} {n : Int} {ws : List S59} {hop sent : Int} {ts : List Int} (h : AreW xs n ws) (h2 : ((1 ≤ hop ∧ hop ≤ 10) ∧ 0 ≤ sent ∧ sent ≤ 100000) ∧ (ts.length : Int) = n ∧ TicksOk ts) : codeC xs n ws hop sent ts = 0 := by unfold codeC; rw [if_pos h, if_pos h2]
theorem codeC_1 {xs : List S63} {n : Int} {ws : List S59} {hop sent : Int} {ts : List Int} (h : ¬ AreW xs n ws) : codeC xs n ws hop sent ts = 1 := by unfold codeC; rw [if_neg h]
theorem codeC_2 {xs : List S63} {n : Int} {ws : List S59} {hop sent : Int} {ts : List Int} (h : AreW xs n ws) (h2 : ¬ (((1 ≤ hop ∧ hop ≤ 10) ∧ 0 ≤ sent ∧ sent ≤ 100000) ∧ (ts.length : Int) = n ∧ TicksOk ts)) : codeC xs n ws hop sent ts = 2 := by unfold codeC; rw [if_pos h, if_neg h2]
theorem codeC_0 {xs : List S63} {n : Int} {ws : List S59} {hop sent : Int} {ts : List Int} (h : codeC xs n ws hop sent ts = 0) : AreW xs n ws ∧ ((1 ≤ hop ∧ hop ≤ 10) ∧ 0 ≤ sent ∧ sent ≤ 100000) ∧ (ts.length : Int) = n ∧ TicksOk ts := by
  by_cases h1 : AreW xs n ws
  · by_cases h2 : ((1 ≤ hop ∧ hop ≤ 10) ∧ 0 ≤ sent ∧ sent ≤ 100000) ∧ (ts.length : Int) = n ∧ TicksOk ts
    · exact ⟨h1, h2⟩
    · rw [codeC_2 h1 h2] at h; exact absurd h (by decide)
  · rw [codeC_1 h1] at h; exact absurd h (by decide)
theorem stopsAsked_ev (xs : List S63) (n : Int) (ws : List S59) (hop sent : Int) (ts : List Int) (hw : ws.length ≤ 1000000) (ht : ts.length ≤ 1000000) : Ev (fun k => impl_stopsAsked.f k xs n ws hop sent ts) (codeC xs n ws hop sent ts) := by
  unfold impl_stopsAsked.f
  refine Ev.bind (impl_AreWires_ev xs n ws hw) (Ev_ite (fun h => ?_) (fun h => Ev_some (codeC_1 (fun q => h (areW_iff.2 q))).symm))
  have hA := areW_iff.1 h
  rw [isHop_eq, isTick_eq]
  simp only [Option.bind_some]
  refine Ev_ite (fun h1 => Ev_ite (fun h2 => Ev_ite (fun h3 => ?_) (fun h3 => Ev_some (codeC_2 hA (fun q => h3 q.2.1)).symm)) (fun h2 => Ev_some (codeC_2 hA (fun q => h2 (decide_eq_true q.1.2))).symm)) (fun h1 => Ev_some (codeC_2 hA (fun q => h1 (decide_eq_true q.1.1))).symm)
  have hall : Ev (fun k => impl_allWithin.f k ts (-1) 100000) (open Classical in decide (TicksOk ts)) := by
    unfold impl_allWithin.f
    refine Ev_allK (F := fun k i => impl_allWithin.l0 k (-1) 100000 ts (ts.length : Int) i) (p := fun i => -1 ≤ rd ts i ∧ rd ts i ≤ 100000) (n := ts.length) (bad := false) (fun i h4 h5 => ⟨fun hp hr => Ev_succ (by
      simp only [impl_allWithin.l0, within_eq, Option.bind_some, decide_eq_true_eq]
      rw [w64 (by omega) (by omega)]
      exact Ev_pos h5 (Ev_pos h4 (Ev_pos h5 (Ev_pos hp hr)))), fun hp hr => Ev_succ (by
      simp only [impl_allWithin.l0, within_eq, Option.bind_some, decide_eq_true_eq]
      exact Ev_pos h5 (Ev_pos h4 (Ev_pos h5 (Ev_neg hp (Ev_some hr.symm)))))⟩) ts.length 0 (by omega) (by omega) (fun hno => @decide_eq_false _ (Classical.propDecidable _) hno) (fun hv => Ev_succ (by
      simp only [impl_allWithin.l0]
      exact Ev_neg (by omega) (Ev_some (@decide_eq_true _ (Classical.propDecidable _) hv).symm)))
  refine Ev.bind hall (Ev_ite (fun h4 => Ev_some (codeC_of hA ⟨⟨of_decide_eq_true h1, of_decide_eq_true h2⟩, h3, @of_decide_eq_true _ (Classical.propDecidable _) h4⟩).symm) (fun h4 => Ev_some (codeC_2 hA (fun q => h4 (@decide_eq_true _ (Classical.propDecidable _) q.2.2))).symm))
theorem l23Cues_ev (xs : List S63) (hxn : xs.length ≤ 1000000) (n : Int) (ws : List S59) (hop sent : Int) (ts : List Int) (hw : ws.length ≤ 1000000) (ht : ts.length ≤ 1000000) : Ev (fun k => spec_l23Cues.f k xs n ws hop sent ts) (codeC xs n ws hop sent ts) := by
  unfold spec_l23Cues.f
  refine Ev.bind (spec_AreWires_ev xs hxn n ws hw) (Ev_ite (fun h => ?_) (fun h => Ev_some (codeC_1 (fun q => h (areW_iff.2 q))).symm))
  have hA := areW_iff.1 h
  refine Ev.bind (l23Code_ev xs hxn hop sent) ?_
  have hinv : ∀ (s i : Int), 0 ≤ i → i < ts.length → ((s = codeS xs hop sent ∧ ∀ j : Int, 0 ≤ j → j < i → -1 ≤ rd ts j ∧ rd ts j ≤ 100000) ∨ (s = 2 ∧ ∃ j : Int, 0 ≤ j ∧ j < ts.length ∧ ¬ (-1 ≤ rd ts j ∧ rd ts j ≤ 100000))) → (((if -1 ≤ rd ts i ∧ rd ts i ≤ 100000 then s else 2) = codeS xs hop sent ∧ ∀ j : Int, 0 ≤ j → j < i + 1 → -1 ≤ rd ts j ∧ rd ts j ≤ 100000) ∨ ((if -1 ≤ rd ts i ∧ rd ts i ≤ 100000 then s else 2) = 2 ∧ ∃ j : Int, 0 ≤ j ∧ j < ts.length ∧ ¬ (-1 ≤ rd ts j ∧ rd ts j ≤ 100000))) := fun s i h0 h1 hI => by
    by_cases hc : -1 ≤ rd ts i ∧ rd ts i ≤ 100000
    · rw [if_pos hc]
      rcases hI with ⟨h2, h3⟩ | h2
      · refine .inl ⟨h2, fun j h4 h5 => ?_⟩
        by_cases hj : j = i
        · rw [hj]; exact hc
        · exact h3 j h4 (by omega)
      · exact .inr h2
    · rw [if_neg hc]
      exact .inr ⟨rfl, i, h0, h1, hc⟩
  have hfin := foldU_ind (upd := fun (s i : Int) => if -1 ≤ rd ts i ∧ rd ts i ≤ 100000 then s else 2) (n := ts.length) (fun s i => (s = codeS xs hop sent ∧ ∀ j : Int, 0 ≤ j → j < i → -1 ≤ rd ts j ∧ rd ts j ≤ 100000) ∨ (s = 2 ∧ ∃ j : Int, 0 ≤ j ∧ j < ts.length ∧ ¬ (-1 ≤ rd ts j ∧ rd ts j ≤ 100000))) hinv ts.length (codeS xs hop sent) 0 (by omega) (by omega) (.inl ⟨rfl, fun j h0 h1 => by omega⟩)
  refine Ev_forK (F := fun k s i => spec_l23Cues.l0 k n ts s i) (upd := fun (s i : Int) => if -1 ≤ rd ts i ∧ rd ts i ≤ 100000 then s else 2) (n := ts.length) (fun _ _ => True) (fun s i h0 h1 _ => ⟨trivial, fun hr => Ev_succ (by
    simp only [spec_l23Cues.l0, l01In_eq, Option.bind_some, decide_eq_true_eq]
    rw [w64 (by omega) (by omega)]
    refine Ev_pos h1 (Ev_pos h0 (Ev_ite (fun hc => ?_) (fun hc => ?_)))
    · rw [if_pos hc] at hr; exact hr
    · rw [if_neg hc] at hr; exact hr)⟩) ts.length (codeS xs hop sent) 0 (by omega) (by omega) trivial (fun _ => Ev_succ (by
    simp only [spec_l23Cues.l0]
    refine Ev_neg (by omega) (Ev_ite (fun hl => Ev_some ?_) (fun hl => Ev_some (codeC_2 hA (fun q => hl q.2.1)).symm))
    have hcs : codeS xs hop sent = if (1 ≤ hop ∧ hop ≤ 10) ∧ 0 ≤ sent ∧ sent ≤ 100000 then 0 else 2 := by unfold codeS; rw [if_pos hA.1]
    rcases hfin with ⟨h2, h3⟩ | ⟨h2, j, h3, h4, h5⟩
    · rw [h2, hcs]
      by_cases hok : (1 ≤ hop ∧ hop ≤ 10) ∧ 0 ≤ sent ∧ sent ≤ 100000
      · rw [if_pos hok, codeC_of hA ⟨hok, hl, h3⟩]
      · rw [if_neg hok, codeC_2 hA (fun q => hok q.1)]
    · rw [h2, codeC_2 hA (fun q => h5 (q.2.2 j h3 h4))]))

def lateB (xs : List S63) (hop sent : Int) (ts : List Int) (ws : List S59) (i : Int) : Bool := decide (rd ts (rd_T59 ws i).f0 ≥ sent ∧ rd ts (rd_T59 ws i).f0 < tickS xs hop sent (rd_T59 ws i).f1)
def goneB (xs : List S63) (hop sent : Int) (ts : List Int) (ws : List S59) (i : Int) : Bool := decide (rd ts (rd_T59 ws i).f0 ≥ 0 ∧ tickS xs hop sent (rd_T59 ws i).f1 ≤ rd ts (rd_T59 ws i).f0)
def pickW (ws : List S59) (p : Int → Bool) (o : List Int) (i : Int) : List Int := if p i = true then o ++ [(rd_T59 ws i).f0] else o
def pickedW (ws : List S59) (p : Int → Bool) : List Int := foldU (pickW ws p) ws.length [] 0
theorem pickW_length {ws : List S59} {p : Int → Bool} {o : List Int} {i : Int} (h : (o.length : Int) ≤ i) : ((pickW ws p o i).length : Int) ≤ i + 1 := by
  unfold pickW
  split
  · rw [List.length_append]; simp; omega
  · omega
theorem pickedW_length (ws : List S59) (p : Int → Bool) : (pickedW ws p).length ≤ ws.length := by
  have := foldU_ind (upd := pickW ws p) (n := ws.length) (fun o i => (o.length : Int) ≤ i) (fun o i _ _ hI => pickW_length hI) ws.length [] 0 (by omega) (by omega) (by simp)
  unfold pickedW
  omega
/-- What a wire's place gives, where the cue ticks may be asked. -/
theorem wire_at {xs : List S63} {n : Int} {ws : List S59} {hop sent : Int} {ts : List Int} (h : codeC xs n ws hop sent ts = 0) {i : Int} (h0 : 0 ≤ i) (h1 : i < ws.length) : areMods xs = true ∧ (1 ≤ hop ∧ hop ≤ 10) ∧ (0 ≤ sent ∧ sent ≤ 100000) ∧ 0 ≤ (rd_T59 ws i).f0 ∧ (rd_T59 ws i).f0 < ts.length ∧ (rd_T59 ws i).f1 < xs.length := by
  obtain ⟨hA, ⟨hh, hs⟩, hl, _⟩ := codeC_0 h
  have hw := hA.2.2 i h0 h1
  exact ⟨hA.1, hh, hs, hw.1.1, by have := hw.1.2; omega, by have := hw.2.1.1.2; omega⟩

theorem spec_late_ev {xs : List S63} {n : Int} {ws : List S59} {hop sent : Int} {ts : List Int} (hw : ws.length ≤ 1000000) (h : codeC xs n ws hop sent ts = 0) : Ev (fun k => spec_l23Some.f k xs ws hop sent ts false) (pickedW ws (lateB xs hop sent ts ws)) := by
  unfold spec_l23Some.f pickedW
  refine Ev_forK (F := fun k o i => spec_l23Some.l0 k xs ws hop sent ts false o i) (upd := pickW ws (lateB xs hop sent ts ws)) (n := ws.length) (fun o i => (o.length : Int) ≤ i) (fun o i h0 h1 hI => ⟨pickW_length hI, fun hr => ?_⟩) ws.length [] 0 (by omega) (by omega) (by simp) (fun _ => Ev_succ (by simp only [spec_l23Some.l0]; exact Ev_neg (by omega) (Ev.now _)))
  obtain ⟨hx, hh, hs, h2, h3, h4⟩ := wire_at h h0 h1
  refine Ev_succ (by
    simp only [spec_l23Some.l0, Bool.false_eq_true, if_false]
    refine Ev_pos h1 (Ev_pos h0 (Ev_pos h2 (Ev_pos h3 (Ev.bind (spec_tick_ev hx hh hs h4) ?_))))
    rw [w64 (by omega) (by omega)]
    unfold pickW at hr
    by_cases hp : lateB xs hop sent ts ws i = true
    · rw [if_pos hp] at hr
      obtain ⟨ha, hb⟩ := of_decide_eq_true hp
      exact Ev_pos (by omega) (Ev_pos ha (Ev_pos hb (Ev_pos (by omega) hr)))
    · rw [if_neg hp] at hr
      exact Ev_ite (fun _ => Ev_ite (fun ha => Ev_neg (fun hb => hp (decide_eq_true ⟨ha, hb⟩)) hr) (fun _ => hr)) (fun _ => hr))
theorem spec_gone_ev {xs : List S63} {n : Int} {ws : List S59} {hop sent : Int} {ts : List Int} (hw : ws.length ≤ 1000000) (h : codeC xs n ws hop sent ts = 0) : Ev (fun k => spec_l23Some.f k xs ws hop sent ts true) (pickedW ws (goneB xs hop sent ts ws)) := by
  unfold spec_l23Some.f pickedW
  refine Ev_forK (F := fun k o i => spec_l23Some.l0 k xs ws hop sent ts true o i) (upd := pickW ws (goneB xs hop sent ts ws)) (n := ws.length) (fun o i => (o.length : Int) ≤ i) (fun o i h0 h1 hI => ⟨pickW_length hI, fun hr => ?_⟩) ws.length [] 0 (by omega) (by omega) (by simp) (fun _ => Ev_succ (by simp only [spec_l23Some.l0]; exact Ev_neg (by omega) (Ev.now _)))
  obtain ⟨hx, hh, hs, h2, h3, h4⟩ := wire_at h h0 h1
  refine Ev_succ (by
    simp only [spec_l23Some.l0, if_true]
    refine Ev_pos h1 (Ev_pos h0 (Ev_pos h2 (Ev_pos h3 (Ev.bind (spec_tick_ev hx hh hs h4) ?_))))
    rw [w64 (by omega) (by omega)]
    unfold pickW at hr
    by_cases hp : goneB xs hop sent ts ws i = true
    · rw [if_pos hp] at hr
      obtain ⟨ha, hb⟩ := of_decide_eq_true hp
      exact Ev_pos ha (Ev_pos hb (Ev_pos (by omega) hr))
    · rw [if_neg hp] at hr
      exact Ev_ite (fun ha => Ev_neg (fun hb => hp (decide_eq_true ⟨ha, hb⟩)) hr) (fun _ => hr))

theorem impl_isLate_ev {xs : List S63} {n : Int} {ws : List S59} {hop sent : Int} {ts : List Int} (h : codeC xs n ws hop sent ts = 0) {i : Int} (h0 : 0 ≤ i) (h1 : i < ws.length) (p : Int) : Ev (fun k => impl_isLate.f k xs (rd_T59 ws i).f0 (rd_T59 ws i).f1 p hop sent ts) (lateB xs hop sent ts ws i) := by
  obtain ⟨hx, hh, hs, h2, h3, h4⟩ := wire_at h h0 h1
  unfold impl_isLate.f lateB
  refine Ev_pos h2 (Ev_pos h3 (Ev_ite (fun hc => Ev.bind (impl_tick_ev hx hh hs h4) (Ev_some ?_)) (fun hc => Ev_some (decide_eq_false (fun q => hc q.1)).symm)))
  rw [decide_eq_decide]
  exact ⟨fun q => ⟨hc, q⟩, fun q => q.2⟩

theorem lateCues_ev (xs : List S63) (n : Int) (ws : List S59) (hop sent : Int) (ts : List Int) (hxn : xs.length ≤ 1000000) (hw : ws.length ≤ 1000000) (ht : ts.length ≤ 1000000) : ∃ r1, Ev (fun k => spec_LateCues.f k xs n ws hop sent ts) (r1, codeC xs n ws hop sent ts) ∧ Ev (fun k => impl_LateCues.f k xs n ws hop sent ts) (r1, codeC xs n ws hop sent ts) ∧ r1.length ≤ 1000000 ∧ (codeC xs n ws hop sent ts = 0 → r1 = pickedW ws (lateB xs hop sent ts ws)) := by
  unfold spec_LateCues.f impl_LateCues.f
  by_cases h : codeC xs n ws hop sent ts = 0
  · rw [h]
    have hs := l23Cues_ev xs hxn n ws hop sent ts hw ht
    have hi := stopsAsked_ev xs n ws hop sent ts hw ht
    rw [h] at hs hi
    refine ⟨pickedW ws (lateB xs hop sent ts ws), Ev.bind hs (Ev_pos rfl (Ev.bind (spec_late_ev hw h) (Ev.now _))), Ev.bind hi (Ev_pos rfl ?_), Nat.le_trans (pickedW_length _ _) hw, fun _ => rfl⟩
    refine Ev_forK (F := fun k o i => impl_LateCues.l0 k xs hop sent ts o ws (ws.length : Int) i) (upd := pickW ws (lateB xs hop sent ts ws)) (n := ws.length) (fun o i => (o.length : Int) ≤ i) (fun o i h0 h1 hI => ⟨pickW_length hI, fun hr => Ev_succ (by
      simp only [impl_LateCues.l0]
      refine Ev_pos h1 (Ev_pos h0 (Ev_pos h1 (Ev.bind (impl_isLate_ev h h0 h1 _) ?_)))
      rw [w64 (by omega) (by omega)]
      unfold pickW at hr
      exact Ev_ite (fun hp => by rw [if_pos hp] at hr; exact Ev_pos (by omega) hr) (fun hp => by rw [if_neg hp] at hr; exact hr))⟩) ws.length [] 0 (by omega) (by omega) (by simp) (fun _ => Ev_succ (by simp only [impl_LateCues.l0]; exact Ev_neg (by omega) (Ev.now _)))
  · exact ⟨[], Ev.bind (l23Cues_ev xs hxn n ws hop sent ts hw ht) (Ev_neg h (Ev.now _)), Ev.bind (stopsAsked_ev xs n ws hop sent ts hw ht) (Ev_neg h (Ev.now _)), by simp, fun q => absurd q h⟩
theorem core_FnExactLateCues (xs : List S63) (n : Int) (ws : List S59) (hop sent : Int) (ts : List Int) (hxn : xs.length ≤ 1000000) (hw : ws.length ≤ 1000000) (ht : ts.length ≤ 1000000) (_w1 : (Lit.int .i64 n).wf = true) (_w2 : (Lit.int .i64 hop).wf = true) (_w3 : (Lit.int .i64 sent).wf = true) : ∃ r1 r2, Ev (fun k => spec_LateCues.f k xs n ws hop sent ts) (r1, r2) ∧ Ev (fun k => impl_LateCues.f k xs n ws hop sent ts) (r1, r2) ∧ r1.length ≤ 1000000 := by
  obtain ⟨r1, h1, h2, h3, _⟩ := lateCues_ev xs n ws hop sent ts hxn hw ht
  exact ⟨r1, _, h1, h2, h3⟩

theorem impl_isStopped_ev {xs : List S63} {n : Int} {ws : List S59} {hop sent : Int} {ts : List Int} (h : codeC xs n ws hop sent ts = 0) {i : Int} (h0 : 0 ≤ i) (h1 : i < ws.length) (p : Int) : Ev (fun k => impl_isStopped.f k xs (rd_T59 ws i).f0 (rd_T59 ws i).f1 p hop sent ts) (goneB xs hop sent ts ws i) := by
  obtain ⟨hx, hh, hs, h2, h3, h4⟩ := wire_at h h0 h1
  unfold impl_isStopped.f goneB
  refine Ev_pos h2 (Ev_pos h3 (Ev_ite (fun hc => Ev.bind (impl_tick_ev hx hh hs h4) (Ev_some ?_)) (fun hc => Ev_some (decide_eq_false (fun q => hc q.1)).symm)))
  rw [decide_eq_decide]
  exact ⟨fun q => ⟨hc, q⟩, fun q => q.2⟩

theorem stoppedCues_ev (xs : List S63) (n : Int) (ws : List S59) (hop sent : Int) (ts : List Int) (hxn : xs.length ≤ 1000000) (hw : ws.length ≤ 1000000) (ht : ts.length ≤ 1000000) : ∃ r1, Ev (fun k => spec_StoppedCues.f k xs n ws hop sent ts) (r1, codeC xs n ws hop sent ts) ∧ Ev (fun k => impl_StoppedCues.f k xs n ws hop sent ts) (r1, codeC xs n ws hop sent ts) ∧ r1.length ≤ 1000000 ∧ (codeC xs n ws hop sent ts = 0 → r1 = pickedW ws (goneB xs hop sent ts ws)) := by
  unfold spec_StoppedCues.f impl_StoppedCues.f
  by_cases h : codeC xs n ws hop sent ts = 0
  · rw [h]
    have hs := l23Cues_ev xs hxn n ws hop sent ts hw ht
    have hi := stopsAsked_ev xs n ws hop sent ts hw ht
    rw [h] at hs hi
    refine ⟨pickedW ws (goneB xs hop sent ts ws), Ev.bind hs (Ev_pos rfl (Ev.bind (spec_gone_ev hw h) (Ev.now _))), Ev.bind hi (Ev_pos rfl ?_), Nat.le_trans (pickedW_length _ _) hw, fun _ => rfl⟩
    refine Ev_forK (F := fun k o i => impl_StoppedCues.l0 k xs hop sent ts o ws (ws.length : Int) i) (upd := pickW ws (goneB xs hop sent ts ws)) (n := ws.length) (fun o i => (o.length : Int) ≤ i) (fun o i h0 h1 hI => ⟨pickW_length hI, fun hr => Ev_succ (by
      simp only [impl_StoppedCues.l0]
      refine Ev_pos h1 (Ev_pos h0 (Ev_pos h1 (Ev.bind (impl_isStopped_ev h h0 h1 _) ?_)))
      rw [w64 (by omega) (by omega)]
      unfold pickW at hr
      exact Ev_ite (fun hp => by rw [if_pos hp] at hr; exact Ev_pos (by omega) hr) (fun hp => by rw [if_neg hp] at hr; exact hr))⟩) ws.length [] 0 (by omega) (by omega) (by simp) (fun _ => Ev_succ (by simp only [impl_StoppedCues.l0]; exact Ev_neg (by omega) (Ev.now _)))
  · exact ⟨[], Ev.bind (l23Cues_ev xs hxn n ws hop sent ts hw ht) (Ev_neg h (Ev.now _)), Ev.bind (stopsAsked_ev xs n ws hop sent ts hw ht) (Ev_neg h (Ev.now _)), by simp, fun q => absurd q h⟩
theorem core_FnExactStoppedCues (xs : List S63) (n : Int) (ws : List S59) (hop sent : Int) (ts : List Int) (hxn : xs.length ≤ 1000000) (hw : ws.length ≤ 1000000) (ht : ts.length ≤ 1000000) (_w1 : (Lit.int .i64 n).wf = true) (_w2 : (Lit.int .i64 hop).wf = true) (_w3 : (Lit.int .i64 sent).wf = true) : ∃ r1 r2, Ev (fun k => spec_StoppedCues.f k xs n ws hop sent ts) (r1, r2) ∧ Ev (fun k => impl_StoppedCues.f k xs n ws hop sent ts) (r1, r2) ∧ r1.length ≤ 1000000 := by
  obtain ⟨r1, h1, h2, h3, _⟩ := stoppedCues_ev xs n ws hop sent ts hxn hw ht
  exact ⟨r1, _, h1, h2, h3⟩

theorem rd_here {b : List Int} {i : Int} (h0 : 0 ≤ i) (h1 : i < b.length) : rd b i = b[i.toNat]'(by omega) := by
  simp [rd, List.getD_eq_getElem?_getD, List.getElem?_eq_getElem (show i.toNat < b.length by omega)]
theorem l01Has_ev (l : List Int) (h : l.length ≤ 100000000) (v : Int) : Ev (fun k => spec_l01Has.f k l v) (decide (v ∈ l)) := by
  unfold spec_l01Has.f
  exact Ev_allK (F := fun k i => spec_l01Has.l0 k l v i) (p := fun i => ¬ rd l i = v) (n := l.length) (bad := true) (fun i h0 h1 => ⟨fun hp hr => Ev_succ (by
    simp only [spec_l01Has.l0]
    rw [w64 (by omega) (by omega)]
    exact Ev_pos h1 (Ev_pos h0 (Ev_neg hp hr))), fun hp hr => Ev_succ (by
    simp only [spec_l01Has.l0]
    exact Ev_pos h1 (Ev_pos h0 (Ev_pos (by simpa using hp) (Ev_some hr.symm))))⟩) l.length 0 (by omega) (by omega) (fun hno => by
    rw [decide_eq_true_eq]
    by_cases hm : v ∈ l
    · exact hm
    · refine absurd (fun j h0 h1 he => hm ?_) hno
      rw [← he, rd_here h0 h1]
      exact List.getElem_mem _) (fun hall => Ev_succ (by
    simp only [spec_l01Has.l0]
    refine Ev_neg (by omega) (Ev_some ?_)
    symm
    rw [decide_eq_false_iff_not]
    intro hm
    obtain ⟨j, hj⟩ := List.mem_iff_getElem?.1 hm
    obtain ⟨hl, he⟩ := List.getElem?_eq_some_iff.1 hj
    refine hall (j : Int) (by omega) (by omega) ?_
    rw [rd_here (by omega) (by omega), ← he]
    congr 1))

theorem pickedW_mem {ws : List S59} {p : Int → Bool} {v : Int} : v ∈ pickedW ws p ↔ ∃ j : Int, 0 ≤ j ∧ j < ws.length ∧ p j = true ∧ (rd_T59 ws j).f0 = v := by
  have := foldU_ind (upd := pickW ws p) (n := ws.length) (fun o i => ∀ v, v ∈ o ↔ ∃ j : Int, 0 ≤ j ∧ j < i ∧ p j = true ∧ (rd_T59 ws j).f0 = v) (fun o i h0 h1 hI v => by
    unfold pickW
    by_cases hp : p i = true
    · rw [if_pos hp, List.mem_append, List.mem_singleton, hI v]
      constructor
      · rintro (⟨j, h2, h3, h4⟩ | h2)
        · exact ⟨j, h2, by omega, h4⟩
        · exact ⟨i, h0, by omega, hp, h2.symm⟩
      · rintro ⟨j, h2, h3, h4, h5⟩
        by_cases hj : j = i
        · rw [hj] at h5; exact .inr h5.symm
        · exact .inl ⟨j, h2, by omega, h4, h5⟩
    · rw [if_neg hp, hI v]
      constructor
      · rintro ⟨j, h2, h3, h4⟩
        exact ⟨j, h2, by omega, h4⟩
      · rintro ⟨j, h2, h3, h4, h5⟩
        by_cases hj : j = i
        · rw [hj] at h4; exact absurd h4 hp
        · exact ⟨j, h2, by omega, h4, h5⟩) ws.length [] 0 (by omega) (by omega) (fun v => ⟨(fun h => by cases h), fun ⟨j, h2, h3, _⟩ => by omega⟩)
  exact this v
theorem copyList_eq {b : List Int} (h : b.length ≤ 1000000) : impl_copyList.f b = some b := by
  unfold impl_copyList.f
  rw [Option.bind_some, if_pos (by simp; omega), List.nil_append]
theorem rd_set {s : List Int} {j v u : Int} (h0 : 0 ≤ j) (h1 : j < s.length) (h2 : 0 ≤ u) : rd (s.set j.toNat v) u = if u = j then v else rd s u := by
  by_cases h : u = j
  · rw [if_pos h, h]
    simp [rd, List.getD_eq_getElem?_getD, List.getElem?_set_self (show j.toNat < s.length by omega)]
  · rw [if_neg h]
    simp only [rd, List.getD_eq_getElem?_getD]
    rw [List.getElem?_set_ne (by omega)]
/-- The cue ticks without those of the cues told. -/
def restM (G ts : List Int) : List Int := (List.range ts.length).map fun (i : Nat) => if (i : Int) ∈ G then -1 else rd ts (i : Int)
theorem restM_length (G ts : List Int) : (restM G ts).length = ts.length := by unfold restM; simp
theorem restM_at {G ts : List Int} {i : Int} (h0 : 0 ≤ i) (h1 : i < ts.length) : rd (restM G ts) i = if i ∈ G then -1 else rd ts i := by
  rw [rd_here h0 (by rw [restM_length]; exact h1)]
  unfold restM
  simp only [List.getElem_map, List.getElem_range]
  rw [show ((i.toNat : Nat) : Int) = i by omega]
theorem list_same {a b : List Int} (hl : a.length = b.length) (h : ∀ i : Int, 0 ≤ i → i < a.length → rd a i = rd b i) : a = b := by
  apply List.ext_getElem hl
  intro i h1 h2
  have := h (i : Int) (by omega) (by omega)
  rw [rd_here (by omega) (by omega), rd_here (by omega) (by omega)] at this
  exact this
theorem withoutLateCues_ev (xs : List S63) (n : Int) (ws : List S59) (hop sent : Int) (ts : List Int) (hxn : xs.length ≤ 1000000) (hw : ws.length ≤ 1000000) (ht : ts.length ≤ 1000000) : ∃ r1, Ev (fun k => spec_WithoutLateCues.f k xs n ws hop sent ts) (r1, codeC xs n ws hop sent ts) ∧ Ev (fun k => impl_WithoutLateCues.f k xs n ws hop sent ts) (r1, codeC xs n ws hop sent ts) ∧ r1.length ≤ 1000000 ∧ (codeC xs n ws hop sent ts = 0 → r1 = restM (pickedW ws (lateB xs hop sent ts ws) ++ pickedW ws (goneB xs hop sent ts ws)) ts) := by
  unfold spec_WithoutLateCues.f impl_WithoutLateCues.f
  by_cases h : codeC xs n ws hop sent ts = 0
  · rw [h]
    have hs := l23Cues_ev xs hxn n ws hop sent ts hw ht
    have hi := stopsAsked_ev xs n ws hop sent ts hw ht
    rw [h] at hs hi
    obtain ⟨_, _, hnl, _⟩ := codeC_0 h
    obtain ⟨G, hG⟩ : ∃ G, G = pickedW ws (lateB xs hop sent ts ws) ++ pickedW ws (goneB xs hop sent ts ws) := ⟨_, rfl⟩
    have hGl : G.length ≤ 2000000 := by
      have := pickedW_length ws (lateB xs hop sent ts ws)
      have := pickedW_length ws (goneB xs hop sent ts ws)
      rw [hG, List.length_append]
      omega
    have hGm : ∀ v, v ∈ G ↔ ∃ j : Int, 0 ≤ j ∧ j < ws.length ∧ (lateB xs hop sent ts ws j = true ∨ goneB xs hop sent ts ws j = true) ∧ (rd_T59 ws j).f0 = v := fun v => by
      rw [hG, List.mem_append, pickedW_mem, pickedW_mem]
      constructor
      · rintro (⟨j, h2, h3, h4, h5⟩ | ⟨j, h2, h3, h4, h5⟩)
        · exact ⟨j, h2, h3, .inl h4, h5⟩
        · exact ⟨j, h2, h3, .inr h4, h5⟩
      · rintro ⟨j, h2, h3, h4 | h4, h5⟩
        · exact .inl ⟨j, h2, h3, h4, h5⟩
        · exact .inr ⟨j, h2, h3, h4, h5⟩
    refine ⟨restM G ts, Ev.bind hs (Ev_pos rfl (Ev.bind (spec_late_ev hw h) (Ev.bind (spec_gone_ev hw h) ?_))), Ev.bind hi (Ev_pos rfl (Ev_bindc (copyList_eq ht) ?_)), by rw [restM_length]; exact ht, fun _ => by rw [hG]⟩
    · rw [← hG]
      have hgl : (pickedW ws (lateB xs hop sent ts ws)).length + (pickedW ws (goneB xs hop sent ts ws)).length < 17592186044416 := by
        rw [hG, List.length_append] at hGl
        omega
      refine Ev_pos hgl ?_
      have hfin := foldU_ind (upd := fun (o : List Int) i => o ++ [if i ∈ G then -1 else rd ts i]) (n := n) (fun o i => o = (List.range i.toNat).map fun (i : Nat) => if (i : Int) ∈ G then -1 else rd ts (i : Int)) (fun o i h0 h1 hI => by
        rw [hI, show (i + 1).toNat = i.toNat + 1 by omega, List.range_succ, List.map_append]
        simp only [List.map_cons, List.map_nil]
        rw [show ((i.toNat : Nat) : Int) = i by omega]) ts.length [] 0 (by omega) (by omega) rfl
      refine Ev_forK (F := fun k o i => spec_WithoutLateCues.l0 k n ts G o i) (upd := fun (o : List Int) i => o ++ [if i ∈ G then -1 else rd ts i]) (n := n) (fun o i => (o.length : Int) = i) (fun o i h0 h1 hI => ⟨by rw [List.length_append]; simp; omega, fun hr => Ev_succ (by
        simp only [spec_WithoutLateCues.l0]
        refine Ev_pos h1 (Ev.bind (l01Has_ev G (by omega) i) ?_)
        rw [w64 (by omega) (by omega)]
        refine Ev_ite (fun hm => ?_) (fun hm => ?_)
        · rw [if_pos (of_decide_eq_true hm)] at hr
          exact Ev_pos (by omega) hr
        · rw [if_neg (fun q => hm (decide_eq_true q))] at hr
          exact Ev_pos h0 (Ev_pos (by omega) (Ev_pos (by omega) hr)))⟩) ts.length [] 0 (by omega) (by omega) (by simp) (fun _ => Ev_succ (by
        simp only [spec_WithoutLateCues.l0]
        refine Ev_neg (by omega) (Ev_some ?_)
        rw [hfin]
        unfold restM
        rw [show n.toNat = ts.length by omega]))
    · have hstep : ∀ (o : List Int) (i : Int), 0 ≤ i → i < ws.length → (o.length = ts.length ∧ ∀ u : Int, 0 ≤ u → u < ts.length → ((∃ j : Int, 0 ≤ j ∧ j < i ∧ (lateB xs hop sent ts ws j = true ∨ goneB xs hop sent ts ws j = true) ∧ (rd_T59 ws j).f0 = u) → rd o u = -1) ∧ (¬ (∃ j : Int, 0 ≤ j ∧ j < i ∧ (lateB xs hop sent ts ws j = true ∨ goneB xs hop sent ts ws j = true) ∧ (rd_T59 ws j).f0 = u) → rd o u = rd ts u)) →
          ((if lateB xs hop sent ts ws i = true ∨ goneB xs hop sent ts ws i = true then o.set (rd_T59 ws i).f0.toNat (-1) else o).length = ts.length ∧ ∀ u : Int, 0 ≤ u → u < ts.length → ((∃ j : Int, 0 ≤ j ∧ j < i + 1 ∧ (lateB xs hop sent ts ws j = true ∨ goneB xs hop sent ts ws j = true) ∧ (rd_T59 ws j).f0 = u) → rd (if lateB xs hop sent ts ws i = true ∨ goneB xs hop sent ts ws i = true then o.set (rd_T59 ws i).f0.toNat (-1) else o) u = -1) ∧ (¬ (∃ j : Int, 0 ≤ j ∧ j < i + 1 ∧ (lateB xs hop sent ts ws j = true ∨ goneB xs hop sent ts ws j = true) ∧ (rd_T59 ws j).f0 = u) → rd (if lateB xs hop sent ts ws i = true ∨ goneB xs hop sent ts ws i = true then o.set (rd_T59 ws i).f0.toNat (-1) else o) u = rd ts u)) := fun o i h0 h1 hI => by
        obtain ⟨hx, hh, hsn, h2, h3, h4⟩ := wire_at h h0 h1
        by_cases hp : lateB xs hop sent ts ws i = true ∨ goneB xs hop sent ts ws i = true
        · rw [if_pos hp]
          refine ⟨by rw [List.length_set]; exact hI.1, fun u h5 h6 => ?_⟩
          rw [rd_set h2 (by rw [hI.1]; exact h3) h5]
          by_cases hu : u = (rd_T59 ws i).f0
          · rw [if_pos hu]
            exact ⟨fun _ => rfl, fun q => absurd ⟨i, h0, by omega, hp, hu.symm⟩ q⟩
          · rw [if_neg hu]
            refine ⟨fun ⟨j, h7, h8, h9, h10⟩ => (hI.2 u h5 h6).1 ⟨j, h7, ?_, h9, h10⟩, fun q => (hI.2 u h5 h6).2 (fun ⟨j, h7, h8, h9⟩ => q ⟨j, h7, by omega, h9⟩)⟩
            by_cases hj : j = i
            · rw [hj] at h10; exact absurd h10.symm hu
            · omega
        · rw [if_neg hp]
          refine ⟨hI.1, fun u h5 h6 => ⟨fun ⟨j, h7, h8, h9, h10⟩ => (hI.2 u h5 h6).1 ⟨j, h7, ?_, h9, h10⟩, fun q => (hI.2 u h5 h6).2 (fun ⟨j, h7, h8, h9⟩ => q ⟨j, h7, by omega, h9⟩)⟩⟩
          by_cases hj : j = i
          · rw [hj] at h9; exact absurd h9 hp
          · omega
      have hfin := foldU_ind (upd := fun (o : List Int) i => if lateB xs hop sent ts ws i = true ∨ goneB xs hop sent ts ws i = true then o.set (rd_T59 ws i).f0.toNat (-1) else o) (n := ws.length) (fun o i => o.length = ts.length ∧ ∀ u : Int, 0 ≤ u → u < ts.length → ((∃ j : Int, 0 ≤ j ∧ j < i ∧ (lateB xs hop sent ts ws j = true ∨ goneB xs hop sent ts ws j = true) ∧ (rd_T59 ws j).f0 = u) → rd o u = -1) ∧ (¬ (∃ j : Int, 0 ≤ j ∧ j < i ∧ (lateB xs hop sent ts ws j = true ∨ goneB xs hop sent ts ws j = true) ∧ (rd_T59 ws j).f0 = u) → rd o u = rd ts u)) hstep ws.length ts 0 (by omega) (by omega) ⟨rfl, fun u _ _ => ⟨fun ⟨j, h7, h8, _⟩ => by omega, fun _ => rfl⟩⟩
      refine Ev_forK (F := fun k o i => impl_WithoutLateCues.l0 k xs hop sent ts o ws (ws.length : Int) i) (upd := fun (o : List Int) i => if lateB xs hop sent ts ws i = true ∨ goneB xs hop sent ts ws i = true then o.set (rd_T59 ws i).f0.toNat (-1) else o) (n := ws.length) (fun o _ => o.length = ts.length) (fun o i h0 h1 hI => ⟨by split <;> simp [hI], fun hr => ?_⟩) ws.length ts 0 (by omega) (by omega) rfl (fun _ => Ev_succ (by
        simp only [impl_WithoutLateCues.l0]
        refine Ev_neg (by omega) (Ev_some ?_)
        congr 1
        refine list_same (by rw [restM_length]; exact hfin.1) (fun u h5 h6 => ?_)
        have h7 := hfin.2 u h5 (by rw [← hfin.1]; exact h6)
        rw [restM_at h5 (by rw [← hfin.1]; exact h6)]
        by_cases hm : u ∈ G
        · rw [if_pos hm]; exact h7.1 ((hGm u).1 hm)
        · rw [if_neg hm]; exact h7.2 (fun q => hm ((hGm u).2 q))))
      obtain ⟨hx, hh, hsn, h2, h3, h4⟩ := wire_at h h0 h1
      refine Ev_succ (by
        simp only [impl_WithoutLateCues.l0]
        refine Ev_pos h1 (Ev_pos h0 (Ev_pos h1 (Ev.bind (impl_isLate_ev h h0 h1 _) ?_)))
        rw [w64 (by omega) (by omega)]
        refine Ev_ite (fun hp => ?_) (fun hp => Ev.bind (impl_isStopped_ev h h0 h1 _) (Ev_ite (fun hq => ?_) (fun hq => ?_)))
        · rw [if_pos (.inl hp)] at hr
          exact Ev_pos h2 (Ev_pos (by omega) hr)
        · rw [if_pos (.inr hq)] at hr
          exact Ev_pos h2 (Ev_pos (by omega) hr)
        · rw [if_neg (fun q => q.elim hp hq)] at hr
          exact hr)
  · exact ⟨[], Ev.bind (l23Cues_ev xs hxn n ws hop sent ts hw ht) (Ev_neg h (Ev.now _)), Ev.bind (stopsAsked_ev xs n ws hop sent ts hw ht) (Ev_neg h (Ev.now _)), by simp, fun q => absurd q h⟩
theorem core_FnExactWithoutLateCues (xs : List S63) (n : Int) (ws : List S59) (hop sent : Int) (ts : List Int) (hxn : xs.length ≤ 1000000) (hw : ws.length ≤ 1000000) (ht : ts.length ≤ 1000000) (_w1 : (Lit.int .i64 n).wf = true) (_w2 : (Lit.int .i64 hop).wf = true) (_w3 : (Lit.int .i64 sent).wf = true) : ∃ r1 r2, Ev (fun k => spec_WithoutLateCues.f k xs n ws hop sent ts) (r1, r2) ∧ Ev (fun k => impl_WithoutLateCues.f k xs n ws hop sent ts) (r1, r2) ∧ r1.length ≤ 1000000 := by
  obtain ⟨r1, h1, h2, h3, _⟩ := withoutLateCues_ev xs n ws hop sent ts hxn hw ht
  exact ⟨r1, _, h1, h2, h3⟩

def lastS (xs : List S63) (hop sent : Int) : Int := forM (S := Int) (fun s i => .inr (max s (tickS xs hop sent i))) (fun s => s) xs.length sent 0

theorem impl_lastStop_ev {xs : List S63} (hx : areMods xs = true) {hop sent : Int} (hh : 1 ≤ hop ∧ hop ≤ 10) (hs : 0 ≤ sent ∧ sent ≤ 100000) : Ev (fun k => impl_lastStop.f k xs hop sent) (lastS xs hop sent) := by
  have hn := ((areMods_iff xs).1 hx).1
  unfold impl_lastStop.f lastS
  exact Ev_for2 (F := fun k s i => impl_lastStop.l0 k xs hop sent s (xs.length : Int) i) (n := xs.length) (fun _ _ => True)
    (fun s hI => Ev_succ (by
      simp only [impl_lastStop.l0]
      exact Ev_neg (by omega) (Ev.now _)))
    (fun s i h0 h1 hI => .inr ⟨_, rfl, trivial, fun r hr => Ev_succ (by
      simp only [impl_lastStop.l0]
      refine Ev_pos h1 (Ev.bind (impl_tick_ev hx hh hs h1) ?_)
      rw [w64 (by omega) (by omega), mx_eq]
      exact hr)⟩) xs.length sent 0 (by omega) (by omega) trivial

theorem impl_LastStop_ev (xs : List S63) (hop sent : Int) : Ev (fun k => impl_LastStop.f k xs hop sent) (if codeS xs hop sent = 0 then (lastS xs hop sent, 0) else (0, codeS xs hop sent)) := by
  unfold impl_LastStop.f
  refine Ev.bind (impl_AreModules_ev xs) (Ev_ite (fun h => ?_) (fun h => ?_))
  · simp only [isHop_eq, isTick_eq, Option.bind_some, decide_eq_true_eq]
    refine Ev_ite (fun h1 => Ev_ite (fun h2 => ?_) (fun h2 => ?_)) (fun h1 => ?_)
    · have e : codeS xs hop sent = 0 := by unfold codeS; rw [if_pos h, if_pos ⟨h1, h2⟩]
      rw [if_pos e]
      exact Ev.bind (impl_lastStop_ev h h1 h2) (Ev.now _)
    · have e : codeS xs hop sent = 2 := by unfold codeS; rw [if_pos h, if_neg (fun q => h2 q.2)]
      rw [e, if_neg (by decide)]
      exact Ev.now _
    · have e : codeS xs hop sent = 2 := by unfold codeS; rw [if_pos h, if_neg (fun q => h1 q.1)]
      rw [e, if_neg (by decide)]
      exact Ev.now _
  · have e : codeS xs hop sent = 1 := by unfold codeS; rw [if_neg h]
    rw [e, if_neg (by decide)]
    exact Ev.now _

theorem likeInts_refl (l : List Int) (h : l.length ≤ 1000000) : Ev (fun k => laws_likeInts.f k l l) true := by
  unfold laws_likeInts.f
  refine Ev_pos rfl ?_
  exact Ev_allK (F := fun k i => laws_likeInts.l0 k l l i) (p := fun _ => True) (n := l.length) (bad := false) (fun i h0 h1 => ⟨fun _ hr => Ev_succ (by
    simp only [laws_likeInts.l0]
    refine Ev_pos h1 (Ev_pos h0 (Ev_pos h1 (Ev_pos trivial ?_)))
    rw [w64 (by omega) (by omega)]
    exact hr), fun hp => absurd trivial hp⟩) l.length 0 (by omega) (by omega) (fun hno => absurd (fun _ _ _ => trivial) hno) (fun _ => Ev_succ (by
    simp only [laws_likeInts.l0]
    exact Ev_neg (by omega) (Ev.now _)))

theorem rd_at {b : List Int} {i : Int} (h0 : 0 ≤ i) (h1 : i < b.length) : rd b i = b[i.toNat]'(by omega) := by
  simp [rd, List.getD_eq_getElem?_getD, List.getElem?_eq_getElem (show i.toNat < b.length by omega)]
theorem hasInt_ev (l : List Int) (h : l.length ≤ 1000000) (v : Int) : Ev (fun k => laws_hasInt.f k l v) (decide (v ∈ l)) := by
  unfold laws_hasInt.f
  exact Ev_allK (F := fun k i => laws_hasInt.l0 k l v i) (p := fun i => ¬ rd l i = v) (n := l.length) (bad := true) (fun i h0 h1 => ⟨fun hp hr => Ev_succ (by
    simp only [laws_hasInt.l0]
    rw [w64 (by omega) (by omega)]
    exact Ev_pos h1 (Ev_pos h0 (Ev_neg hp hr))), fun hp hr => Ev_succ (by
    simp only [laws_hasInt.l0]
    exact Ev_pos h1 (Ev_pos h0 (Ev_pos (by simpa using hp) (Ev_some hr.symm))))⟩) l.length 0 (by omega) (by omega) (fun hno => by
    rw [decide_eq_true_eq]
    by_cases hm : v ∈ l
    · exact hm
    · refine absurd (fun j h0 h1 he => hm ?_) hno
      rw [← he, rd_at h0 h1]
      exact List.getElem_mem _) (fun hall => Ev_succ (by
    simp only [laws_hasInt.l0]
    refine Ev_neg (by omega) (Ev_some ?_)
    symm
    rw [decide_eq_false_iff_not]
    intro hm
    obtain ⟨j, hj⟩ := List.mem_iff_getElem?.1 hm
    obtain ⟨hl, he⟩ := List.getElem?_eq_some_iff.1 hj
    refine hall (j : Int) (by omega) (by omega) ?_
    rw [rd_at (by omega) (by omega), ← he]
    congr 1))

theorem lastS_ge (xs : List S63) (hop sent : Int) {m : Int} (h0 : 0 ≤ m) (h1 : m < xs.length) : tickS xs hop sent m ≤ lastS xs hop sent := by
  have h : ∀ (d : Nat) (s i : Int), 0 ≤ i → i + d = xs.length → (s ≤ forM (S := Int) (fun s i => .inr (max s (tickS xs hop sent i))) (fun s => s) d s i) ∧ (∀ j : Int, i ≤ j → j < xs.length → tickS xs hop sent j ≤ forM (S := Int) (fun s i => .inr (max s (tickS xs hop sent i))) (fun s => s) d s i) := by
    intro d
    induction d with
    | zero => intro s i h0 h1; exact ⟨Int.le_refl _, fun j h2 h3 => by omega⟩
    | succ d ih =>
      intro s i h0 h1
      have := ih (max s (tickS xs hop sent i)) (i + 1) (by omega) (by omega)
      refine ⟨Int.le_trans (Int.le_max_left _ _) this.1, fun j h2 h3 => ?_⟩
      by_cases hj : j = i
      · rw [hj]; exact Int.le_trans (Int.le_max_right _ _) this.1
      · exact this.2 j (by omega) h3
  exact (h xs.length sent 0 (by omega) (by omega)).2 m h0 h1
theorem cue_rises {xs : List S63} {n : Int} {ws : List S59} (h : AreW xs n ws) (d : Nat) : ∀ i j : Int, 0 ≤ i → i < j → j < ws.length → j - i ≤ d → (rd_T59 ws i).f0 < (rd_T59 ws j).f0 := by
  induction d with
  | zero => intro i j h0 h1 h2 h3; omega
  | succ d ih =>
    intro i j h0 h1 h2 h3
    have hj := (h.2.2 j (by omega) h2).2.2.1 (by omega)
    by_cases he : i = j - 1
    · rw [he]; exact hj
    · have := ih i (j - 1) h0 (by omega) (by omega) (by omega)
      omega
theorem cue_one {xs : List S63} {n : Int} {ws : List S59} (h : AreW xs n ws) {i j : Int} (h0 : 0 ≤ i) (h1 : i < ws.length) (h2 : 0 ≤ j) (h3 : j < ws.length) (he : (rd_T59 ws i).f0 = (rd_T59 ws j).f0) : i = j := by
  by_cases hlt : i < j
  · have := cue_rises h ws.length i j h0 hlt h3 (by omega); omega
  · by_cases hgt : j < i
    · have := cue_rises h ws.length j i h2 hgt h1 (by omega); omega
    · omega
theorem rd_memI {b : List Int} {i : Int} (h0 : 0 ≤ i) (h1 : i < b.length) : rd b i ∈ b := by
  rw [rd_here h0 h1]; exact List.getElem_mem _
theorem stops_l1 {xs : List S63} {n : Int} {ws : List S59} {hop sent : Int} {ts : List Int} (h : codeC xs n ws hop sent ts = 0) (hw : ws.length ≤ 1000000) (d : Nat) : ∀ (i : Int), 0 ≤ i → i + d = ws.length → Ev (fun k => laws_FnStops.l1 k n ws sent ts (pickedW ws (goneB xs hop sent ts ws)) (restM (pickedW ws (lateB xs hop sent ts ws) ++ pickedW ws (goneB xs hop sent ts ws)) ts) (lastS xs hop sent) 0 i) true := by
  have hA := codeC_0 h
  induction d with
  | zero =>
    intro i h0 h1
    refine Ev_succ (by
      simp only [laws_FnStops.l1]
      refine Ev_neg (by omega) (Ev_pos trivial (Ev_some ?_))
      rw [restM_length, hA.2.2.1]
      simp)
  | succ d ih =>
    intro i h0 h1
    obtain ⟨hx, hh, hs, h2, h3, h4⟩ := wire_at h h0 (show i < ws.length by omega)
    have h5 : 0 ≤ (rd_T59 ws i).f1 := (hA.1.2.2 i h0 (by omega)).2.1.1.1
    have hge := lastS_ge xs hop sent h5 h4
    have hgl := pickedW_length ws (goneB xs hop sent ts ws)
    have hr := ih (i + 1) (by omega) (by omega)
    have hgm : (rd_T59 ws i).f0 ∈ pickedW ws (goneB xs hop sent ts ws) ↔ goneB xs hop sent ts ws i = true := by
      rw [pickedW_mem]
      constructor
      · rintro ⟨j, h6, h7, h8, h9⟩
        rw [← cue_one hA.1 h6 h7 h0 (show i < ws.length by omega) h9]; exact h8
      · exact fun h8 => ⟨i, h0, by omega, h8, rfl⟩
    have hlm : (rd_T59 ws i).f0 ∈ pickedW ws (lateB xs hop sent ts ws) ↔ lateB xs hop sent ts ws i = true := by
      rw [pickedW_mem]
      constructor
      · rintro ⟨j, h6, h7, h8, h9⟩
        rw [← cue_one hA.1 h6 h7 h0 (show i < ws.length by omega) h9]; exact h8
      · exact fun h8 => ⟨i, h0, by omega, h8, rfl⟩
    have hrest : ¬ rd (restM (pickedW ws (lateB xs hop sent ts ws) ++ pickedW ws (goneB xs hop sent ts ws)) ts) (rd_T59 ws i).f0 ≥ sent := by
      rw [restM_at h2 h3]
      by_cases hm : (rd_T59 ws i).f0 ∈ pickedW ws (lateB xs hop sent ts ws) ++ pickedW ws (goneB xs hop sent ts ws)
      · rw [if_pos hm]; omega
      · rw [if_neg hm]
        rw [List.mem_append, hgm, hlm] at hm
        unfold lateB goneB at hm
        rw [decide_eq_true_eq, decide_eq_true_eq] at hm
        omega
    refine Ev_succ (by
      simp only [laws_FnStops.l1]
      rw [w64 (by omega) (by omega)]
      refine Ev_pos (by omega) (Ev_pos h0 (Ev_pos h2 (Ev_pos (by rw [restM_length]; exact h3) (Ev_neg hrest (Ev_pos h3 (Ev_ite (fun h8 => Ev_ite (fun h9 => Ev.bind (hasInt_ev _ (by omega) _) (Ev_pos (decide_eq_true (hgm.2 ?_)) hr)) (fun _ => hr)) (fun _ => hr)))))))
      unfold goneB
      exact decide_eq_true ⟨h8, by omega⟩)
theorem stops_l0 {xs : List S63} {n : Int} {ws : List S59} {hop sent : Int} {ts : List Int} (h : codeC xs n ws hop sent ts = 0) (hw : ws.length ≤ 1000000) (d : Nat) : ∀ (i : Int), 0 ≤ i → i + d = (pickedW ws (lateB xs hop sent ts ws)).length → Ev (fun k => laws_FnStops.l0 k n ws sent ts (pickedW ws (lateB xs hop sent ts ws)) (pickedW ws (goneB xs hop sent ts ws)) (restM (pickedW ws (lateB xs hop sent ts ws) ++ pickedW ws (goneB xs hop sent ts ws)) ts) (lastS xs hop sent) 0 i) true := by
  have hA := codeC_0 h
  have hll := pickedW_length ws (lateB xs hop sent ts ws)
  have hgl := pickedW_length ws (goneB xs hop sent ts ws)
  induction d with
  | zero =>
    intro i h0 h1
    exact Ev_succ (by
      simp only [laws_FnStops.l0]
      exact Ev_neg (by omega) (stops_l1 h hw ws.length 0 (by omega) (by omega)))
  | succ d ih =>
    intro i h0 h1
    have hr := ih (i + 1) (by omega) (by omega)
    obtain ⟨j, h6, h7, h8, h9⟩ := pickedW_mem.1 (rd_memI h0 (show i < (pickedW ws (lateB xs hop sent ts ws)).length by omega))
    obtain ⟨hx, hh, hs, h2, h3, h4⟩ := wire_at h h6 h7
    have h5 : 0 ≤ (rd_T59 ws j).f1 := (hA.1.2.2 j h6 h7).2.1.1.1
    have hge := lastS_ge xs hop sent h5 h4
    have hq := of_decide_eq_true h8
    refine Ev_succ (by
      simp only [laws_FnStops.l0]
      rw [w64 (by omega) (by omega), ← h9]
      refine Ev_pos (by omega) (Ev_pos h0 (Ev.bind (hasInt_ev _ (by omega) _) (Ev_neg (fun hm => ?_) (Ev_pos h2 (Ev_pos h3 (Ev_neg (by omega) (Ev_neg (by omega) hr)))))))
      obtain ⟨u, h10, h11, h12, h13⟩ := pickedW_mem.1 (of_decide_eq_true hm)
      rw [cue_one hA.1 h10 h11 h6 h7 h13] at h12
      have := of_decide_eq_true h12
      omega)
theorem FnStops : laws_FnStops.Pure := by
  intro c _ _ hw
  refine Ev.rounds ?_
  unfold laws_FnStops.f
  rw [big_eq]
  simp only [Option.bind_some]
  refine Ev_ite (fun _ => Ev.now _) (fun hb => ?_)
  have hc := bytes_of hw
  have hl : c.length ≤ 4096 := by simpa using hb
  obtain ⟨xs, n, ws, hop, sent, ts, d1, hx, hws, ht⟩ := drawLate_tells c hc hl
  obtain ⟨L, l1, l2, l3, l4⟩ := lateCues_ev xs n ws hop sent ts (by omega) (by omega) (by omega)
  obtain ⟨S, s1, s2, s3, s4⟩ := stoppedCues_ev xs n ws hop sent ts (by omega) (by omega) (by omega)
  obtain ⟨R, r1, r2, r3, r4⟩ := withoutLateCues_ev xs n ws hop sent ts (by omega) (by omega) (by omega)
  refine Ev.bind d1 (Ev.bind l2 (Ev.bind l1 (Ev.bind s2 (Ev.bind s1 (Ev.bind r2 (Ev.bind r1 ?_))))))
  refine Ev_pos rfl (Ev.bind (likeInts_refl _ l3) (Ev_pos rfl (Ev_pos rfl (Ev.bind (likeInts_refl _ s3) (Ev_pos rfl (Ev_pos rfl (Ev.bind (likeInts_refl _ r3) (Ev_pos rfl (Ev_pos rfl ?_)))))))))
  have e : (codeC xs n ws hop sent ts != codeC xs n ws hop sent ts) = false := by simp
  simp only [e]
  refine Ev_succ (by
    simp only [laws_FnStops.j0, Bool.false_eq_true, if_false]
    refine Ev_ite (fun h => ?_) (fun _ => Ev.now _)
    have hA := codeC_0 h
    have hS : codeS xs hop sent = 0 := by
      unfold codeS
      rw [if_pos hA.1.1, if_pos hA.2.1]
    have hls := impl_LastStop_ev xs hop sent
    rw [if_pos hS] at hls
    refine Ev.bind hls ?_
    rw [l4 h, s4 h, r4 h]
    exact stops_l0 h (by omega) (pickedW ws (lateB xs hop sent ts ws)).length 0 (by omega) (by omega))



end Go.Proofs.Ytddejaomlnldiaa.Pure
