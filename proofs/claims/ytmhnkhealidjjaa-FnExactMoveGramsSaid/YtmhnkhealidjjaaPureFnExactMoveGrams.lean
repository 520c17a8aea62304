/- The statement over numbers and lists for FnExactMoveGrams: the reference and the program answer alike for all arguments. -/
import Derived.Test.YtmhnkhealidjjaaXFnExactMoveGrams
set_option linter.unusedVariables false
set_option linter.unusedSimpArgs false
namespace Go.Proofs.Ytmhnkhealidjjaa.Pure
open Go.RowKit Go.Proofs.Ytmhnkhealidjjaa.PFnExactMoveGrams Go.Proofs.YtmhnkhealidjjaaW.PrintWords Go.Proofs.YtmhnkhealidjjaaW.PrintLast Go.Proofs.YtmhnkhealidjjaaW.PrintMore
open Go.Proofs.YtmhnkhealidjjaaX

theorem w64 {x : Int} (h0 : -9223372036854775808 ≤ x) (h1 : x ≤ 9223372036854775807) : wrap64 x = x := by unfold wrap64; omega
theorem Ev_ite {α : Type} {c : Prop} [Decidable c] {g h : Nat → Option α} {r : α} (h1 : c → Ev g r) (h2 : ¬ c → Ev h r) : Ev (fun k => if c then g k else h k) r := by
  by_cases hc : c
  · obtain ⟨K, hK⟩ := h1 hc
    exact ⟨K, fun k hk => (if_pos hc).trans (hK k hk)⟩
  · obtain ⟨K, hK⟩ := h2 hc
    exact ⟨K, fun k hk => (if_neg hc).trans (hK k hk)⟩
theorem Ev_pos {α : Type} {c : Prop} [Decidable c] {g h : Nat → Option α} {r : α} (hc : c) (h1 : Ev g r) : Ev (fun k => if c then g k else h k) r := Ev_ite (fun _ => h1) (fun n => absurd hc n)
theorem Ev_neg {α : Type} {c : Prop} [Decidable c] {g h : Nat → Option α} {r : α} (hc : ¬ c) (h1 : Ev h r) : Ev (fun k => if c then g k else h k) r := Ev_ite (fun n => absurd n hc) (fun _ => h1)
theorem Ev_some {α : Type} {r q : α} (h : r = q) : Ev (fun _ => some r) q := h ▸ Ev.now r
theorem Ev_eq {α : Type} {g : Nat → Option α} {r q : α} (h : r = q) (k : Ev g r) : Ev g q := h ▸ k
theorem Ev_const {α : Type} {o : Option α} {r : α} (h : o = some r) : Ev (fun _ => o) r := by subst h; exact Ev.now r
theorem Ev_bindc {α β : Type} {o : Option α} {f : Nat → α → Option β} {a : α} {r : β} (h : o = some a) (k : Ev (fun n => f n a) r) : Ev (fun n => o.bind (f n)) r := by subst h; exact k
theorem Ev_unique {α : Type} {g : Nat → Option α} {r q : α} (h : Ev g r) (k : Ev g q) : r = q := by
  obtain ⟨K, h⟩ := h
  obtain ⟨L, k⟩ := k
  have h1 := h (max K L) (by omega)
  have h2 := k (max K L) (by omega)
  rw [h1] at h2
  exact Option.some.inj h2
theorem lit64 {x : Int} (h : (Lit.int .i64 x).wf = true) : -9223372036854775808 ≤ x ∧ x ≤ 9223372036854775807 := by
  have h := h
  simp [Lit.wf, IntKind.min, IntKind.max, IntKind.bits, IntKind.signed] at h
  omega
theorem mn_eq (a b : Int) : mn a b = min a b := by unfold mn; omega
theorem mx_eq (a b : Int) : mx a b = max a b := by unfold mx; omega

theorem within_eq (a lo hi : Int) : impl_within.f a lo hi = some (decide (lo ≤ a ∧ a ≤ hi)) := by
  unfold impl_within.f
  by_cases h : lo ≤ a <;> simp [h]

theorem isPlace_eq (x y : Int) : impl_isPlace.f x y = some (decide ((0 ≤ x ∧ x ≤ 100000) ∧ 0 ≤ y ∧ y ≤ 100000)) := by
  unfold impl_isPlace.f; rw [within_eq, within_eq]
  by_cases h1 : 0 ≤ x ∧ x ≤ 100000 <;> by_cases h2 : 0 ≤ y ∧ y ≤ 100000 <;> simp [h1, h2]

theorem l01In_eq (a lo hi : Int) : spec_l01In.f a lo hi = some (decide (lo ≤ a ∧ a ≤ hi)) := by
  unfold spec_l01In.f
  by_cases h : a ≥ lo
  · have : lo ≤ a := h
    simp [this]
  · have : ¬ lo ≤ a := h
    simp [this]

theorem l15Place_eq (x y : Int) : spec_l15Place.f x y = some (decide ((0 ≤ x ∧ x ≤ 100000) ∧ 0 ≤ y ∧ y ≤ 100000)) := by
  unfold spec_l15Place.f; rw [l01In_eq, l01In_eq]
  by_cases h1 : 0 ≤ x ∧ x ≤ 100000 <;> by_cases h2 : 0 ≤ y ∧ y ≤ 100000 <;> simp [h1, h2]

theorem areGrams_eq (a : Int) : impl_areGrams.f a = some (decide (0 ≤ a ∧ a ≤ 100000000)) := by
  unfold impl_areGrams.f; rw [within_eq]; rfl

/-- A depot in its bounds. -/
def OkDepot (d : S51) : Prop := ((0 ≤ d.f0 ∧ d.f0 ≤ 100000) ∧ 0 ≤ d.f1 ∧ d.f1 ≤ 100000) ∧ 0 ≤ d.f2 ∧ d.f2 ≤ 100000000
instance (d : S51) : Decidable (OkDepot d) := by unfold OkDepot; infer_instance
def AreDepotsM (xs : List S51) : Prop := (∀ d ∈ xs, OkDepot d) ∧ xs.length ≤ 8
instance (xs : List S51) : Decidable (AreDepotsM xs) := by unfold AreDepotsM; infer_instance
theorem rdDepot {xs : List S51} {i : Int} (h0 : 0 ≤ i) (h1 : i < xs.length) : rd_T51 xs i = xs[i.toNat]'(by omega) := by
  simp [rd_T51, List.getD_eq_getElem?_getD, List.getElem?_eq_getElem (show i.toNat < xs.length by omega)]
theorem all_drop {α : Type} {p : α → Prop} {xs : List α} {i : Nat} (h : i < xs.length) : (∀ x ∈ xs.drop i, p x) ↔ p xs[i] ∧ ∀ x ∈ xs.drop (i + 1), p x := by
  rw [List.drop_eq_getElem_cons h, List.forall_mem_cons]
theorem spec_areDepots_loop (xs : List S51) (hn : xs.length ≤ 9000000000000000000) (d : Nat) : ∀ (k : Nat) (i : Int), 0 ≤ i → i ≤ xs.length → ((xs.length : Int) - i).toNat ≤ d → d < k →
    spec_AreDepots.l0 k xs i = some (decide ((∀ x ∈ xs.drop i.toNat, OkDepot x) ∧ xs.length ≤ 8)) := by
  induction d with
  | zero =>
    intro k i h0 h1 hd hk
    obtain ⟨k, rfl⟩ : ∃ m, k = m + 1 := ⟨k - 1, by omega⟩
    simp only [spec_AreDepots.l0]
    rw [if_neg (by omega), List.drop_eq_nil_of_le (by omega)]
    congr 1
    simp
    omega
  | succ d ih =>
    intro k i h0 h1 hd hk
    obtain ⟨k, rfl⟩ : ∃ m, k = m + 1 := ⟨k - 1, by omega⟩
    simp only [spec_AreDepots.l0]
    by_cases hlt : i < (xs.length : Int)
    · rw [if_pos hlt, if_pos h0, rdDepot h0 hlt, l15Place_eq, l01In_eq]
      have hall := all_drop (p := OkDepot) (xs := xs) (i := i.toNat) (by omega)
      simp only [Option.bind_some, decide_eq_true_eq]
      by_cases h1 : (0 ≤ (xs[i.toNat]'(by omega)).f0 ∧ (xs[i.toNat]'(by omega)).f0 ≤ 100000) ∧ 0 ≤ (xs[i.toNat]'(by omega)).f1 ∧ (xs[i.toNat]'(by omega)).f1 ≤ 100000
      · rw [if_pos h1]
        by_cases h2 : 0 ≤ (xs[i.toNat]'(by omega)).f2 ∧ (xs[i.toNat]'(by omega)).f2 ≤ 100000000
        · rw [if_pos h2, w64 (by omega) (by omega), ih k (i + 1) (by omega) (by omega) (by omega) (by omega)]
          rw [show (i + 1).toNat = i.toNat + 1 by omega]
          congr 1
          rw [decide_eq_decide, hall]
          exact ⟨fun h => ⟨⟨⟨h1, h2⟩, h.1⟩, h.2⟩, fun h => ⟨h.1.2, h.2⟩⟩
        · rw [if_neg h2, decide_eq_false]
          rw [hall]
          exact fun h => h2 h.1.1.2
      · rw [if_neg h1, decide_eq_false]
        rw [hall]
        exact fun h => h1 h.1.1.1
    · rw [if_neg hlt, List.drop_eq_nil_of_le (by omega)]
      congr 1
      simp
      omega
theorem spec_AreDepots_ev (xs : List S51) (hn : xs.length ≤ 9000000000000000000) : Ev (fun k => spec_AreDepots.f k xs) (decide (AreDepotsM xs)) :=
  ⟨xs.length + 1, fun k hk => by
    simp only [spec_AreDepots.f]
    rw [spec_areDepots_loop xs hn xs.length k 0 (by omega) (by omega) (by omega) (by omega)]
    rfl⟩
theorem impl_areDepots_loop (xs : List S51) (hn : xs.length ≤ 8) (d : Nat) : ∀ (k : Nat) (i : Int), 0 ≤ i → i ≤ xs.length → ((xs.length : Int) - i).toNat ≤ d → d < k →
    impl_AreDepots.l0 k xs (xs.length : Int) i = some (decide ((∀ x ∈ xs.drop i.toNat, OkDepot x))) := by
  induction d with
  | zero =>
    intro k i h0 h1 hd hk
    obtain ⟨k, rfl⟩ : ∃ m, k = m + 1 := ⟨k - 1, by omega⟩
    simp only [impl_AreDepots.l0]
    rw [if_neg (by omega), List.drop_eq_nil_of_le (by omega)]
    simp
  | succ d ih =>
    intro k i h0 h1 hd hk
    obtain ⟨k, rfl⟩ : ∃ m, k = m + 1 := ⟨k - 1, by omega⟩
    simp only [impl_AreDepots.l0]
    by_cases hlt : i < (xs.length : Int)
    · rw [if_pos hlt, if_pos h0, if_pos hlt, rdDepot h0 hlt, isPlace_eq, areGrams_eq]
      have hall := all_drop (p := OkDepot) (xs := xs) (i := i.toNat) (by omega)
      simp only [Option.bind_some, decide_eq_true_eq]
      by_cases h1 : (0 ≤ (xs[i.toNat]'(by omega)).f0 ∧ (xs[i.toNat]'(by omega)).f0 ≤ 100000) ∧ 0 ≤ (xs[i.toNat]'(by omega)).f1 ∧ (xs[i.toNat]'(by omega)).f1 ≤ 100000
      · rw [if_pos h1]
        by_cases h2 : 0 ≤ (xs[i.toNat]'(by omega)).f2 ∧ (xs[i.toNat]'(by omega)).f2 ≤ 100000000
        · rw [if_pos h2, w64 (by omega) (by omega), ih k (i + 1) (by omega) (by omega) (by omega) (by omega)]
          rw [show (i + 1).toNat = i.toNat + 1 by omega]
          congr 1
          rw [decide_eq_decide, hall]
          exact ⟨fun h => ⟨⟨h1, h2⟩, h⟩, fun h => h.2⟩
        · rw [if_neg h2, decide_eq_false]
          rw [hall]
          exact fun h => h2 h.1.2
      · rw [if_neg h1, decide_eq_false]
        rw [hall]
        exact fun h => h1 h.1.1
    · rw [if_neg hlt, List.drop_eq_nil_of_le (by omega)]
      simp
theorem impl_AreDepots_ev (xs : List S51) : Ev (fun k => impl_AreDepots.f k xs) (decide (AreDepotsM xs)) := by
  by_cases h : xs.length ≤ 8
  · refine ⟨xs.length + 1, fun k hk => ?_⟩
    simp only [impl_AreDepots.f]
    rw [if_neg (by omega), impl_areDepots_loop xs h xs.length k 0 (by omega) (by omega) (by omega) (by omega)]
    congr 1
    rw [decide_eq_decide]
    exact ⟨fun q => ⟨q, h⟩, fun q => q.1⟩
  · refine ⟨0, fun k _ => ?_⟩
    simp only [impl_AreDepots.f]
    rw [if_pos (by omega), decide_eq_false]
    exact fun q => h q.2

theorem isIndex_eq (i : Int) (n : Nat) (hn : n ≤ 9000000000000000000) : impl_isIndex.f i (n : Int) = some (decide (0 ≤ i ∧ i ≤ (n : Int) - 1)) := by
  unfold impl_isIndex.f; rw [w64 (by omega) (by omega), within_eq]; rfl

def movedM (xs : List S51) (a b g : Int) : List S51 :=
  let ys := xs.set a.toNat ⟨(rd_T51 xs a).f0, (rd_T51 xs a).f1, wrap64 ((rd_T51 xs a).f2 - g)⟩
  ys.set b.toNat ⟨(rd_T51 ys b).f0, (rd_T51 ys b).f1, wrap64 ((rd_T51 ys b).f2 + g)⟩
def moveGramsM (xs : List S51) (a b g : Int) : List S51 × Int :=
  if AreDepotsM xs then (if 0 ≤ a ∧ a ≤ (xs.length : Int) - 1 then (if 0 ≤ b ∧ b ≤ (xs.length : Int) - 1 then (if 0 ≤ g ∧ g ≤ 100000000 then
    (if a = b then ([], 5) else if AreDepotsM (movedM xs a b g) then (movedM xs a b g, 0) else ([], 5)) else ([], 2)) else ([], 2)) else ([], 2)) else ([], 1)
theorem movedM_length (xs : List S51) (a b g : Int) : (movedM xs a b g).length = xs.length := by simp [movedM]
theorem impl_MoveGrams_ev (xs : List S51) (a b g : Int) : Ev (fun k => impl_MoveGrams.f k xs a b g) (moveGramsM xs a b g) := by
  unfold impl_MoveGrams.f moveGramsM
  refine Ev.bind (impl_AreDepots_ev xs) ?_
  simp only [decide_eq_true_eq]
  refine Ev_ite (fun h1 => ?_) (fun h1 => by rw [if_neg h1]; exact Ev.now _)
  have hl := h1.2
  rw [if_pos h1]
  simp only [isIndex_eq _ _ (show xs.length ≤ 9000000000000000000 by omega), areGrams_eq, Option.bind_some, decide_eq_true_eq]
  refine Ev_ite (fun h2 => ?_) (fun h2 => by rw [if_neg h2]; exact Ev.step (f := fun _ => some ([], 2)) (fun k => by simp [impl_MoveGrams.j0]) (Ev.now _))
  rw [if_pos h2]
  refine Ev_ite (fun h3 => ?_) (fun h3 => by rw [if_neg h3]; exact Ev.step (f := fun _ => some ([], 2)) (fun k => by simp [impl_MoveGrams.j0]) (Ev.now _))
  rw [if_pos h3]
  by_cases h4 : 0 ≤ g ∧ g ≤ 100000000
  · rw [if_pos h4]
    refine Ev.step (f := fun k => if a = b then some ([], 5) else (impl_AreDepots.f k (movedM xs a b g)).bind fun t => if t = true then some (movedM xs a b g, 0) else some ([], 5)) (fun k => ?_) ?_
    · simp only [impl_MoveGrams.j0, decide_eq_true h4, Bool.not_true, Bool.false_eq_true, if_false, Option.bind_some, List.nil_append, List.length_nil]
      rw [if_pos (by omega), if_pos h2.1, if_pos (by omega), if_pos h3.1, if_pos (by omega)]
      rfl
    · refine Ev_ite (fun h5 => by rw [if_pos h5]; exact Ev.now _) (fun h5 => ?_)
      rw [if_neg h5]
      refine Ev.bind (impl_AreDepots_ev _) ?_
      simp only [decide_eq_true_eq]
      exact Ev_ite (fun h6 => by rw [if_pos h6]; exact Ev.now _) (fun h6 => by rw [if_neg h6]; exact Ev.now _)
  · rw [if_neg h4]
    exact Ev.step (f := fun _ => some ([], 2)) (fun k => by simp [impl_MoveGrams.j0, h4]) (Ev.now _)
theorem spec_MoveGrams_ev (xs : List S51) (hn : xs.length ≤ 9000000000000000000) (a b g : Int) : Ev (fun k => spec_MoveGrams.f k xs a b g) (moveGramsM xs a b g) := by
  unfold spec_MoveGrams.f moveGramsM
  refine Ev.bind (spec_AreDepots_ev xs hn) ?_
  simp only [decide_eq_true_eq]
  refine Ev_ite (fun h1 => ?_) (fun h1 => by rw [if_neg h1]; exact Ev.now _)
  have hl := h1.2
  rw [if_pos h1]
  simp only [w64 (x := (xs.length : Int) - 1) (by omega) (by omega), l01In_eq, Option.bind_some, decide_eq_true_eq]
  refine Ev_ite (fun h2 => ?_) (fun h2 => by rw [if_neg h2]; exact Ev.step (f := fun _ => some ([], 2)) (fun k => by simp [spec_MoveGrams.j0]) (Ev.now _))
  rw [if_pos h2]
  refine Ev_ite (fun h3 => ?_) (fun h3 => by rw [if_neg h3]; exact Ev.step (f := fun _ => some ([], 2)) (fun k => by simp [spec_MoveGrams.j0]) (Ev.now _))
  rw [if_pos h3]
  by_cases h4 : 0 ≤ g ∧ g ≤ 100000000
  · rw [if_pos h4]
    refine Ev.step (f := fun k => if a = b then some ([], 5) else (spec_AreDepots.f k (movedM xs a b g)).bind fun t => if t = true then some (movedM xs a b g, 0) else some ([], 5)) (fun k => ?_) ?_
    · simp only [spec_MoveGrams.j0, decide_eq_true h4, Bool.not_true, Bool.false_eq_true, if_false, Option.bind_some, List.nil_append, List.length_nil]
      rw [if_pos (by omega), if_pos h2.1, if_pos (by omega), if_pos h3.1, if_pos (by omega)]
      rfl
    · refine Ev_ite (fun h5 => by rw [if_pos h5]; exact Ev.now _) (fun h5 => ?_)
      rw [if_neg h5]
      refine Ev.bind (spec_AreDepots_ev _ (by rw [movedM_length]; omega)) ?_
      simp only [decide_eq_true_eq]
      exact Ev_ite (fun h6 => by rw [if_pos h6]; exact Ev.now _) (fun h6 => by rw [if_neg h6]; exact Ev.now _)
  · rw [if_neg h4]
    exact Ev.step (f := fun _ => some ([], 2)) (fun k => by simp [spec_MoveGrams.j0, h4]) (Ev.now _)
theorem moveGramsM_length (xs : List S51) (a b g : Int) : (moveGramsM xs a b g).1.length ≤ 8 := by
  unfold moveGramsM
  split
  · rename_i h
    have := h.2
    repeat' split
    all_goals (first | (rw [movedM_length]; omega) | (simp; done))
  · simp

theorem core_FnExactMoveGrams (xs : List S51) (a b g : Int) (hx : xs.length ≤ 1000000) (_w1 : (Lit.int .i64 a).wf = true) (_w2 : (Lit.int .i64 b).wf = true) (_w3 : (Lit.int .i64 g).wf = true) : ∃ r1 r2, Ev (fun k => spec_MoveGrams.f k xs a b g) (r1, r2) ∧ Ev (fun k => impl_MoveGrams.f k xs a b g) (r1, r2) ∧ r1.length ≤ 8 :=
  ⟨_, _, spec_MoveGrams_ev xs (by omega) a b g, impl_MoveGrams_ev xs a b g, moveGramsM_length xs a b g⟩

/-- How much room to..S leaves behind a row of n elements. -/
def room (n : Nat) : Nat := if n % 6 = 5 then 0 else if n % 3 = 0 then 1 else n
theorem room_le (n : Nat) : room n ≤ n + 1 := by unfold room; split <;> (try split) <;> omega
theorem room_eq (n : Nat) (h : n ≤ 9223372036854775807) : laws_roomBehind.f (n : Int) = some (room n : Int) := by
  unfold laws_roomBehind.f room
  rw [Int.tmod_eq_emod_of_nonneg (by omega), Int.tmod_eq_emod_of_nonneg (by omega)]
  by_cases h1 : n % 6 = 5
  · rw [if_pos (by omega), if_pos h1]; rfl
  · rw [if_neg (by omega), if_neg h1]
    by_cases h2 : n % 3 = 0
    · rw [if_pos (by omega), if_pos h2]; rfl
    · rw [if_neg (by omega), if_neg h2]
theorem take_set_far {α : Type} (xs : List α) (y : α) {n m : Nat} (h : n ≤ m) : (xs.set m y).take n = xs.take n := by
  apply List.ext_getElem?
  intro i
  by_cases hi : i < n
  · rw [List.getElem?_take_of_lt hi, List.getElem?_take_of_lt hi, List.getElem?_set_ne (by omega)]
  · rw [List.getElem?_eq_none (by simp; omega), List.getElem?_eq_none (by simp; omega)]
theorem take_set_at {α : Type} (xs : List α) (y : α) {n : Nat} (h : n < xs.length) : (xs.set n y).take (n + 1) = xs.take n ++ [y] := by
  rw [List.take_succ_eq_append_getElem (by rw [List.length_set]; exact h), take_set_far xs y (Nat.le_refl n)]
  simp
theorem rooms {n : Nat} (h : n ≤ 1000000) : wrap64 ((n : Int) + (room n : Int)) = ((n + room n : Nat) : Int) := by
  have := room_le n
  rw [w64 (by omega) (by omega)]; omega

theorem eqDepotS_loop (xs : List S51) (hn : xs.length ≤ 9000000000000000000) (d : Nat) : ∀ (k : Nat) (i : Int), 0 ≤ i → i ≤ xs.length → ((xs.length : Int) - i).toNat ≤ d → d < k → laws_eqDepotS.l0 k xs xs i = some true := by
  induction d with
  | zero =>
    intro k i h0 h1 hd hk
    obtain ⟨k, rfl⟩ : ∃ m, k = m + 1 := ⟨k - 1, by omega⟩
    simp only [laws_eqDepotS.l0]
    rw [if_neg (by omega)]
  | succ d ih =>
    intro k i h0 h1 hd hk
    obtain ⟨k, rfl⟩ : ∃ m, k = m + 1 := ⟨k - 1, by omega⟩
    simp only [laws_eqDepotS.l0]
    by_cases hlt : i < (xs.length : Int)
    · rw [if_pos hlt, if_pos h0, if_pos hlt]
      simp only [laws_eqDepot.f, if_true, Option.bind_some]
      rw [w64 (by omega) (by omega)]
      exact ih k (i + 1) (by omega) (by omega) (by omega) (by omega)
    · rw [if_neg hlt]
theorem eqDepotS_refl (xs : List S51) (hn : xs.length ≤ 9000000000000000000) : Ev (fun k => laws_eqDepotS.f k xs xs) true :=
  ⟨xs.length + 1, fun k hk => by
    simp only [laws_eqDepotS.f, if_true]
    exact eqDepotS_loop xs hn xs.length k 0 (by omega) (by omega) (by omega) (by omega)⟩

theorem rdSetDepotS (xs : List S51) {i : Int} (h0 : 0 ≤ i) (h1 : i < xs.length) (v : S51) : rd_T51 (xs.set i.toNat v) i = v := by
  simp [rd_T51, List.getD_eq_getElem?_getD, List.getElem?_set_self (show i.toNat < xs.length by omega)]
theorem markDepotS_loop (d : Nat) : ∀ (x0 : List S51) (m i : Int), 0 ≤ i → i ≤ x0.length → ((x0.length : Int) - i).toNat ≤ d → 0 ≤ m → m + 3 * d ≤ 4000000000000000000 → x0.length ≤ 4000000000000000000 →
    ∃ (m' : Int) (x' : List S51), x'.length = x0.length ∧ (∀ j : Nat, j < i.toNat → x'[j]? = x0[j]?) ∧ m ≤ m' ∧ m' ≤ m + 3 * d ∧ ∀ k, d < k → laws_markDepotS.l0 k x0 m i = some (m', x') ∧ laws_heldDepotS.l0 k x' m i = some m' := by
  induction d with
  | zero =>
    intro x0 m i h0 h1 hd hm hm2 hn
    refine ⟨m, x0, rfl, fun _ _ => rfl, by omega, by omega, fun k hk => ?_⟩
    obtain ⟨k, rfl⟩ : ∃ m, k = m + 1 := ⟨k - 1, by omega⟩
    simp only [laws_markDepotS.l0, laws_heldDepotS.l0]
    rw [if_neg (by omega), if_neg (by omega)]
    exact ⟨rfl, rfl⟩
  | succ d ih =>
    intro x0 m i h0 h1 hd hm hm2 hn
    by_cases hlt : i < (x0.length : Int)
    · obtain ⟨m', x', hl, hx, hm1, hm3, hk⟩ := ih (x0.set i.toNat (⟨m, m + 1, m + 2⟩ : S51)) (m + 3) (i + 1) (by omega) (by rw [List.length_set]; omega) (by rw [List.length_set]; omega) (by omega) (by omega) (by rw [List.length_set]; omega)
      rw [List.length_set] at hl
      refine ⟨m', x', hl, fun j hj => ?_, by omega, by omega, fun k hkd => ?_⟩
      · rw [hx j (by omega), List.getElem?_set_ne (by omega)]
      obtain ⟨k, rfl⟩ : ∃ m, k = m + 1 := ⟨k - 1, by omega⟩
      obtain ⟨h2, h3⟩ := hk k (by omega)
      have hr : rd_T51 x' i = (⟨m, m + 1, m + 2⟩ : S51) := by
        have := hx i.toNat (by omega)
        rw [List.getElem?_set_self (show i.toNat < x0.length by omega)] at this
        simp [rd_T51, List.getD_eq_getElem?_getD, this]
      have w1 : wrap64 (m + 1) = m + 1 := by rw [w64 (by omega) (by omega)] <;> omega
      have w2 : wrap64 ((m + 1) + 1) = m + 2 := by rw [w64 (by omega) (by omega)] <;> omega
      have w3 : wrap64 ((m + 2) + 1) = m + 3 := by rw [w64 (by omega) (by omega)] <;> omega
      have wi : wrap64 (i + 1) = i + 1 := w64 (by omega) (by omega)
      refine ⟨?_, ?_⟩
      · simp only [laws_markDepotS.l0]
        rw [if_pos hlt, if_pos h0]
        simp only [Option.bind_some, rdSetDepotS x0 h0 hlt, List.set_set, w1, w2, w3, wi]
        exact h2
      · simp only [laws_heldDepotS.l0]
        rw [if_pos (by omega), if_pos h0, hr]
        simp only [w1, w2, w3, wi, if_true]
        exact h3
    · refine ⟨m, x0, rfl, fun _ _ => rfl, by omega, by omega, fun k hk => ?_⟩
      obtain ⟨k, rfl⟩ : ∃ m, k = m + 1 := ⟨k - 1, by omega⟩
      simp only [laws_markDepotS.l0, laws_heldDepotS.l0]
      rw [if_neg hlt, if_neg hlt]
      exact ⟨rfl, rfl⟩
theorem markDepotS_tells (xs : List S51) (hn : xs.length ≤ 2000000) (m : Int) (h0 : 0 ≤ m) (h1 : m ≤ 1000000000000) :
    ∃ (m' : Int) (l' : List S51), Ev (fun k => laws_markDepotS.f k xs m) (m', l') ∧ m ≤ m' ∧ m' ≤ m + 3 * xs.length ∧ l'.length = xs.length ∧ Ev (fun k => laws_heldDepotS.f k l' m) m' := by
  obtain ⟨m', x', hl, _, h2, h3, hk⟩ := markDepotS_loop xs.length xs m 0 (by omega) (by omega) (by omega) h0 (by omega) (by omega)
  exact ⟨m', x', ⟨xs.length + 1, fun k h => (hk k (by omega)).1⟩, h2, h3, hl, ⟨xs.length + 1, fun k h => (hk k (by omega)).2⟩⟩

theorem szDepotS_eq (l0 : List S65) (h : l0.length ≤ 9223372036854775807) (b : Int) (hb0 : 0 ≤ b) (hb : b ≤ 1000000) : laws_szDepotS.f l0 b = some (if (l0.length : Int) ≤ b then b - (l0.length : Int) else -1) := by
  unfold laws_szDepotS.f
  rw [w64 (by omega) (by omega)]
  by_cases hl : (l0.length : Int) ≤ b
  · rw [if_neg (by omega), if_pos hl]
  · rw [if_pos (by omega), if_neg hl]

def convDepotS (x : S65) : S51 := ⟨x.f0, x.f1, x.f2⟩
theorem toDepotS_l1 (l0 : List S65) (N : Nat) (hN : N ≤ 4000000) (hn : l0.length ≤ N) (d : Nat) : ∀ (k : Nat) (x5 : List S51) (i : Int), x5.length = N → (l0.length : Int) ≤ i → i ≤ N → ((N : Int) - i).toNat ≤ d → d < k →
    ∃ ext, laws_toDepotSX.l1 k l0 x5 i = some ext ∧ ext.length = N ∧ ext.take l0.length = x5.take l0.length := by
  induction d with
  | zero =>
    intro k x5 i h1 h2 h3 hd hk
    obtain ⟨k, rfl⟩ : ∃ m, k = m + 1 := ⟨k - 1, by omega⟩
    refine ⟨x5, ?_, h1, rfl⟩
    simp only [laws_toDepotSX.l1]
    rw [if_neg (by omega), if_pos (by omega), if_pos (by omega)]
  | succ d ih =>
    intro k x5 i h1 h2 h3 hd hk
    obtain ⟨k, rfl⟩ : ∃ m, k = m + 1 := ⟨k - 1, by omega⟩
    simp only [laws_toDepotSX.l1]
    by_cases hlt : i < (x5.length : Int)
    · rw [if_pos hlt]
      simp only [laws_fillerDepot.f, Option.bind_some]
      rw [if_pos (show 0 ≤ i by omega), w64 (by omega) (by omega)]
      refine (ih k _ (i + 1) (by rw [List.length_set]; exact h1) (by omega) (by omega) (by omega) (by omega)).imp fun ext h => ⟨h.1, h.2.1, h.2.2.trans ?_⟩
      exact take_set_far _ _ (by omega)
    · rw [if_neg hlt, if_pos (by omega), if_pos (by omega)]
      exact ⟨x5, rfl, h1, rfl⟩
theorem toDepotS_l0 (l0 : List S65) (N : Nat) (hN : N ≤ 4000000) (hn : l0.length ≤ N) (d : Nat) : ∀ (k : Nat) (x5 : List S51) (i : Int), x5.length = N → 0 ≤ i → i ≤ l0.length → ((l0.length : Int) - i).toNat ≤ d → d + N + 1 < k → x5.take i.toNat = (l0.take i.toNat).map convDepotS →
    ∃ ext, laws_toDepotSX.l0 k l0 x5 i = some ext ∧ ext.length = N ∧ ext.take l0.length = l0.map convDepotS := by
  induction d with
  | zero =>
    intro k x5 i h1 h2 h3 hd hk hx
    obtain ⟨k, rfl⟩ : ∃ m, k = m + 1 := ⟨k - 1, by omega⟩
    simp only [laws_toDepotSX.l0]
    rw [if_neg (by omega)]
    obtain ⟨ext, h4, h5, h6⟩ := toDepotS_l1 l0 N hN hn N k x5 (l0.length : Int) h1 (by omega) (by omega) (by omega) (by omega)
    refine ⟨ext, h4, h5, h6.trans ?_⟩
    have : i.toNat = l0.length := by omega
    rw [this, List.take_length] at hx
    exact hx
  | succ d ih =>
    intro k x5 i h1 h2 h3 hd hk hx
    obtain ⟨k, rfl⟩ : ∃ m, k = m + 1 := ⟨k - 1, by omega⟩
    simp only [laws_toDepotSX.l0]
    by_cases hlt : i < (l0.length : Int)
    · rw [if_pos hlt, if_pos h2]
      simp only [laws_toDepot.f, Option.bind_some]
      rw [if_pos (show i < (x5.length : Int) by omega), w64 (by omega) (by omega)]
      refine ih k _ (i + 1) (by rw [List.length_set]; exact h1) (by omega) (by omega) (by omega) (by omega) ?_
      have e : (i + 1).toNat = i.toNat + 1 := by omega
      rw [e, take_set_at _ _ (show i.toNat < x5.length by omega), hx, List.take_succ_eq_append_getElem (show i.toNat < l0.length by omega), List.map_append]
      have hr : rd_T65 l0 i = l0[i.toNat]'(by omega) := by
        simp [rd_T65, List.getD_eq_getElem?_getD, List.getElem?_eq_getElem (show i.toNat < l0.length by omega)]
      simp [hr, convDepotS]
    · rw [if_neg hlt]
      obtain ⟨ext, h4, h5, h6⟩ := toDepotS_l1 l0 N hN hn N k x5 (l0.length : Int) h1 (by omega) (by omega) (by omega) (by omega)
      refine ⟨ext, h4, h5, h6.trans ?_⟩
      have : i.toNat = l0.length := by omega
      rw [this, List.take_length] at hx
      exact hx
theorem toDepotS_false (l0 : List S65) (h : l0.length ≤ 1000000) : ∃ ext, Ev (fun k => laws_toDepotSX.f k l0 false) ext ∧ ext.length = l0.length + room l0.length ∧ ext.take l0.length = l0.map convDepotS := by
  have hr := room_le l0.length
  obtain ⟨k0, hk0⟩ : ∃ k0 : Nat, l0.length + (l0.length + room l0.length) + 1 < k0 := ⟨_, Nat.lt_succ_self _⟩
  obtain ⟨ext, h1, h2, h3⟩ := toDepotS_l0 l0 (l0.length + room l0.length) (by omega) (by omega) l0.length k0 (List.replicate (l0.length + room l0.length) z51) 0 (by simp) (by omega) (by omega) (by omega) hk0 (by simp)
  have hm := laws_toDepotSX.mono l0 false
  refine ⟨ext, Ev.of (k := k0 + 1) hm ?_, h2, h3⟩
  have e : wrap64 ((l0.length : Int) + (room l0.length : Int)) = ((l0.length + room l0.length : Nat) : Int) := by
    rw [w64 (by omega) (by omega)]; omega
  simp only [laws_toDepotSX.f, laws_toDepotSX.j0, Bool.false_eq_true, if_false]
  rw [room_eq l0.length (by omega), Option.bind_some, e, if_pos (by omega), Int.toNat_natCast, if_pos (by omega)]
  exact h1
theorem toDepotS_true (l0 : List S65) (h : l0.length ≤ 1000000) : ∃ extb, Ev (fun k => laws_toDepotSX.f k l0 true) extb ∧ l0.length ≤ extb.length ∧ extb.take l0.length = l0.map convDepotS ∧ (extb = [] → l0.length = 0) := by
  by_cases hz : l0.length = 0
  · have : l0 = [] := List.eq_nil_of_length_eq_zero hz
    subst this
    refine ⟨[], ⟨1, fun k hk => ?_⟩, by simp, by simp, fun _ => rfl⟩
    obtain ⟨k, rfl⟩ : ∃ m, k = m + 1 := ⟨k - 1, by omega⟩
    simp [laws_toDepotSX.f, laws_toDepotSX.j0]
  · obtain ⟨ext, h1, h2, h3⟩ := toDepotS_false l0 h
    refine ⟨ext, Ev.congr (fun k => ?_) h1, by omega, h3, fun e => by rw [e] at h2; simp at h2; omega⟩
    have e : ((l0.length : Int) == 0) = false := by simpa using hz
    simp only [laws_toDepotSX.f, e, Bool.false_eq_true, if_false, if_true]

theorem FnExactMoveGrams : laws_FnExactMoveGrams.Pure := by
  intro l0 a1 a2 a3 hnl0 wa1 wa2 wa3
  by_cases hs1 : (l0.length : Int) ≤ 1000000
  case neg =>
    exact .inl ⟨-1, by rw [szDepotS_eq _ (by omega) _ (by omega) (by omega), if_neg hs1], by decide⟩
  refine .inr (?_)
  have hb0 : l0.length ≤ 1000000 := by omega
  have hm0 := room_le l0.length
  obtain ⟨ext0, e0, el0, et0⟩ := toDepotS_false l0 hb0
  obtain ⟨extb0, b0, bl0, bt0, bn0⟩ := toDepotS_true l0 hb0
  have q0 := eqDepotS_refl ext0 (by omega)
  obtain ⟨z_r1, z_r2, s1, s2, hl_z_r1⟩ := core_FnExactMoveGrams (l0.map convDepotS) a1 a2 a3 (by rw [List.length_map]; exact hb0) wa1 wa2 wa3
  have qq_he_gs_r1_ws_r1 := eqDepotS_refl z_r1 (by omega)
  obtain ⟨mk_0, ml_0, mm0, mp0, mu0, ml0, mh0⟩ := markDepotS_tells (l0.map convDepotS) (by (try rw [List.length_map]); omega) 101 (by omega) (by omega)
  obtain ⟨mk_1, ml_1, mm1, mp1, mu1, ml1, mh1⟩ := markDepotS_tells z_r1 (by (try rw [List.length_map]); omega) 101 (by omega) (by omega)
  obtain ⟨K0_, v_e0⟩ := e0
  obtain ⟨K1_, v_b0⟩ := b0
  obtain ⟨K2_, v_q0⟩ := q0
  obtain ⟨K3_, v_s1⟩ := s1
  obtain ⟨K4_, v_s2⟩ := s2
  obtain ⟨K5_, v_qq_he_gs_r1_ws_r1⟩ := qq_he_gs_r1_ws_r1
  obtain ⟨K6_, v_mm0⟩ := mm0
  obtain ⟨K7_, v_mh0⟩ := mh0
  obtain ⟨K8_, v_mm1⟩ := mm1
  obtain ⟨K9_, v_mh1⟩ := mh1
  refine ⟨K0_ + K1_ + K2_ + K3_ + K4_ + K5_ + K6_ + K7_ + K8_ + K9_, (l0.map convDepotS), ext0, extb0, (room l0.length : Int), (1000000 - (l0.length : Int)), z_r1, z_r2, z_r1, mk_0, ml_0, mk_1, ml_1, ?_⟩
  exact { hto0 := v_e0 _ (by omega), htob0 := v_b0 _ (by omega), hxl0 := List.length_map .., hnb0 := bn0, hne0 := fun h => by rw [h] at el0; simp at el0; unfold room at el0; split at el0 <;> (try split at el0) <;> omega, hxe0 := by rw [List.length_map]; exact et0.symm, hxb0 := by rw [List.length_map]; exact bt0.symm, hle0 := by rw [List.length_map]; omega, hlb0 := by rw [List.length_map]; exact bl0, hrm0 := by rw [List.length_map]; exact room_eq _ (by omega), hj0 := by rw [List.length_map, el0]; exact rooms hb0, heqx0 := v_q0 _ (by omega), hz1 := by rw [szDepotS_eq _ (by omega) _ (by omega) (by omega), if_pos hs1], hn1 := decide_eq_false (by omega), hfspec := v_s1 _ (by omega), hfimpl := v_s2 _ (by omega), he_gs_r1_ws_r1 := v_qq_he_gs_r1_ws_r1 _ (by omega), hm0 := v_mm0 _ (by omega), hmn0 := decide_eq_false (by omega), hm1 := v_mm1 _ (by omega), hmn1 := decide_eq_false (by omega), hml1 := ml1.symm, hh_ml_1 := v_mh1 _ (by omega) }

end Go.Proofs.Ytmhnkhealidjjaa.Pure
