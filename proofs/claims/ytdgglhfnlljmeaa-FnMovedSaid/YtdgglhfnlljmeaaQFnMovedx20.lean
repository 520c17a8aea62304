/- Functions and contracts that FnMoved reaches (21 of 29). -/
import Derived.Test.YtdgglhfnlljmeaaQFnMovedx19
namespace Go.Proofs.Ytdgglhfnlljmeaa.PFnMoved
open Go.RowKit Go.Proofs.YtdgglhfnlljmeaaW.PrintWords Go.Proofs.YtdgglhfnlljmeaaW.PrintLast Go.Proofs.YtdgglhfnlljmeaaW.PrintMore
attribute [local go_sem] max2_int min2_int max_two min_two max_three min_three max_four min_four   -- for this text's walks alone
set_option linter.unusedVariables false
set_option linter.unusedSimpArgs false

/-! ### spec_l03Names: function 91 -/
def spec_l03Names.f  : Option (List ByteArray) := some (([(⟨#[97, 115, 116, 101, 114]⟩ : ByteArray), (⟨#[99, 111, 109, 101, 116]⟩ : ByteArray), (⟨#[100, 97, 104, 108, 105, 97]⟩ : ByteArray), (⟨#[112, 97, 108, 109]⟩ : ByteArray), (⟨#[112, 101, 111, 110, 121]⟩ : ByteArray), (⟨#[119, 105, 108, 108, 111, 119]⟩ : ByteArray)] : List ByteArray))
set_option maxHeartbeats 8000000 in
set_option maxRecDepth 100000 in
theorem spec_l03Names.calls  (r : List ByteArray) (w : World) (h : spec_l03Names.f  = some r) :
  Calls Try.prog 91 #[] w fun e w' => ∃ v0_ : Value, e = .returned (v0_) ∧ Kd.R Kd.string 9 w' w.heap.size (fun _ => True) v0_ r ∧ Below w.heap.size w w' := by
 have HB := jA (Below.refl w.heap.size w)
 have H := h
 unfold spec_l03Names.f at H
 clear h
 obtain ⟨y351, hy351⟩ : ∃ y_ : List ByteArray, y_ = (([(⟨#[97, 115, 116, 101, 114]⟩ : ByteArray), (⟨#[99, 111, 109, 101, 116]⟩ : ByteArray), (⟨#[100, 97, 104, 108, 105, 97]⟩ : ByteArray), (⟨#[112, 97, 108, 109]⟩ : ByteArray), (⟨#[112, 101, 111, 110, 121]⟩ : ByteArray), (⟨#[119, 105, 108, 108, 111, 119]⟩ : ByteArray)] : List ByteArray)) := ⟨_, rfl⟩
 replace H : (some y351) = some r := by first | (rw [hy351]; with_reducible exact H) | (have H2_ := (Option.bind_some _ _).symm.trans H; rw [hy351]; with_reducible exact H2_) | (have H2_ := (Option.bind_some _ _).symm.trans H; with_reducible exact H2_) | with_reducible exact H | (rw [hy351]; exact H) | exact H
 have Ny351 := jA hy351
 clear hy351
 obtain rfl := jN H
 go_enter Try.func91, Try.ntmps91
 go_wp2_with (first | ((with_reducible refine jJ (N := 1) rfl ?_); refine Kd.R_lit Kd.string _ 9 ?hg (N := 1) ?hd (xs := ([(⟨#[97, 115, 116, 101, 114]⟩ : ByteArray), (⟨#[99, 111, 109, 101, 116]⟩ : ByteArray), (⟨#[100, 97, 104, 108, 105, 97]⟩ : ByteArray), (⟨#[112, 97, 108, 109]⟩ : ByteArray), (⟨#[112, 101, 111, 110, 121]⟩ : ByteArray), (⟨#[119, 105, 108, 108, 111, 119]⟩ : ByteArray)] : List ByteArray)) (inner := [.string (⟨#[97, 115, 116, 101, 114]⟩ : ByteArray), .string (⟨#[99, 111, 109, 101, 116]⟩ : ByteArray), .string (⟨#[100, 97, 104, 108, 105, 97]⟩ : ByteArray), .string (⟨#[112, 97, 108, 109]⟩ : ByteArray), .string (⟨#[112, 101, 111, 110, 121]⟩ : ByteArray), .string (⟨#[119, 105, 108, 108, 111, 119]⟩ : ByteArray)]) (ok := fun _ => True) (okp := fun _ => True) ?hr ?hp (fun _ hk => hk) trivial (Below.refl _ _) (Nat.le_refl _) (by simp) ?_; (case hd => rfl); (case hg => rfl); (case hr => first | (go_simp; done) | (go_simp; rfl)); (case hp => exact (Reps.one (show Kd.M Kd.string _ _ _ (⟨#[97, 115, 116, 101, 114]⟩ : ByteArray) [.string (⟨#[97, 115, 116, 101, 114]⟩ : ByteArray)] from rfl) (Reps.one (show Kd.M Kd.string _ _ _ (⟨#[99, 111, 109, 101, 116]⟩ : ByteArray) [.string (⟨#[99, 111, 109, 101, 116]⟩ : ByteArray)] from rfl) (Reps.one (show Kd.M Kd.string _ _ _ (⟨#[100, 97, 104, 108, 105, 97]⟩ : ByteArray) [.string (⟨#[100, 97, 104, 108, 105, 97]⟩ : ByteArray)] from rfl) (Reps.one (show Kd.M Kd.string _ _ _ (⟨#[112, 97, 108, 109]⟩ : ByteArray) [.string (⟨#[112, 97, 108, 109]⟩ : ByteArray)] from rfl) (Reps.one (show Kd.M Kd.string _ _ _ (⟨#[112, 101, 111, 110, 121]⟩ : ByteArray) [.string (⟨#[112, 101, 111, 110, 121]⟩ : ByteArray)] from rfl) (Reps.one (show Kd.M Kd.string _ _ _ (⟨#[119, 105, 108, 108, 111, 119]⟩ : ByteArray) [.string (⟨#[119, 105, 108, 108, 111, 119]⟩ : ByteArray)] from rfl) (Reps.none _ _)))))))); intro v352 w1 ho2 hb hg_ hnew_; clear hg_ hnew_; (first | rw [← Ny351.out] at ho2 | (simp only [Int.reduceToNat] at ho2; rw [← Ny351.out] at ho2)); have HO353 := jA (jU ho2 (jW (zb0 HB))); replace HB := zS0 HB hb; clear hb ho2))
 go_ret
 exact ⟨_, ze, zo HO353, zb0 HB⟩

end Go.Proofs.Ytdgglhfnlljmeaa.PFnMoved
