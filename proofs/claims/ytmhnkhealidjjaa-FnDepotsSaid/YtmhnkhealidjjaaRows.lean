/-
  No cell of these rows narrows 'for every input' (looked for: loops, veiled, ifaces, maps, wideKeys, modest, calm, conditions, laid).
  DERIVED. THE GIVEN ROWS OF THIS SEAT. 12 by the template 'for every input the law returns true; each argument reads behind the call as it read before'; 0 by the template 'total and deterministic' (their statements: YtmhnkhealidjjaaTotals.lean).
  GIVEN WITH THE SEED: the statements are not yours to turn. If you find one false, say at which input.
  Laid BY PROGRAM, IN A SANDBOX (cutbox-rows.mjs): the forced cells as the released guide's own fill.sh prints them over the translation 409de76da93ee862… (all of the seat's roots in one cut). By AI agents, Wed Nov 11 2026. No macro, syntax, notation, axiom, sorry.
-/
import Derived.Test.YtmhnkhealidjjaaChecked
import GoSem.Claim
import GoSem.ClaimJoined
import GoSem.ClaimMapViews
import Derived.JoinedTies
import Derived.KernelRfl
namespace Go.Proofs.Ytmhnkhealidjjaa
/- THE CELL 'sum', in the pinned program and in every row, IS THE sha256 OF THE DUMP (.gsa) THAT YtmhnkhealidjjaaProg.lean LOADS. Nothing in Lean hashes anything: it is a label: what it is worth is what the hold of that sum in a sandbox is worth. -/
noncomputable def Try.pinned : Pinned := { name := "ytmhnkhealidjjaa", sum := "409de76da93ee862d78b9f7e63b4bb839cdac309bfd7e68d388d2dd01d901c2d", checked := Try.checked }
namespace Rows
def none {H : Type} : Left H := { results := [], args := [] }

/-- 'laws.FnExactGramsFor': WHATEVER THE INPUT: true; the input reads as it did. -/
def fnExactGramsForSpec : ChangeSpec := { name := "fnExactGramsFor", fn := fun _ => fun
  | [d1, d2] => { results := [.lit (.bool true)], args := [d1, d2] }
  | _ => none }
def fnExactGramsForRow : OpenClaim := { program := "ytmhnkhealidjjaa", sum := "409de76da93ee862d78b9f7e63b4bb839cdac309bfd7e68d388d2dd01d901c2d", func := "loop.example/g01049/laws.FnExactGramsFor", spec := "fnExactGramsFor", apart := false }
def FnExactGramsForSaid : Prop := fnExactGramsForRow.holds Try.pinned (OpenSpec.ofChange fnExactGramsForSpec)

/-- ITS FALSE NEIGHBOUR: 'it returns false'. Refute it at one input. -/
def fnExactGramsForWrong : ChangeSpec := { name := "fnExactGramsFor", fn := fun _ => fun
  | [d1, d2] => { results := [.lit (.bool false)], args := [d1, d2] }
  | _ => none }
def FnExactGramsForWrongFalsely : Prop := fnExactGramsForRow.holds Try.pinned (OpenSpec.ofChange fnExactGramsForWrong)

/-- 'laws.FnExactSeparationFor': WHATEVER THE INPUT: true; the input reads as it did. -/
def fnExactSeparationForSpec : ChangeSpec := { name := "fnExactSeparationFor", fn := fun _ => fun
  | [d1, d2] => { results := [.lit (.bool true)], args := [d1, d2] }
  | _ => none }
def fnExactSeparationForRow : OpenClaim := { program := "ytmhnkhealidjjaa", sum := "409de76da93ee862d78b9f7e63b4bb839cdac309bfd7e68d388d2dd01d901c2d", func := "loop.example/g01049/laws.FnExactSeparationFor", spec := "fnExactSeparationFor", apart := false }
def FnExactSeparationForSaid : Prop := fnExactSeparationForRow.holds Try.pinned (OpenSpec.ofChange fnExactSeparationForSpec)

/-- ITS FALSE NEIGHBOUR: 'it returns false'. Refute it at one input. -/
def fnExactSeparationForWrong : ChangeSpec := { name := "fnExactSeparationFor", fn := fun _ => fun
  | [d1, d2] => { results := [.lit (.bool false)], args := [d1, d2] }
  | _ => none }
def FnExactSeparationForWrongFalsely : Prop := fnExactSeparationForRow.holds Try.pinned (OpenSpec.ofChange fnExactSeparationForWrong)

/-- 'laws.FnExactAreDepots': WHATEVER THE INPUT: true; the input reads as it did. -/
def fnExactAreDepotsSpec : ChangeSpec := { name := "fnExactAreDepots", fn := fun _ => fun
  | [d] => { results := [.lit (.bool true)], args := [d] }
  | _ => none }
def fnExactAreDepotsRow : OpenClaim := { program := "ytmhnkhealidjjaa", sum := "409de76da93ee862d78b9f7e63b4bb839cdac309bfd7e68d388d2dd01d901c2d", func := "loop.example/g01049/laws.FnExactAreDepots", spec := "fnExactAreDepots", apart := false }
def FnExactAreDepotsSaid : Prop := fnExactAreDepotsRow.holds Try.pinned (OpenSpec.ofChange fnExactAreDepotsSpec)

/-- ITS FALSE NEIGHBOUR: 'it returns false'. Refute it at one input. -/
def fnExactAreDepotsWrong : ChangeSpec := { name := "fnExactAreDepots", fn := fun _ => fun
  | [d] => { results := [.lit (.bool false)], args := [d] }
  | _ => none }
def FnExactAreDepotsWrongFalsely : Prop := fnExactAreDepotsRow.holds Try.pinned (OpenSpec.ofChange fnExactAreDepotsWrong)

/-- 'laws.FnSeparations': WHATEVER THE INPUT: true; the input reads as it did. -/
def fnSeparationsSpec : ChangeSpec := { name := "fnSeparations", fn := fun _ => fun
  | [d] => { results := [.lit (.bool true)], args := [d] }
  | _ => none }
def fnSeparationsRow : OpenClaim := { program := "ytmhnkhealidjjaa", sum := "409de76da93ee862d78b9f7e63b4bb839cdac309bfd7e68d388d2dd01d901c2d", func := "loop.example/g01049/laws.FnSeparations", spec := "fnSeparations", apart := false }
def FnSeparationsSaid : Prop := fnSeparationsRow.holds Try.pinned (OpenSpec.ofChange fnSeparationsSpec)

/-- ITS FALSE NEIGHBOUR: 'it returns false'. Refute it at one input. -/
def fnSeparationsWrong : ChangeSpec := { name := "fnSeparations", fn := fun _ => fun
  | [d] => { results := [.lit (.bool false)], args := [d] }
  | _ => none }
def FnSeparationsWrongFalsely : Prop := fnSeparationsRow.holds Try.pinned (OpenSpec.ofChange fnSeparationsWrong)

/-- 'laws.FnExactGramsNear': WHATEVER THE INPUT: true; the input reads as it did. -/
def fnExactGramsNearSpec : ChangeSpec := { name := "fnExactGramsNear", fn := fun _ => fun
  | [d1, d2, d3, d4] => { results := [.lit (.bool true)], args := [d1, d2, d3, d4] }
  | _ => none }
def fnExactGramsNearRow : OpenClaim := { program := "ytmhnkhealidjjaa", sum := "409de76da93ee862d78b9f7e63b4bb839cdac309bfd7e68d388d2dd01d901c2d", func := "loop.example/g01049/laws.FnExactGramsNear", spec := "fnExactGramsNear", apart := false }
def FnExactGramsNearSaid : Prop := fnExactGramsNearRow.holds Try.pinned (OpenSpec.ofChange fnExactGramsNearSpec)

/-- ITS FALSE NEIGHBOUR: 'it returns false'. Refute it at one input. -/
def fnExactGramsNearWrong : ChangeSpec := { name := "fnExactGramsNear", fn := fun _ => fun
  | [d1, d2, d3, d4] => { results := [.lit (.bool false)], args := [d1, d2, d3, d4] }
  | _ => none }
def FnExactGramsNearWrongFalsely : Prop := fnExactGramsNearRow.holds Try.pinned (OpenSpec.ofChange fnExactGramsNearWrong)

/-- 'laws.FnExactNearestDepot': WHATEVER THE INPUT: true; the input reads as it did. -/
def fnExactNearestDepotSpec : ChangeSpec := { name := "fnExactNearestDepot", fn := fun _ => fun
  | [d1, d2, d3] => { results := [.lit (.bool true)], args := [d1, d2, d3] }
  | _ => none }
def fnExactNearestDepotRow : OpenClaim := { program := "ytmhnkhealidjjaa", sum := "409de76da93ee862d78b9f7e63b4bb839cdac309bfd7e68d388d2dd01d901c2d", func := "loop.example/g01049/laws.FnExactNearestDepot", spec := "fnExactNearestDepot", apart := false }
def FnExactNearestDepotSaid : Prop := fnExactNearestDepotRow.holds Try.pinned (OpenSpec.ofChange fnExactNearestDepotSpec)

/-- ITS FALSE NEIGHBOUR: 'it returns false'. Refute it at one input. -/
def fnExactNearestDepotWrong : ChangeSpec := { name := "fnExactNearestDepot", fn := fun _ => fun
  | [d1, d2, d3] => { results := [.lit (.bool false)], args := [d1, d2, d3] }
  | _ => none }
def FnExactNearestDepotWrongFalsely : Prop := fnExactNearestDepotRow.holds Try.pinned (OpenSpec.ofChange fnExactNearestDepotWrong)

/-- 'laws.FnExactMoveGrams': WHATEVER THE INPUT: true; the input reads as it did. -/
def fnExactMoveGramsSpec : ChangeSpec := { name := "fnExactMoveGrams", fn := fun _ => fun
  | [d1, d2, d3, d4] => { results := [.lit (.bool true)], args := [d1, d2, d3, d4] }
  | _ => none }
def fnExactMoveGramsRow : OpenClaim := { program := "ytmhnkhealidjjaa", sum := "409de76da93ee862d78b9f7e63b4bb839cdac309bfd7e68d388d2dd01d901c2d", func := "loop.example/g01049/laws.FnExactMoveGrams", spec := "fnExactMoveGrams", apart := false }
def FnExactMoveGramsSaid : Prop := fnExactMoveGramsRow.holds Try.pinned (OpenSpec.ofChange fnExactMoveGramsSpec)

/-- ITS FALSE NEIGHBOUR: 'it returns false'. Refute it at one input. -/
def fnExactMoveGramsWrong : ChangeSpec := { name := "fnExactMoveGrams", fn := fun _ => fun
  | [d1, d2, d3, d4] => { results := [.lit (.bool false)], args := [d1, d2, d3, d4] }
  | _ => none }
def FnExactMoveGramsWrongFalsely : Prop := fnExactMoveGramsRow.holds Try.pinned (OpenSpec.ofChange fnExactMoveGramsWrong)

/-- 'laws.FnNearDepots': WHATEVER THE INPUT: true; the input reads as it did. -/
def fnNearDepotsSpec : ChangeSpec := { name := "fnNearDepots", fn := fun _ => fun
  | [d] => { results := [.lit (.bool true)], args := [d] }
  | _ => none }
def fnNearDepotsRow : OpenClaim := { program := "ytmhnkhealidjjaa", sum := "409de76da93ee862d78b9f7e63b4bb839cdac309bfd7e68d388d2dd01d901c2d", func := "loop.example/g01049/laws.FnNearDepots", spec := "fnNearDepots", apart := false }
def FnNearDepotsSaid : Prop := fnNearDepotsRow.holds Try.pinned (OpenSpec.ofChange fnNearDepotsSpec)

/-- ITS FALSE NEIGHBOUR: 'it returns false'. Refute it at one input. -/
def fnNearDepotsWrong : ChangeSpec := { name := "fnNearDepots", fn := fun _ => fun
  | [d] => { results := [.lit (.bool false)], args := [d] }
  | _ => none }
def FnNearDepotsWrongFalsely : Prop := fnNearDepotsRow.holds Try.pinned (OpenSpec.ofChange fnNearDepotsWrong)

/-- 'laws.FnExactGreatestFactor': WHATEVER THE INPUT: true; the input reads as it did. -/
def fnExactGreatestFactorSpec : ChangeSpec := { name := "fnExactGreatestFactor", fn := fun _ => fun
  | [d] => { results := [.lit (.bool true)], args := [d] }
  | _ => none }
def fnExactGreatestFactorRow : OpenClaim := { program := "ytmhnkhealidjjaa", sum := "409de76da93ee862d78b9f7e63b4bb839cdac309bfd7e68d388d2dd01d901c2d", func := "loop.example/g01049/laws.FnExactGreatestFactor", spec := "fnExactGreatestFactor", apart := false }
def FnExactGreatestFactorSaid : Prop := fnExactGreatestFactorRow.holds Try.pinned (OpenSpec.ofChange fnExactGreatestFactorSpec)

/-- ITS FALSE NEIGHBOUR: 'it returns false'. Refute it at one input. -/
def fnExactGreatestFactorWrong : ChangeSpec := { name := "fnExactGreatestFactor", fn := fun _ => fun
  | [d] => { results := [.lit (.bool false)], args := [d] }
  | _ => none }
def FnExactGreatestFactorWrongFalsely : Prop := fnExactGreatestFactorRow.holds Try.pinned (OpenSpec.ofChange fnExactGreatestFactorWrong)

/-- 'laws.FnExactLimitOf': WHATEVER THE INPUT: true; the input reads as it did. -/
def fnExactLimitOfSpec : ChangeSpec := { name := "fnExactLimitOf", fn := fun _ => fun
  | [d1, d2, d3] => { results := [.lit (.bool true)], args := [d1, d2, d3] }
  | _ => none }
def fnExactLimitOfRow : OpenClaim := { program := "ytmhnkhealidjjaa", sum := "409de76da93ee862d78b9f7e63b4bb839cdac309bfd7e68d388d2dd01d901c2d", func := "loop.example/g01049/laws.FnExactLimitOf", spec := "fnExactLimitOf", apart := false }
def FnExactLimitOfSaid : Prop := fnExactLimitOfRow.holds Try.pinned (OpenSpec.ofChange fnExactLimitOfSpec)

/-- ITS FALSE NEIGHBOUR: 'it returns false'. Refute it at one input. -/
def fnExactLimitOfWrong : ChangeSpec := { name := "fnExactLimitOf", fn := fun _ => fun
  | [d1, d2, d3] => { results := [.lit (.bool false)], args := [d1, d2, d3] }
  | _ => none }
def FnExactLimitOfWrongFalsely : Prop := fnExactLimitOfRow.holds Try.pinned (OpenSpec.ofChange fnExactLimitOfWrong)

/-- 'laws.FnExactTooClose': WHATEVER THE INPUT: true; the input reads as it did. -/
def fnExactTooCloseSpec : ChangeSpec := { name := "fnExactTooClose", fn := fun _ => fun
  | [d1, d2] => { results := [.lit (.bool true)], args := [d1, d2] }
  | _ => none }
def fnExactTooCloseRow : OpenClaim := { program := "ytmhnkhealidjjaa", sum := "409de76da93ee862d78b9f7e63b4bb839cdac309bfd7e68d388d2dd01d901c2d", func := "loop.example/g01049/laws.FnExactTooClose", spec := "fnExactTooClose", apart := false }
def FnExactTooCloseSaid : Prop := fnExactTooCloseRow.holds Try.pinned (OpenSpec.ofChange fnExactTooCloseSpec)

/-- ITS FALSE NEIGHBOUR: 'it returns false'. Refute it at one input. -/
def fnExactTooCloseWrong : ChangeSpec := { name := "fnExactTooClose", fn := fun _ => fun
  | [d1, d2] => { results := [.lit (.bool false)], args := [d1, d2] }
  | _ => none }
def FnExactTooCloseWrongFalsely : Prop := fnExactTooCloseRow.holds Try.pinned (OpenSpec.ofChange fnExactTooCloseWrong)

/-- 'laws.FnDepots': WHATEVER THE INPUT: true; the input reads as it did. -/
def fnDepotsSpec : ChangeSpec := { name := "fnDepots", fn := fun _ => fun
  | [d] => { results := [.lit (.bool true)], args := [d] }
  | _ => none }
def fnDepotsRow : OpenClaim := { program := "ytmhnkhealidjjaa", sum := "409de76da93ee862d78b9f7e63b4bb839cdac309bfd7e68d388d2dd01d901c2d", func := "loop.example/g01049/laws.FnDepots", spec := "fnDepots", apart := false }
def FnDepotsSaid : Prop := fnDepotsRow.holds Try.pinned (OpenSpec.ofChange fnDepotsSpec)

/-- ITS FALSE NEIGHBOUR: 'it returns false'. Refute it at one input. -/
def fnDepotsWrong : ChangeSpec := { name := "fnDepots", fn := fun _ => fun
  | [d] => { results := [.lit (.bool false)], args := [d] }
  | _ => none }
def FnDepotsWrongFalsely : Prop := fnDepotsRow.holds Try.pinned (OpenSpec.ofChange fnDepotsWrong)

/- THE SECOND FORM. 'bulk': how many values and letters a reading holds, each counted each time it is reached (what is shared counts as often as it is met; a slice's spare places count too). A statement '..UptoSaid' is the law's where the arguments, and the package variables that the reading takes, are together of bulk at most 1048576: NARROWER than '..Said'. Prove '..Said' where nothing that the law and all that it calls make is longer than what came in: it says more and counts as full. Else prove '..UptoSaid'. A law counts once. -/
mutual
def uptoBulk {H : Type} : DataW H → Nat
  | .lit (.string bytes) => bytes.length + 1
  | .lit _ => 1
  | .nil => 1
  | .ptr d => uptoBulk d + 1
  | .slice elems spare => uptoBulkAll elems + uptoBulkAll spare + 1
  | .agg parts => uptoBulkAll parts + 1
  | .iface _ d => uptoBulk d + 1
  | .map entries => uptoBulkEntries entries + 1
  | .held _ => 1
def uptoBulkAll {H : Type} : List (DataW H) → Nat
  | [] => 0
  | d :: r => uptoBulk d + uptoBulkAll r
def uptoBulkEntries {H : Type} : List (Lit × DataW H) → Nat
  | [] => 0
  | x :: r => uptoBulkEntry x + uptoBulkEntries r
def uptoBulkEntry {H : Type} : Lit × DataW H → Nat
  | (.string bytes, d) => bytes.length + uptoBulk d + 1
  | (_, d) => uptoBulk d + 1
 end
def uptoSmall : (H : Type) → List (DataW H) → Bool := fun _ ds => decide (uptoBulkAll ds ≤ 1048576)
def OpenSpec.upto (s : _root_.Go.ChangeSpec) : _root_.Go.OpenSpec := { _root_.Go.OpenSpec.ofChange s with cond := some uptoSmall }

/-- 'laws.FnExactGramsFor', WHERE WHAT IT READS IS OF BULK AT MOST 1048576: true; the input reads as it did. -/
def fnExactGramsForUptoRow : OpenClaim := { program := "ytmhnkhealidjjaa", sum := "409de76da93ee862d78b9f7e63b4bb839cdac309bfd7e68d388d2dd01d901c2d", func := "loop.example/g01049/laws.FnExactGramsFor", spec := "fnExactGramsFor", apart := false, narrowed := true }
def FnExactGramsForUptoSaid : Prop := fnExactGramsForUptoRow.holds Try.pinned (OpenSpec.upto fnExactGramsForSpec)

/-- 'laws.FnExactSeparationFor', WHERE WHAT IT READS IS OF BULK AT MOST 1048576: true; the input reads as it did. -/
def fnExactSeparationForUptoRow : OpenClaim := { program := "ytmhnkhealidjjaa", sum := "409de76da93ee862d78b9f7e63b4bb839cdac309bfd7e68d388d2dd01d901c2d", func := "loop.example/g01049/laws.FnExactSeparationFor", spec := "fnExactSeparationFor", apart := false, narrowed := true }
def FnExactSeparationForUptoSaid : Prop := fnExactSeparationForUptoRow.holds Try.pinned (OpenSpec.upto fnExactSeparationForSpec)

/-- 'laws.FnExactAreDepots', WHERE WHAT IT READS IS OF BULK AT MOST 1048576: true; the input reads as it did. -/
def fnExactAreDepotsUptoRow : OpenClaim := { program := "ytmhnkhealidjjaa", sum := "409de76da93ee862d78b9f7e63b4bb839cdac309bfd7e68d388d2dd01d901c2d", func := "loop.example/g01049/laws.FnExactAreDepots", spec := "fnExactAreDepots", apart := false, narrowed := true }
def FnExactAreDepotsUptoSaid : Prop := fnExactAreDepotsUptoRow.holds Try.pinned (OpenSpec.upto fnExactAreDepotsSpec)

/-- 'laws.FnSeparations', WHERE WHAT IT READS IS OF BULK AT MOST 1048576: true; the input reads as it did. -/
def fnSeparationsUptoRow : OpenClaim := { program := "ytmhnkhealidjjaa", sum := "409de76da93ee862d78b9f7e63b4bb839cdac309bfd7e68d388d2dd01d901c2d", func := "loop.example/g01049/laws.FnSeparations", spec := "fnSeparations", apart := false, narrowed := true }
def FnSeparationsUptoSaid : Prop := fnSeparationsUptoRow.holds Try.pinned (OpenSpec.upto fnSeparationsSpec)

/-- 'laws.FnExactGramsNear', WHERE WHAT IT READS IS OF BULK AT MOST 1048576: true; the input reads as it did. -/
def fnExactGramsNearUptoRow : OpenClaim := { program := "ytmhnkhealidjjaa", sum := "409de76da93ee862d78b9f7e63b4bb839cdac309bfd7e68d388d2dd01d901c2d", func := "loop.example/g01049/laws.FnExactGramsNear", spec := "fnExactGramsNear", apart := false, narrowed := true }
def FnExactGramsNearUptoSaid : Prop := fnExactGramsNearUptoRow.holds Try.pinned (OpenSpec.upto fnExactGramsNearSpec)

/-- 'laws.FnExactNearestDepot', WHERE WHAT IT READS IS OF BULK AT MOST 1048576: true; the input reads as it did. -/
def fnExactNearestDepotUptoRow : OpenClaim := { program := "ytmhnkhealidjjaa", sum := "409de76da93ee862d78b9f7e63b4bb839cdac309bfd7e68d388d2dd01d901c2d", func := "loop.example/g01049/laws.FnExactNearestDepot", spec := "fnExactNearestDepot", apart := false, narrowed := true }
def FnExactNearestDepotUptoSaid : Prop := fnExactNearestDepotUptoRow.holds Try.pinned (OpenSpec.upto fnExactNearestDepotSpec)

/-- 'laws.FnExactMoveGrams', WHERE WHAT IT READS IS OF BULK AT MOST 1048576: true; the input reads as it did. -/
def fnExactMoveGramsUptoRow : OpenClaim := { program := "ytmhnkhealidjjaa", sum := "409de76da93ee862d78b9f7e63b4bb839cdac309bfd7e68d388d2dd01d901c2d", func := "loop.example/g01049/laws.FnExactMoveGrams", spec := "fnExactMoveGrams", apart := false, narrowed := true }
def FnExactMoveGramsUptoSaid : Prop := fnExactMoveGramsUptoRow.holds Try.pinned (OpenSpec.upto fnExactMoveGramsSpec)

/-- 'laws.FnNearDepots', WHERE WHAT IT READS IS OF BULK AT MOST 1048576: true; the input reads as it did. -/
def fnNearDepotsUptoRow : OpenClaim := { program := "ytmhnkhealidjjaa", sum := "409de76da93ee862d78b9f7e63b4bb839cdac309bfd7e68d388d2dd01d901c2d", func := "loop.example/g01049/laws.FnNearDepots", spec := "fnNearDepots", apart := false, narrowed := true }
def FnNearDepotsUptoSaid : Prop := fnNearDepotsUptoRow.holds Try.pinned (OpenSpec.upto fnNearDepotsSpec)

/-- 'laws.FnExactGreatestFactor', WHERE WHAT IT READS IS OF BULK AT MOST 1048576: true; the input reads as it did. -/
def fnExactGreatestFactorUptoRow : OpenClaim := { program := "ytmhnkhealidjjaa", sum := "409de76da93ee862d78b9f7e63b4bb839cdac309bfd7e68d388d2dd01d901c2d", func := "loop.example/g01049/laws.FnExactGreatestFactor", spec := "fnExactGreatestFactor", apart := false, narrowed := true }
def FnExactGreatestFactorUptoSaid : Prop := fnExactGreatestFactorUptoRow.holds Try.pinned (OpenSpec.upto fnExactGreatestFactorSpec)

/-- 'laws.FnExactLimitOf', WHERE WHAT IT READS IS OF BULK AT MOST 1048576: true; the input reads as it did. -/
def fnExactLimitOfUptoRow : OpenClaim := { program := "ytmhnkhealidjjaa", sum := "409de76da93ee862d78b9f7e63b4bb839cdac309bfd7e68d388d2dd01d901c2d", func := "loop.example/g01049/laws.FnExactLimitOf", spec := "fnExactLimitOf", apart := false, narrowed := true }
def FnExactLimitOfUptoSaid : Prop := fnExactLimitOfUptoRow.holds Try.pinned (OpenSpec.upto fnExactLimitOfSpec)

/-- 'laws.FnExactTooClose', WHERE WHAT IT READS IS OF BULK AT MOST 1048576: true; the input reads as it did. -/
def fnExactTooCloseUptoRow : OpenClaim := { program := "ytmhnkhealidjjaa", sum := "409de76da93ee862d78b9f7e63b4bb839cdac309bfd7e68d388d2dd01d901c2d", func := "loop.example/g01049/laws.FnExactTooClose", spec := "fnExactTooClose", apart := false, narrowed := true }
def FnExactTooCloseUptoSaid : Prop := fnExactTooCloseUptoRow.holds Try.pinned (OpenSpec.upto fnExactTooCloseSpec)

/-- 'laws.FnDepots', WHERE WHAT IT READS IS OF BULK AT MOST 1048576: true; the input reads as it did. -/
def fnDepotsUptoRow : OpenClaim := { program := "ytmhnkhealidjjaa", sum := "409de76da93ee862d78b9f7e63b4bb839cdac309bfd7e68d388d2dd01d901c2d", func := "loop.example/g01049/laws.FnDepots", spec := "fnDepots", apart := false, narrowed := true }
def FnDepotsUptoSaid : Prop := fnDepotsUptoRow.holds Try.pinned (OpenSpec.upto fnDepotsSpec)

end Rows
end Go.Proofs.Ytmhnkhealidjjaa
