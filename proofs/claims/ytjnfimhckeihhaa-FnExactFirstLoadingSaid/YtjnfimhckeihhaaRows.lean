/-
  No cell of these rows narrows 'for every input' (looked for: loops, veiled, ifaces, maps, wideKeys, modest, calm, conditions, laid).
  DERIVED. THE GIVEN ROWS OF THIS SEAT. 10 by the template 'for every input the law returns true; each argument reads behind the call as it read before'; 0 by the template 'total and deterministic' (their statements: YtjnfimhckeihhaaTotals.lean).
  GIVEN WITH THE SEED: the statements are not yours to turn. If you find one false, say at which input.
  Laid BY PROGRAM, IN A SANDBOX (cutbox-rows.mjs): the forced cells as the released guide's own fill.sh prints them over the translation 72a8f837441b98f3… (all of the seat's roots in one cut). By AI agents, Wed Nov 11 2026. No macro, syntax, notation, axiom, sorry.
-/
import Derived.Test.YtjnfimhckeihhaaChecked
import GoSem.Claim
import GoSem.ClaimJoined
import GoSem.ClaimMapViews
import Derived.JoinedTies
import Derived.KernelRfl
namespace Go.Proofs.Ytjnfimhckeihhaa
/- THE CELL 'sum', in the pinned program and in every row, IS THE sha256 OF THE DUMP (.gsa) THAT YtjnfimhckeihhaaProg.lean LOADS. Nothing in Lean hashes anything: it is a label: what it is worth is what the hold of that sum in a sandbox is worth. -/
noncomputable def Try.pinned : Pinned := { name := "ytjnfimhckeihhaa", sum := "72a8f837441b98f35f1465176cfffaad1891c4df99fb9f5e73513444b7eb1ebc", checked := Try.checked }
namespace Rows
def none {H : Type} : Left H := { results := [], args := [] }

/-- 'laws.FnExactAreBoxes': WHATEVER THE INPUT: true; the input reads as it did. -/
def fnExactAreBoxesSpec : ChangeSpec := { name := "fnExactAreBoxes", fn := fun _ => fun
  | [d] => { results := [.lit (.bool true)], args := [d] }
  | _ => none }
def fnExactAreBoxesRow : OpenClaim := { program := "ytjnfimhckeihhaa", sum := "72a8f837441b98f35f1465176cfffaad1891c4df99fb9f5e73513444b7eb1ebc", func := "loop.example/g01049/laws.FnExactAreBoxes", spec := "fnExactAreBoxes", apart := false }
def FnExactAreBoxesSaid : Prop := fnExactAreBoxesRow.holds Try.pinned (OpenSpec.ofChange fnExactAreBoxesSpec)

/-- ITS FALSE NEIGHBOUR: 'it returns false'. Refute it at one input. -/
def fnExactAreBoxesWrong : ChangeSpec := { name := "fnExactAreBoxes", fn := fun _ => fun
  | [d] => { results := [.lit (.bool false)], args := [d] }
  | _ => none }
def FnExactAreBoxesWrongFalsely : Prop := fnExactAreBoxesRow.holds Try.pinned (OpenSpec.ofChange fnExactAreBoxesWrong)

/-- 'laws.FnExactCountLoadings': WHATEVER THE INPUT: true; the input reads as it did. -/
def fnExactCountLoadingsSpec : ChangeSpec := { name := "fnExactCountLoadings", fn := fun _ => fun
  | [d1, d2, d3] => { results := [.lit (.bool true)], args := [d1, d2, d3] }
  | _ => none }
def fnExactCountLoadingsRow : OpenClaim := { program := "ytjnfimhckeihhaa", sum := "72a8f837441b98f35f1465176cfffaad1891c4df99fb9f5e73513444b7eb1ebc", func := "loop.example/g01049/laws.FnExactCountLoadings", spec := "fnExactCountLoadings", recurses := true, apart := false }
def FnExactCountLoadingsSaid : Prop := fnExactCountLoadingsRow.holds Try.pinned (OpenSpec.ofChange fnExactCountLoadingsSpec)

/-- ITS FALSE NEIGHBOUR: 'it returns false'. Refute it at one input. -/
def fnExactCountLoadingsWrong : ChangeSpec := { name := "fnExactCountLoadings", fn := fun _ => fun
  | [d1, d2, d3] => { results := [.lit (.bool false)], args := [d1, d2, d3] }
  | _ => none }
def FnExactCountLoadingsWrongFalsely : Prop := fnExactCountLoadingsRow.holds Try.pinned (OpenSpec.ofChange fnExactCountLoadingsWrong)

/-- 'laws.FnExactFewestVehicles': WHATEVER THE INPUT: true; the input reads as it did. -/
def fnExactFewestVehiclesSpec : ChangeSpec := { name := "fnExactFewestVehicles", fn := fun _ => fun
  | [d1, d2] => { results := [.lit (.bool true)], args := [d1, d2] }
  | _ => none }
def fnExactFewestVehiclesRow : OpenClaim := { program := "ytjnfimhckeihhaa", sum := "72a8f837441b98f35f1465176cfffaad1891c4df99fb9f5e73513444b7eb1ebc", func := "loop.example/g01049/laws.FnExactFewestVehicles", spec := "fnExactFewestVehicles", recurses := true, apart := false }
def FnExactFewestVehiclesSaid : Prop := fnExactFewestVehiclesRow.holds Try.pinned (OpenSpec.ofChange fnExactFewestVehiclesSpec)

/-- ITS FALSE NEIGHBOUR: 'it returns false'. Refute it at one input. -/
def fnExactFewestVehiclesWrong : ChangeSpec := { name := "fnExactFewestVehicles", fn := fun _ => fun
  | [d1, d2] => { results := [.lit (.bool false)], args := [d1, d2] }
  | _ => none }
def FnExactFewestVehiclesWrongFalsely : Prop := fnExactFewestVehiclesRow.holds Try.pinned (OpenSpec.ofChange fnExactFewestVehiclesWrong)

/-- 'laws.FnExactIsLoading': WHATEVER THE INPUT: true; the input reads as it did. -/
def fnExactIsLoadingSpec : ChangeSpec := { name := "fnExactIsLoading", fn := fun _ => fun
  | [d1, d2, d3] => { results := [.lit (.bool true)], args := [d1, d2, d3] }
  | _ => none }
def fnExactIsLoadingRow : OpenClaim := { program := "ytjnfimhckeihhaa", sum := "72a8f837441b98f35f1465176cfffaad1891c4df99fb9f5e73513444b7eb1ebc", func := "loop.example/g01049/laws.FnExactIsLoading", spec := "fnExactIsLoading", apart := false }
def FnExactIsLoadingSaid : Prop := fnExactIsLoadingRow.holds Try.pinned (OpenSpec.ofChange fnExactIsLoadingSpec)

/-- ITS FALSE NEIGHBOUR: 'it returns false'. Refute it at one input. -/
def fnExactIsLoadingWrong : ChangeSpec := { name := "fnExactIsLoading", fn := fun _ => fun
  | [d1, d2, d3] => { results := [.lit (.bool false)], args := [d1, d2, d3] }
  | _ => none }
def FnExactIsLoadingWrongFalsely : Prop := fnExactIsLoadingRow.holds Try.pinned (OpenSpec.ofChange fnExactIsLoadingWrong)

/-- 'laws.FnExactLeastLimit': WHATEVER THE INPUT: true; the input reads as it did. -/
def fnExactLeastLimitSpec : ChangeSpec := { name := "fnExactLeastLimit", fn := fun _ => fun
  | [d1, d2] => { results := [.lit (.bool true)], args := [d1, d2] }
  | _ => none }
def fnExactLeastLimitRow : OpenClaim := { program := "ytjnfimhckeihhaa", sum := "72a8f837441b98f35f1465176cfffaad1891c4df99fb9f5e73513444b7eb1ebc", func := "loop.example/g01049/laws.FnExactLeastLimit", spec := "fnExactLeastLimit", recurses := true, apart := false }
def FnExactLeastLimitSaid : Prop := fnExactLeastLimitRow.holds Try.pinned (OpenSpec.ofChange fnExactLeastLimitSpec)

/-- ITS FALSE NEIGHBOUR: 'it returns false'. Refute it at one input. -/
def fnExactLeastLimitWrong : ChangeSpec := { name := "fnExactLeastLimit", fn := fun _ => fun
  | [d1, d2] => { results := [.lit (.bool false)], args := [d1, d2] }
  | _ => none }
def FnExactLeastLimitWrongFalsely : Prop := fnExactLeastLimitRow.holds Try.pinned (OpenSpec.ofChange fnExactLeastLimitWrong)

/-- 'laws.FnExactLeastPeak': WHATEVER THE INPUT: true; the input reads as it did. -/
def fnExactLeastPeakSpec : ChangeSpec := { name := "fnExactLeastPeak", fn := fun _ => fun
  | [d1, d2, d3] => { results := [.lit (.bool true)], args := [d1, d2, d3] }
  | _ => none }
def fnExactLeastPeakRow : OpenClaim := { program := "ytjnfimhckeihhaa", sum := "72a8f837441b98f35f1465176cfffaad1891c4df99fb9f5e73513444b7eb1ebc", func := "loop.example/g01049/laws.FnExactLeastPeak", spec := "fnExactLeastPeak", recurses := true, apart := false }
def FnExactLeastPeakSaid : Prop := fnExactLeastPeakRow.holds Try.pinned (OpenSpec.ofChange fnExactLeastPeakSpec)

/-- ITS FALSE NEIGHBOUR: 'it returns false'. Refute it at one input. -/
def fnExactLeastPeakWrong : ChangeSpec := { name := "fnExactLeastPeak", fn := fun _ => fun
  | [d1, d2, d3] => { results := [.lit (.bool false)], args := [d1, d2, d3] }
  | _ => none }
def FnExactLeastPeakWrongFalsely : Prop := fnExactLeastPeakRow.holds Try.pinned (OpenSpec.ofChange fnExactLeastPeakWrong)

/-- 'laws.FnExactPeakOf': WHATEVER THE INPUT: true; the input reads as it did. -/
def fnExactPeakOfSpec : ChangeSpec := { name := "fnExactPeakOf", fn := fun _ => fun
  | [d1, d2, d3] => { results := [.lit (.bool true)], args := [d1, d2, d3] }
  | _ => none }
def fnExactPeakOfRow : OpenClaim := { program := "ytjnfimhckeihhaa", sum := "72a8f837441b98f35f1465176cfffaad1891c4df99fb9f5e73513444b7eb1ebc", func := "loop.example/g01049/laws.FnExactPeakOf", spec := "fnExactPeakOf", apart := false }
def FnExactPeakOfSaid : Prop := fnExactPeakOfRow.holds Try.pinned (OpenSpec.ofChange fnExactPeakOfSpec)

/-- ITS FALSE NEIGHBOUR: 'it returns false'. Refute it at one input. -/
def fnExactPeakOfWrong : ChangeSpec := { name := "fnExactPeakOf", fn := fun _ => fun
  | [d1, d2, d3] => { results := [.lit (.bool false)], args := [d1, d2, d3] }
  | _ => none }
def FnExactPeakOfWrongFalsely : Prop := fnExactPeakOfRow.holds Try.pinned (OpenSpec.ofChange fnExactPeakOfWrong)

/-- 'laws.FnExactFirstLoading': WHATEVER THE INPUT: true; the input reads as it did. -/
def fnExactFirstLoadingSpec : ChangeSpec := { name := "fnExactFirstLoading", fn := fun _ => fun
  | [d1, d2] => { results := [.lit (.bool true)], args := [d1, d2] }
  | _ => none }
def fnExactFirstLoadingRow : OpenClaim := { program := "ytjnfimhckeihhaa", sum := "72a8f837441b98f35f1465176cfffaad1891c4df99fb9f5e73513444b7eb1ebc", func := "loop.example/g01049/laws.FnExactFirstLoading", spec := "fnExactFirstLoading", recurses := true, apart := false }
def FnExactFirstLoadingSaid : Prop := fnExactFirstLoadingRow.holds Try.pinned (OpenSpec.ofChange fnExactFirstLoadingSpec)

/-- ITS FALSE NEIGHBOUR: 'it returns false'. Refute it at one input. -/
def fnExactFirstLoadingWrong : ChangeSpec := { name := "fnExactFirstLoading", fn := fun _ => fun
  | [d1, d2] => { results := [.lit (.bool false)], args := [d1, d2] }
  | _ => none }
def FnExactFirstLoadingWrongFalsely : Prop := fnExactFirstLoadingRow.holds Try.pinned (OpenSpec.ofChange fnExactFirstLoadingWrong)

/-- 'laws.FnLoadings': WHATEVER THE INPUT: true; the input reads as it did. -/
def fnLoadingsSpec : ChangeSpec := { name := "fnLoadings", fn := fun _ => fun
  | [d] => { results := [.lit (.bool true)], args := [d] }
  | _ => none }
def fnLoadingsRow : OpenClaim := { program := "ytjnfimhckeihhaa", sum := "72a8f837441b98f35f1465176cfffaad1891c4df99fb9f5e73513444b7eb1ebc", func := "loop.example/g01049/laws.FnLoadings", spec := "fnLoadings", recurses := true, apart := false }
def FnLoadingsSaid : Prop := fnLoadingsRow.holds Try.pinned (OpenSpec.ofChange fnLoadingsSpec)

/-- ITS FALSE NEIGHBOUR: 'it returns false'. Refute it at one input. -/
def fnLoadingsWrong : ChangeSpec := { name := "fnLoadings", fn := fun _ => fun
  | [d] => { results := [.lit (.bool false)], args := [d] }
  | _ => none }
def FnLoadingsWrongFalsely : Prop := fnLoadingsRow.holds Try.pinned (OpenSpec.ofChange fnLoadingsWrong)

/-- 'laws.FnPeaks': WHATEVER THE INPUT: true; the input reads as it did. -/
def fnPeaksSpec : ChangeSpec := { name := "fnPeaks", fn := fun _ => fun
  | [d] => { results := [.lit (.bool true)], args := [d] }
  | _ => none }
def fnPeaksRow : OpenClaim := { program := "ytjnfimhckeihhaa", sum := "72a8f837441b98f35f1465176cfffaad1891c4df99fb9f5e73513444b7eb1ebc", func := "loop.example/g01049/laws.FnPeaks", spec := "fnPeaks", recurses := true, apart := false }
def FnPeaksSaid : Prop := fnPeaksRow.holds Try.pinned (OpenSpec.ofChange fnPeaksSpec)

/-- ITS FALSE NEIGHBOUR: 'it returns false'. Refute it at one input. -/
def fnPeaksWrong : ChangeSpec := { name := "fnPeaks", fn := fun _ => fun
  | [d] => { results := [.lit (.bool false)], args := [d] }
  | _ => none }
def FnPeaksWrongFalsely : Prop := fnPeaksRow.holds Try.pinned (OpenSpec.ofChange fnPeaksWrong)

/- THE SECOND FORM. 'bulk': how many values and letters a reading holds, each counted each time it is reached (what is shared counts as often as it is met; a slice's spare places count too). A statement '..UptoSaid' is the law's where the arguments, and the package variables that the reading takes, are together of bulk at most 1048576: NARROWER than '..Said'. Prove '..Said' where nothing that the law and all that it calls make is longer than what came in: it says more and counts as full. Else prove '..UptoSaid'. A law counts once. -/
mutual
def uptoBulk {H : Type} : DataW H → Nat
  | .lit (.string bytes) => bytes.length + 1
  | .lit _ => 1
  | .nil => 1
  | .ptr d => uptoBulk d + 1
  | .slice elems spare => uptoBulkAll elems + uptoBulkAll spare + 1
  | .agg parts => uptoBulkAll parts + 1
  | .iface _ d => uptoBulk d + 1
  | .map entries => uptoBulkEntries entries + 1
  | .held _ => 1
def uptoBulkAll {H : Type} : List (DataW H) → Nat
  | [] => 0
  | d :: r => uptoBulk d + uptoBulkAll r
def uptoBulkEntries {H : Type} : List (Lit × DataW H) → Nat
  | [] => 0
  | x :: r => uptoBulkEntry x + uptoBulkEntries r
def uptoBulkEntry {H : Type} : Lit × DataW H → Nat
  | (.string bytes, d) => bytes.length + uptoBulk d + 1
  | (_, d) => uptoBulk d + 1
 end
def uptoSmall : (H : Type) → List (DataW H) → Bool := fun _ ds => decide (uptoBulkAll ds ≤ 1048576)
def OpenSpec.upto (s : _root_.Go.ChangeSpec) : _root_.Go.OpenSpec := { _root_.Go.OpenSpec.ofChange s with cond := some uptoSmall }

/-- 'laws.FnExactAreBoxes', WHERE WHAT IT READS IS OF BULK AT MOST 1048576: true; the input reads as it did. -/
def fnExactAreBoxesUptoRow : OpenClaim := { program := "ytjnfimhckeihhaa", sum := "72a8f837441b98f35f1465176cfffaad1891c4df99fb9f5e73513444b7eb1ebc", func := "loop.example/g01049/laws.FnExactAreBoxes", spec := "fnExactAreBoxes", apart := false, narrowed := true }
def FnExactAreBoxesUptoSaid : Prop := fnExactAreBoxesUptoRow.holds Try.pinned (OpenSpec.upto fnExactAreBoxesSpec)

/-- 'laws.FnExactCountLoadings', WHERE WHAT IT READS IS OF BULK AT MOST 1048576: true; the input reads as it did. -/
def fnExactCountLoadingsUptoRow : OpenClaim := { program := "ytjnfimhckeihhaa", sum := "72a8f837441b98f35f1465176cfffaad1891c4df99fb9f5e73513444b7eb1ebc", func := "loop.example/g01049/laws.FnExactCountLoadings", spec := "fnExactCountLoadings", recurses := true, apart := false, narrowed := true }
def FnExactCountLoadingsUptoSaid : Prop := fnExactCountLoadingsUptoRow.holds Try.pinned (OpenSpec.upto fnExactCountLoadingsSpec)

/-- 'laws.FnExactFewestVehicles', WHERE WHAT IT READS IS OF BULK AT MOST 1048576: true; the input reads as it did. -/
def fnExactFewestVehiclesUptoRow : OpenClaim := { program := "ytjnfimhckeihhaa", sum := "72a8f837441b98f35f1465176cfffaad1891c4df99fb9f5e73513444b7eb1ebc", func := "loop.example/g01049/laws.FnExactFewestVehicles", spec := "fnExactFewestVehicles", recurses := true, apart := false, narrowed := true }
def FnExactFewestVehiclesUptoSaid : Prop := fnExactFewestVehiclesUptoRow.holds Try.pinned (OpenSpec.upto fnExactFewestVehiclesSpec)

/-- 'laws.FnExactIsLoading', WHERE WHAT IT READS IS OF BULK AT MOST 1048576: true; the input reads as it did. -/
def fnExactIsLoadingUptoRow : OpenClaim := { program := "ytjnfimhckeihhaa", sum := "72a8f837441b98f35f1465176cfffaad1891c4df99fb9f5e73513444b7eb1ebc", func := "loop.example/g01049/laws.FnExactIsLoading", spec := "fnExactIsLoading", apart := false, narrowed := true }
def FnExactIsLoadingUptoSaid : Prop := fnExactIsLoadingUptoRow.holds Try.pinned (OpenSpec.upto fnExactIsLoadingSpec)

/-- 'laws.FnExactLeastLimit', WHERE WHAT IT READS IS OF BULK AT MOST 1048576: true; the input reads as it did. -/
def fnExactLeastLimitUptoRow : OpenClaim := { program := "ytjnfimhckeihhaa", sum := "72a8f837441b98f35f1465176cfffaad1891c4df99fb9f5e73513444b7eb1ebc", func := "loop.example/g01049/laws.FnExactLeastLimit", spec := "fnExactLeastLimit", recurses := true, apart := false, narrowed := true }
def FnExactLeastLimitUptoSaid : Prop := fnExactLeastLimitUptoRow.holds Try.pinned (OpenSpec.upto fnExactLeastLimitSpec)

/-- 'laws.FnExactLeastPeak', WHERE WHAT IT READS IS OF BULK AT MOST 1048576: true; the input reads as it did. -/
def fnExactLeastPeakUptoRow : OpenClaim := { program := "ytjnfimhckeihhaa", sum := "72a8f837441b98f35f1465176cfffaad1891c4df99fb9f5e73513444b7eb1ebc", func := "loop.example/g01049/laws.FnExactLeastPeak", spec := "fnExactLeastPeak", recurses := true, apart := false, narrowed := true }
def FnExactLeastPeakUptoSaid : Prop := fnExactLeastPeakUptoRow.holds Try.pinned (OpenSpec.upto fnExactLeastPeakSpec)

/-- 'laws.FnExactPeakOf', WHERE WHAT IT READS IS OF BULK AT MOST 1048576: true; the input reads as it did. -/
def fnExactPeakOfUptoRow : OpenClaim := { program := "ytjnfimhckeihhaa", sum := "72a8f837441b98f35f1465176cfffaad1891c4df99fb9f5e73513444b7eb1ebc", func := "loop.example/g01049/laws.FnExactPeakOf", spec := "fnExactPeakOf", apart := false, narrowed := true }
def FnExactPeakOfUptoSaid : Prop := fnExactPeakOfUptoRow.holds Try.pinned (OpenSpec.upto fnExactPeakOfSpec)

/-- 'laws.FnExactFirstLoading', WHERE WHAT IT READS IS OF BULK AT MOST 1048576: true; the input reads as it did. -/
def fnExactFirstLoadingUptoRow : OpenClaim := { program := "ytjnfimhckeihhaa", sum := "72a8f837441b98f35f1465176cfffaad1891c4df99fb9f5e73513444b7eb1ebc", func := "loop.example/g01049/laws.FnExactFirstLoading", spec := "fnExactFirstLoading", recurses := true, apart := false, narrowed := true }
def FnExactFirstLoadingUptoSaid : Prop := fnExactFirstLoadingUptoRow.holds Try.pinned (OpenSpec.upto fnExactFirstLoadingSpec)

/-- 'laws.FnLoadings', WHERE WHAT IT READS IS OF BULK AT MOST 1048576: true; the input reads as it did. -/
def fnLoadingsUptoRow : OpenClaim := { program := "ytjnfimhckeihhaa", sum := "72a8f837441b98f35f1465176cfffaad1891c4df99fb9f5e73513444b7eb1ebc", func := "loop.example/g01049/laws.FnLoadings", spec := "fnLoadings", recurses := true, apart := false, narrowed := true }
def FnLoadingsUptoSaid : Prop := fnLoadingsUptoRow.holds Try.pinned (OpenSpec.upto fnLoadingsSpec)

/-- 'laws.FnPeaks', WHERE WHAT IT READS IS OF BULK AT MOST 1048576: true; the input reads as it did. -/
def fnPeaksUptoRow : OpenClaim := { program := "ytjnfimhckeihhaa", sum := "72a8f837441b98f35f1465176cfffaad1891c4df99fb9f5e73513444b7eb1ebc", func := "loop.example/g01049/laws.FnPeaks", spec := "fnPeaks", recurses := true, apart := false, narrowed := true }
def FnPeaksUptoSaid : Prop := fnPeaksUptoRow.holds Try.pinned (OpenSpec.upto fnPeaksSpec)

end Rows
end Go.Proofs.Ytjnfimhckeihhaa
