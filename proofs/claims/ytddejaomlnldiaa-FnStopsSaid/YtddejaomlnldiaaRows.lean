/-
  No cell of these rows narrows 'for every input' (looked for: loops, veiled, ifaces, maps, wideKeys, modest, calm, conditions, laid).
  DERIVED. THE GIVEN ROWS OF THIS SEAT. 8 by the template 'for every input the law returns true; each argument reads behind the call as it read before'; 0 by the template 'total and deterministic' (their statements: YtddejaomlnldiaaTotals.lean).
  GIVEN WITH THE SEED: the statements are not yours to turn. If you find one false, say at which input.
  Laid BY PROGRAM, IN A SANDBOX (cutbox-rows.mjs): the forced cells as the released guide's own fill.sh prints them over the translation 8ae9083f6aa4cc54… (all of the seat's roots in one cut). By AI agents, Wed Nov 11 2026. No macro, syntax, notation, axiom, sorry.
-/
import Derived.Test.YtddejaomlnldiaaChecked
import GoSem.Claim
import GoSem.ClaimJoined
import GoSem.ClaimMapViews
import Derived.JoinedTies
import Derived.KernelRfl
namespace Go.Proofs.Ytddejaomlnldiaa
/- THE CELL 'sum', in the pinned program and in every row, IS THE sha256 OF THE DUMP (.gsa) THAT YtddejaomlnldiaaProg.lean LOADS. Nothing in Lean hashes anything: it is a label: what it is worth is what the hold of that sum in a sandbox is worth. -/
noncomputable def Try.pinned : Pinned := { name := "ytddejaomlnldiaa", sum := "8ae9083f6aa4cc54e10f6c7c3c8aacce2686bdec35f8d51d4c62aab38258a78e", checked := Try.checked }
namespace Rows
def none {H : Type} : Left H := { results := [], args := [] }

/-- 'laws.FnExactLastStop': WHATEVER THE INPUT: true; the input reads as it did. -/
def fnExactLastStopSpec : ChangeSpec := { name := "fnExactLastStop", fn := fun _ => fun
  | [d1, d2, d3] => { results := [.lit (.bool true)], args := [d1, d2, d3] }
  | _ => none }
def fnExactLastStopRow : OpenClaim := { program := "ytddejaomlnldiaa", sum := "8ae9083f6aa4cc54e10f6c7c3c8aacce2686bdec35f8d51d4c62aab38258a78e", func := "loop.example/g01049/laws.FnExactLastStop", spec := "fnExactLastStop", apart := false }
def FnExactLastStopSaid : Prop := fnExactLastStopRow.holds Try.pinned (OpenSpec.ofChange fnExactLastStopSpec)

/-- ITS FALSE NEIGHBOUR: 'it returns false'. Refute it at one input. -/
def fnExactLastStopWrong : ChangeSpec := { name := "fnExactLastStop", fn := fun _ => fun
  | [d1, d2, d3] => { results := [.lit (.bool false)], args := [d1, d2, d3] }
  | _ => none }
def FnExactLastStopWrongFalsely : Prop := fnExactLastStopRow.holds Try.pinned (OpenSpec.ofChange fnExactLastStopWrong)

/-- 'laws.FnExactGreatestHop': WHATEVER THE INPUT: true; the input reads as it did. -/
def fnExactGreatestHopSpec : ChangeSpec := { name := "fnExactGreatestHop", fn := fun _ => fun
  | [d1, d2] => { results := [.lit (.bool true)], args := [d1, d2] }
  | _ => none }
def fnExactGreatestHopRow : OpenClaim := { program := "ytddejaomlnldiaa", sum := "8ae9083f6aa4cc54e10f6c7c3c8aacce2686bdec35f8d51d4c62aab38258a78e", func := "loop.example/g01049/laws.FnExactGreatestHop", spec := "fnExactGreatestHop", apart := false }
def FnExactGreatestHopSaid : Prop := fnExactGreatestHopRow.holds Try.pinned (OpenSpec.ofChange fnExactGreatestHopSpec)

/-- ITS FALSE NEIGHBOUR: 'it returns false'. Refute it at one input. -/
def fnExactGreatestHopWrong : ChangeSpec := { name := "fnExactGreatestHop", fn := fun _ => fun
  | [d1, d2] => { results := [.lit (.bool false)], args := [d1, d2] }
  | _ => none }
def FnExactGreatestHopWrongFalsely : Prop := fnExactGreatestHopRow.holds Try.pinned (OpenSpec.ofChange fnExactGreatestHopWrong)

/-- 'laws.FnExactStoppedModules': WHATEVER THE INPUT: true; the input reads as it did. -/
def fnExactStoppedModulesSpec : ChangeSpec := { name := "fnExactStoppedModules", fn := fun _ => fun
  | [d1, d2, d3, d4] => { results := [.lit (.bool true)], args := [d1, d2, d3, d4] }
  | _ => none }
def fnExactStoppedModulesRow : OpenClaim := { program := "ytddejaomlnldiaa", sum := "8ae9083f6aa4cc54e10f6c7c3c8aacce2686bdec35f8d51d4c62aab38258a78e", func := "loop.example/g01049/laws.FnExactStoppedModules", spec := "fnExactStoppedModules", apart := false }
def FnExactStoppedModulesSaid : Prop := fnExactStoppedModulesRow.holds Try.pinned (OpenSpec.ofChange fnExactStoppedModulesSpec)

/-- ITS FALSE NEIGHBOUR: 'it returns false'. Refute it at one input. -/
def fnExactStoppedModulesWrong : ChangeSpec := { name := "fnExactStoppedModules", fn := fun _ => fun
  | [d1, d2, d3, d4] => { results := [.lit (.bool false)], args := [d1, d2, d3, d4] }
  | _ => none }
def FnExactStoppedModulesWrongFalsely : Prop := fnExactStoppedModulesRow.holds Try.pinned (OpenSpec.ofChange fnExactStoppedModulesWrong)

/-- 'laws.FnHops': WHATEVER THE INPUT: true; the input reads as it did. -/
def fnHopsSpec : ChangeSpec := { name := "fnHops", fn := fun _ => fun
  | [d] => { results := [.lit (.bool true)], args := [d] }
  | _ => none }
def fnHopsRow : OpenClaim := { program := "ytddejaomlnldiaa", sum := "8ae9083f6aa4cc54e10f6c7c3c8aacce2686bdec35f8d51d4c62aab38258a78e", func := "loop.example/g01049/laws.FnHops", spec := "fnHops", apart := false }
def FnHopsSaid : Prop := fnHopsRow.holds Try.pinned (OpenSpec.ofChange fnHopsSpec)

/-- ITS FALSE NEIGHBOUR: 'it returns false'. Refute it at one input. -/
def fnHopsWrong : ChangeSpec := { name := "fnHops", fn := fun _ => fun
  | [d] => { results := [.lit (.bool false)], args := [d] }
  | _ => none }
def FnHopsWrongFalsely : Prop := fnHopsRow.holds Try.pinned (OpenSpec.ofChange fnHopsWrong)

/-- 'laws.FnExactLateCues': WHATEVER THE INPUT: true; the input reads as it did. -/
def fnExactLateCuesSpec : ChangeSpec := { name := "fnExactLateCues", fn := fun _ => fun
  | [d1, d2, d3, d4, d5, d6] => { results := [.lit (.bool true)], args := [d1, d2, d3, d4, d5, d6] }
  | _ => none }
def fnExactLateCuesRow : OpenClaim := { program := "ytddejaomlnldiaa", sum := "8ae9083f6aa4cc54e10f6c7c3c8aacce2686bdec35f8d51d4c62aab38258a78e", func := "loop.example/g01049/laws.FnExactLateCues", spec := "fnExactLateCues", apart := false }
def FnExactLateCuesSaid : Prop := fnExactLateCuesRow.holds Try.pinned (OpenSpec.ofChange fnExactLateCuesSpec)

/-- ITS FALSE NEIGHBOUR: 'it returns false'. Refute it at one input. -/
def fnExactLateCuesWrong : ChangeSpec := { name := "fnExactLateCues", fn := fun _ => fun
  | [d1, d2, d3, d4, d5, d6] => { results := [.lit (.bool false)], args := [d1, d2, d3, d4, d5, d6] }
  | _ => none }
def FnExactLateCuesWrongFalsely : Prop := fnExactLateCuesRow.holds Try.pinned (OpenSpec.ofChange fnExactLateCuesWrong)

/-- 'laws.FnExactStoppedCues': WHATEVER THE INPUT: true; the input reads as it did. -/
def fnExactStoppedCuesSpec : ChangeSpec := { name := "fnExactStoppedCues", fn := fun _ => fun
  | [d1, d2, d3, d4, d5, d6] => { results := [.lit (.bool true)], args := [d1, d2, d3, d4, d5, d6] }
  | _ => none }
def fnExactStoppedCuesRow : OpenClaim := { program := "ytddejaomlnldiaa", sum := "8ae9083f6aa4cc54e10f6c7c3c8aacce2686bdec35f8d51d4c62aab38258a78e", func := "loop.example/g01049/laws.FnExactStoppedCues", spec := "fnExactStoppedCues", apart := false }
def FnExactStoppedCuesSaid : Prop := fnExactStoppedCuesRow.holds Try.pinned (OpenSpec.ofChange fnExactStoppedCuesSpec)

/-- ITS FALSE NEIGHBOUR: 'it returns false'. Refute it at one input. -/
def fnExactStoppedCuesWrong : ChangeSpec := { name := "fnExactStoppedCues", fn := fun _ => fun
  | [d1, d2, d3, d4, d5, d6] => { results := [.lit (.bool false)], args := [d1, d2, d3, d4, d5, d6] }
  | _ => none }
def FnExactStoppedCuesWrongFalsely : Prop := fnExactStoppedCuesRow.holds Try.pinned (OpenSpec.ofChange fnExactStoppedCuesWrong)

/-- 'laws.FnStops': WHATEVER THE INPUT: true; the input reads as it did. -/
def fnStopsSpec : ChangeSpec := { name := "fnStops", fn := fun _ => fun
  | [d] => { results := [.lit (.bool true)], args := [d] }
  | _ => none }
def fnStopsRow : OpenClaim := { program := "ytddejaomlnldiaa", sum := "8ae9083f6aa4cc54e10f6c7c3c8aacce2686bdec35f8d51d4c62aab38258a78e", func := "loop.example/g01049/laws.FnStops", spec := "fnStops", apart := false }
def FnStopsSaid : Prop := fnStopsRow.holds Try.pinned (OpenSpec.ofChange fnStopsSpec)

/-- ITS FALSE NEIGHBOUR: 'it returns false'. Refute it at one input. -/
def fnStopsWrong : ChangeSpec := { name := "fnStops", fn := fun _ => fun
  | [d] => { results := [.lit (.bool false)], args := [d] }
  | _ => none }
def FnStopsWrongFalsely : Prop := fnStopsRow.holds Try.pinned (OpenSpec.ofChange fnStopsWrong)

/-- 'laws.FnExactWithoutLateCues': WHATEVER THE INPUT: true; the input reads as it did. -/
def fnExactWithoutLateCuesSpec : ChangeSpec := { name := "fnExactWithoutLateCues", fn := fun _ => fun
  | [d1, d2, d3, d4, d5, d6] => { results := [.lit (.bool true)], args := [d1, d2, d3, d4, d5, d6] }
  | _ => none }
def fnExactWithoutLateCuesRow : OpenClaim := { program := "ytddejaomlnldiaa", sum := "8ae9083f6aa4cc54e10f6c7c3c8aacce2686bdec35f8d51d4c62aab38258a78e", func := "loop.example/g01049/laws.FnExactWithoutLateCues", spec := "fnExactWithoutLateCues", apart := false }
def FnExactWithoutLateCuesSaid : Prop := fnExactWithoutLateCuesRow.holds Try.pinned (OpenSpec.ofChange fnExactWithoutLateCuesSpec)

/-- ITS FALSE NEIGHBOUR: 'it returns false'. Refute it at one input. -/
def fnExactWithoutLateCuesWrong : ChangeSpec := { name := "fnExactWithoutLateCues", fn := fun _ => fun
  | [d1, d2, d3, d4, d5, d6] => { results := [.lit (.bool false)], args := [d1, d2, d3, d4, d5, d6] }
  | _ => none }
def FnExactWithoutLateCuesWrongFalsely : Prop := fnExactWithoutLateCuesRow.holds Try.pinned (OpenSpec.ofChange fnExactWithoutLateCuesWrong)

/- THE SECOND FORM. 'bulk': how many values and letters a reading holds, each counted each time it is reached (what is shared counts as often as it is met; a slice's spare places count too). A statement '..UptoSaid' is the law's where the arguments, and the package variables that the reading takes, are together of bulk at most 1048576: NARROWER than '..Said'. Prove '..Said' where nothing that the law and all that it calls make is longer than what came in: it says more and counts as full. Else prove '..UptoSaid'. A law counts once. -/
mutual
def uptoBulk {H : Type} : DataW H → Nat
  | .lit (.string bytes) => bytes.length + 1
  | .lit _ => 1
  | .nil => 1
  | .ptr d => uptoBulk d + 1
  | .slice elems spare => uptoBulkAll elems + uptoBulkAll spare + 1
  | .agg parts => uptoBulkAll parts + 1
  | .iface _ d => uptoBulk d + 1
  | .map entries => uptoBulkEntries entries + 1
  | .held _ => 1
def uptoBulkAll {H : Type} : List (DataW H) → Nat
  | [] => 0
  | d :: r => uptoBulk d + uptoBulkAll r
def uptoBulkEntries {H : Type} : List (Lit × DataW H) → Nat
  | [] => 0
  | x :: r => uptoBulkEntry x + uptoBulkEntries r
def uptoBulkEntry {H : Type} : Lit × DataW H → Nat
  | (.string bytes, d) => bytes.length + uptoBulk d + 1
  | (_, d) => uptoBulk d + 1
 end
def uptoSmall : (H : Type) → List (DataW H) → Bool := fun _ ds => decide (uptoBulkAll ds ≤ 1048576)
def OpenSpec.upto (s : _root_.Go.ChangeSpec) : _root_.Go.OpenSpec := { _root_.Go.OpenSpec.ofChange s with cond := some uptoSmall }

/-- 'laws.FnExactLastStop', WHERE WHAT IT READS IS OF BULK AT MOST 1048576: true; the input reads as it did. -/
def fnExactLastStopUptoRow : OpenClaim := { program := "ytddejaomlnldiaa", sum := "8ae9083f6aa4cc54e10f6c7c3c8aacce2686bdec35f8d51d4c62aab38258a78e", func := "loop.example/g01049/laws.FnExactLastStop", spec := "fnExactLastStop", apart := false, narrowed := true }
def FnExactLastStopUptoSaid : Prop := fnExactLastStopUptoRow.holds Try.pinned (OpenSpec.upto fnExactLastStopSpec)

/-- 'laws.FnExactGreatestHop', WHERE WHAT IT READS IS OF BULK AT MOST 1048576: true; the input reads as it did. -/
def fnExactGreatestHopUptoRow : OpenClaim := { program := "ytddejaomlnldiaa", sum := "8ae9083f6aa4cc54e10f6c7c3c8aacce2686bdec35f8d51d4c62aab38258a78e", func := "loop.example/g01049/laws.FnExactGreatestHop", spec := "fnExactGreatestHop", apart := false, narrowed := true }
def FnExactGreatestHopUptoSaid : Prop := fnExactGreatestHopUptoRow.holds Try.pinned (OpenSpec.upto fnExactGreatestHopSpec)

/-- 'laws.FnExactStoppedModules', WHERE WHAT IT READS IS OF BULK AT MOST 1048576: true; the input reads as it did. -/
def fnExactStoppedModulesUptoRow : OpenClaim := { program := "ytddejaomlnldiaa", sum := "8ae9083f6aa4cc54e10f6c7c3c8aacce2686bdec35f8d51d4c62aab38258a78e", func := "loop.example/g01049/laws.FnExactStoppedModules", spec := "fnExactStoppedModules", apart := false, narrowed := true }
def FnExactStoppedModulesUptoSaid : Prop := fnExactStoppedModulesUptoRow.holds Try.pinned (OpenSpec.upto fnExactStoppedModulesSpec)

/-- 'laws.FnHops', WHERE WHAT IT READS IS OF BULK AT MOST 1048576: true; the input reads as it did. -/
def fnHopsUptoRow : OpenClaim := { program := "ytddejaomlnldiaa", sum := "8ae9083f6aa4cc54e10f6c7c3c8aacce2686bdec35f8d51d4c62aab38258a78e", func := "loop.example/g01049/laws.FnHops", spec := "fnHops", apart := false, narrowed := true }
def FnHopsUptoSaid : Prop := fnHopsUptoRow.holds Try.pinned (OpenSpec.upto fnHopsSpec)

/-- 'laws.FnExactLateCues', WHERE WHAT IT READS IS OF BULK AT MOST 1048576: true; the input reads as it did. -/
def fnExactLateCuesUptoRow : OpenClaim := { program := "ytddejaomlnldiaa", sum := "8ae9083f6aa4cc54e10f6c7c3c8aacce2686bdec35f8d51d4c62aab38258a78e", func := "loop.example/g01049/laws.FnExactLateCues", spec := "fnExactLateCues", apart := false, narrowed := true }
def FnExactLateCuesUptoSaid : Prop := fnExactLateCuesUptoRow.holds Try.pinned (OpenSpec.upto fnExactLateCuesSpec)

/-- 'laws.FnExactStoppedCues', WHERE WHAT IT READS IS OF BULK AT MOST 1048576: true; the input reads as it did. -/
def fnExactStoppedCuesUptoRow : OpenClaim := { program := "ytddejaomlnldiaa", sum := "8ae9083f6aa4cc54e10f6c7c3c8aacce2686bdec35f8d51d4c62aab38258a78e", func := "loop.example/g01049/laws.FnExactStoppedCues", spec := "fnExactStoppedCues", apart := false, narrowed := true }
def FnExactStoppedCuesUptoSaid : Prop := fnExactStoppedCuesUptoRow.holds Try.pinned (OpenSpec.upto fnExactStoppedCuesSpec)

/-- 'laws.FnStops', WHERE WHAT IT READS IS OF BULK AT MOST 1048576: true; the input reads as it did. -/
def fnStopsUptoRow : OpenClaim := { program := "ytddejaomlnldiaa", sum := "8ae9083f6aa4cc54e10f6c7c3c8aacce2686bdec35f8d51d4c62aab38258a78e", func := "loop.example/g01049/laws.FnStops", spec := "fnStops", apart := false, narrowed := true }
def FnStopsUptoSaid : Prop := fnStopsUptoRow.holds Try.pinned (OpenSpec.upto fnStopsSpec)

/-- 'laws.FnExactWithoutLateCues', WHERE WHAT IT READS IS OF BULK AT MOST 1048576: true; the input reads as it did. -/
def fnExactWithoutLateCuesUptoRow : OpenClaim := { program := "ytddejaomlnldiaa", sum := "8ae9083f6aa4cc54e10f6c7c3c8aacce2686bdec35f8d51d4c62aab38258a78e", func := "loop.example/g01049/laws.FnExactWithoutLateCues", spec := "fnExactWithoutLateCues", apart := false, narrowed := true }
def FnExactWithoutLateCuesUptoSaid : Prop := fnExactWithoutLateCuesUptoRow.holds Try.pinned (OpenSpec.upto fnExactWithoutLateCuesSpec)

end Rows
end Go.Proofs.Ytddejaomlnldiaa
