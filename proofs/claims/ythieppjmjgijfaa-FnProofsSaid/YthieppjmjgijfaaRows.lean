/-
  No cell of these rows narrows 'for every input' (looked for: loops, veiled, ifaces, maps, wideKeys, modest, calm, conditions, laid).
  DERIVED. THE GIVEN ROWS OF THIS SEAT. 10 by the template 'for every input the law returns true; each argument reads behind the call as it read before'; 0 by the template 'total and deterministic' (their statements: YthieppjmjgijfaaTotals.lean).
  GIVEN WITH THE SEED: the statements are not yours to turn. If you find one false, say at which input.
  Laid BY PROGRAM, IN A SANDBOX (cutbox-rows.mjs): the forced cells as the released guide's own fill.sh prints them over the translation 3303ad50749bb4e4… (all of the seat's roots in one cut). By AI agents, Wed Nov 11 2026. No macro, syntax, notation, axiom, sorry.
-/
import Derived.Test.YthieppjmjgijfaaChecked
import GoSem.Claim
import GoSem.ClaimJoined
import GoSem.ClaimMapViews
import Derived.JoinedTies
import Derived.KernelRfl
namespace Go.Proofs.Ythieppjmjgijfaa
/- THE CELL 'sum', in the pinned program and in every row, IS THE sha256 OF THE DUMP (.gsa) THAT YthieppjmjgijfaaProg.lean LOADS. Nothing in Lean hashes anything: it is a label: what it is worth is what the hold of that sum in a sandbox is worth. -/
noncomputable def Try.pinned : Pinned := { name := "ythieppjmjgijfaa", sum := "3303ad50749bb4e4cf08c569164a87450f4f4f8e17aa524771bc0042a2dc0a58", checked := Try.checked }
namespace Rows
def none {H : Type} : Left H := { results := [], args := [] }

/-- 'laws.FnExactControllerWith': WHATEVER THE INPUT: true; the input reads as it did. -/
def fnExactControllerWithSpec : ChangeSpec := { name := "fnExactControllerWith", fn := fun _ => fun
  | [d] => { results := [.lit (.bool true)], args := [d] }
  | _ => none }
def fnExactControllerWithRow : OpenClaim := { program := "ythieppjmjgijfaa", sum := "3303ad50749bb4e4cf08c569164a87450f4f4f8e17aa524771bc0042a2dc0a58", func := "loop.example/g01049/laws.FnExactControllerWith", spec := "fnExactControllerWith", apart := false }
def FnExactControllerWithSaid : Prop := fnExactControllerWithRow.holds Try.pinned (OpenSpec.ofChange fnExactControllerWithSpec)

/-- ITS FALSE NEIGHBOUR: 'it returns false'. Refute it at one input. -/
def fnExactControllerWithWrong : ChangeSpec := { name := "fnExactControllerWith", fn := fun _ => fun
  | [d] => { results := [.lit (.bool false)], args := [d] }
  | _ => none }
def FnExactControllerWithWrongFalsely : Prop := fnExactControllerWithRow.holds Try.pinned (OpenSpec.ofChange fnExactControllerWithWrong)

/-- 'laws.FnExactNumberOf': WHATEVER THE INPUT: true; the input reads as it did. -/
def fnExactNumberOfSpec : ChangeSpec := { name := "fnExactNumberOf", fn := fun _ => fun
  | [d] => { results := [.lit (.bool true)], args := [d] }
  | _ => none }
def fnExactNumberOfRow : OpenClaim := { program := "ythieppjmjgijfaa", sum := "3303ad50749bb4e4cf08c569164a87450f4f4f8e17aa524771bc0042a2dc0a58", func := "loop.example/g01049/laws.FnExactNumberOf", spec := "fnExactNumberOf", apart := false }
def FnExactNumberOfSaid : Prop := fnExactNumberOfRow.holds Try.pinned (OpenSpec.ofChange fnExactNumberOfSpec)

/-- ITS FALSE NEIGHBOUR: 'it returns false'. Refute it at one input. -/
def fnExactNumberOfWrong : ChangeSpec := { name := "fnExactNumberOf", fn := fun _ => fun
  | [d] => { results := [.lit (.bool false)], args := [d] }
  | _ => none }
def FnExactNumberOfWrongFalsely : Prop := fnExactNumberOfRow.holds Try.pinned (OpenSpec.ofChange fnExactNumberOfWrong)

/-- 'laws.FnProofs': WHATEVER THE INPUT: true; the input reads as it did. -/
def fnProofsSpec : ChangeSpec := { name := "fnProofs", fn := fun _ => fun
  | [d] => { results := [.lit (.bool true)], args := [d] }
  | _ => none }
def fnProofsRow : OpenClaim := { program := "ythieppjmjgijfaa", sum := "3303ad50749bb4e4cf08c569164a87450f4f4f8e17aa524771bc0042a2dc0a58", func := "loop.example/g01049/laws.FnProofs", spec := "fnProofs", apart := false }
def FnProofsSaid : Prop := fnProofsRow.holds Try.pinned (OpenSpec.ofChange fnProofsSpec)

/-- ITS FALSE NEIGHBOUR: 'it returns false'. Refute it at one input. -/
def fnProofsWrong : ChangeSpec := { name := "fnProofs", fn := fun _ => fun
  | [d] => { results := [.lit (.bool false)], args := [d] }
  | _ => none }
def FnProofsWrongFalsely : Prop := fnProofsRow.holds Try.pinned (OpenSpec.ofChange fnProofsWrong)

/-- 'laws.FnReached': WHATEVER THE INPUT: true; the input reads as it did. -/
def fnReachedSpec : ChangeSpec := { name := "fnReached", fn := fun _ => fun
  | [d] => { results := [.lit (.bool true)], args := [d] }
  | _ => none }
def fnReachedRow : OpenClaim := { program := "ythieppjmjgijfaa", sum := "3303ad50749bb4e4cf08c569164a87450f4f4f8e17aa524771bc0042a2dc0a58", func := "loop.example/g01049/laws.FnReached", spec := "fnReached", apart := false }
def FnReachedSaid : Prop := fnReachedRow.holds Try.pinned (OpenSpec.ofChange fnReachedSpec)

/-- ITS FALSE NEIGHBOUR: 'it returns false'. Refute it at one input. -/
def fnReachedWrong : ChangeSpec := { name := "fnReached", fn := fun _ => fun
  | [d] => { results := [.lit (.bool false)], args := [d] }
  | _ => none }
def FnReachedWrongFalsely : Prop := fnReachedRow.holds Try.pinned (OpenSpec.ofChange fnReachedWrong)

/-- 'laws.FnExactAreClosed': WHATEVER THE INPUT: true; the input reads as it did. -/
def fnExactAreClosedSpec : ChangeSpec := { name := "fnExactAreClosed", fn := fun _ => fun
  | [d1, d2] => { results := [.lit (.bool true)], args := [d1, d2] }
  | _ => none }
def fnExactAreClosedRow : OpenClaim := { program := "ythieppjmjgijfaa", sum := "3303ad50749bb4e4cf08c569164a87450f4f4f8e17aa524771bc0042a2dc0a58", func := "loop.example/g01049/laws.FnExactAreClosed", spec := "fnExactAreClosed", apart := false }
def FnExactAreClosedSaid : Prop := fnExactAreClosedRow.holds Try.pinned (OpenSpec.ofChange fnExactAreClosedSpec)

/-- ITS FALSE NEIGHBOUR: 'it returns false'. Refute it at one input. -/
def fnExactAreClosedWrong : ChangeSpec := { name := "fnExactAreClosed", fn := fun _ => fun
  | [d1, d2] => { results := [.lit (.bool false)], args := [d1, d2] }
  | _ => none }
def FnExactAreClosedWrongFalsely : Prop := fnExactAreClosedRow.holds Try.pinned (OpenSpec.ofChange fnExactAreClosedWrong)

/-- 'laws.FnExactFirstLeak': WHATEVER THE INPUT: true; the input reads as it did. -/
def fnExactFirstLeakSpec : ChangeSpec := { name := "fnExactFirstLeak", fn := fun _ => fun
  | [d1, d2] => { results := [.lit (.bool true)], args := [d1, d2] }
  | _ => none }
def fnExactFirstLeakRow : OpenClaim := { program := "ythieppjmjgijfaa", sum := "3303ad50749bb4e4cf08c569164a87450f4f4f8e17aa524771bc0042a2dc0a58", func := "loop.example/g01049/laws.FnExactFirstLeak", spec := "fnExactFirstLeak", apart := false }
def FnExactFirstLeakSaid : Prop := fnExactFirstLeakRow.holds Try.pinned (OpenSpec.ofChange fnExactFirstLeakSpec)

/-- ITS FALSE NEIGHBOUR: 'it returns false'. Refute it at one input. -/
def fnExactFirstLeakWrong : ChangeSpec := { name := "fnExactFirstLeak", fn := fun _ => fun
  | [d1, d2] => { results := [.lit (.bool false)], args := [d1, d2] }
  | _ => none }
def FnExactFirstLeakWrongFalsely : Prop := fnExactFirstLeakRow.holds Try.pinned (OpenSpec.ofChange fnExactFirstLeakWrong)

/-- 'laws.FnExactShortestInputs': WHATEVER THE INPUT: true; the input reads as it did. -/
def fnExactShortestInputsSpec : ChangeSpec := { name := "fnExactShortestInputs", fn := fun _ => fun
  | [d1, d2, d3] => { results := [.lit (.bool true)], args := [d1, d2, d3] }
  | _ => none }
def fnExactShortestInputsRow : OpenClaim := { program := "ythieppjmjgijfaa", sum := "3303ad50749bb4e4cf08c569164a87450f4f4f8e17aa524771bc0042a2dc0a58", func := "loop.example/g01049/laws.FnExactShortestInputs", spec := "fnExactShortestInputs", apart := false }
def FnExactShortestInputsSaid : Prop := fnExactShortestInputsRow.holds Try.pinned (OpenSpec.ofChange fnExactShortestInputsSpec)

/-- ITS FALSE NEIGHBOUR: 'it returns false'. Refute it at one input. -/
def fnExactShortestInputsWrong : ChangeSpec := { name := "fnExactShortestInputs", fn := fun _ => fun
  | [d1, d2, d3] => { results := [.lit (.bool false)], args := [d1, d2, d3] }
  | _ => none }
def FnExactShortestInputsWrongFalsely : Prop := fnExactShortestInputsRow.holds Try.pinned (OpenSpec.ofChange fnExactShortestInputsWrong)

/-- 'laws.FnExactReachedFrom': WHATEVER THE INPUT: true; the input reads as it did. -/
def fnExactReachedFromSpec : ChangeSpec := { name := "fnExactReachedFrom", fn := fun _ => fun
  | [d1, d2] => { results := [.lit (.bool true)], args := [d1, d2] }
  | _ => none }
def fnExactReachedFromRow : OpenClaim := { program := "ythieppjmjgijfaa", sum := "3303ad50749bb4e4cf08c569164a87450f4f4f8e17aa524771bc0042a2dc0a58", func := "loop.example/g01049/laws.FnExactReachedFrom", spec := "fnExactReachedFrom", apart := false }
def FnExactReachedFromSaid : Prop := fnExactReachedFromRow.holds Try.pinned (OpenSpec.ofChange fnExactReachedFromSpec)

/-- ITS FALSE NEIGHBOUR: 'it returns false'. Refute it at one input. -/
def fnExactReachedFromWrong : ChangeSpec := { name := "fnExactReachedFrom", fn := fun _ => fun
  | [d1, d2] => { results := [.lit (.bool false)], args := [d1, d2] }
  | _ => none }
def FnExactReachedFromWrongFalsely : Prop := fnExactReachedFromRow.holds Try.pinned (OpenSpec.ofChange fnExactReachedFromWrong)

/-- 'laws.FnExactCanFire': WHATEVER THE INPUT: true; the input reads as it did. -/
def fnExactCanFireSpec : ChangeSpec := { name := "fnExactCanFire", fn := fun _ => fun
  | [d1, d2] => { results := [.lit (.bool true)], args := [d1, d2] }
  | _ => none }
def fnExactCanFireRow : OpenClaim := { program := "ythieppjmjgijfaa", sum := "3303ad50749bb4e4cf08c569164a87450f4f4f8e17aa524771bc0042a2dc0a58", func := "loop.example/g01049/laws.FnExactCanFire", spec := "fnExactCanFire", apart := false }
def FnExactCanFireSaid : Prop := fnExactCanFireRow.holds Try.pinned (OpenSpec.ofChange fnExactCanFireSpec)

/-- ITS FALSE NEIGHBOUR: 'it returns false'. Refute it at one input. -/
def fnExactCanFireWrong : ChangeSpec := { name := "fnExactCanFire", fn := fun _ => fun
  | [d1, d2] => { results := [.lit (.bool false)], args := [d1, d2] }
  | _ => none }
def FnExactCanFireWrongFalsely : Prop := fnExactCanFireRow.holds Try.pinned (OpenSpec.ofChange fnExactCanFireWrong)

/-- 'laws.FnExactDeadEnds': WHATEVER THE INPUT: true; the input reads as it did. -/
def fnExactDeadEndsSpec : ChangeSpec := { name := "fnExactDeadEnds", fn := fun _ => fun
  | [d1, d2] => { results := [.lit (.bool true)], args := [d1, d2] }
  | _ => none }
def fnExactDeadEndsRow : OpenClaim := { program := "ythieppjmjgijfaa", sum := "3303ad50749bb4e4cf08c569164a87450f4f4f8e17aa524771bc0042a2dc0a58", func := "loop.example/g01049/laws.FnExactDeadEnds", spec := "fnExactDeadEnds", apart := false }
def FnExactDeadEndsSaid : Prop := fnExactDeadEndsRow.holds Try.pinned (OpenSpec.ofChange fnExactDeadEndsSpec)

/-- ITS FALSE NEIGHBOUR: 'it returns false'. Refute it at one input. -/
def fnExactDeadEndsWrong : ChangeSpec := { name := "fnExactDeadEnds", fn := fun _ => fun
  | [d1, d2] => { results := [.lit (.bool false)], args := [d1, d2] }
  | _ => none }
def FnExactDeadEndsWrongFalsely : Prop := fnExactDeadEndsRow.holds Try.pinned (OpenSpec.ofChange fnExactDeadEndsWrong)

/- THE SECOND FORM. 'bulk': how many values and letters a reading holds, each counted each time it is reached (what is shared counts as often as it is met; a slice's spare places count too). A statement '..UptoSaid' is the law's where the arguments, and the package variables that the reading takes, are together of bulk at most 1048576: NARROWER than '..Said'. Prove '..Said' where nothing that the law and all that it calls make is longer than what came in: it says more and counts as full. Else prove '..UptoSaid'. A law counts once. -/
mutual
def uptoBulk {H : Type} : DataW H → Nat
  | .lit (.string bytes) => bytes.length + 1
  | .lit _ => 1
  | .nil => 1
  | .ptr d => uptoBulk d + 1
  | .slice elems spare => uptoBulkAll elems + uptoBulkAll spare + 1
  | .agg parts => uptoBulkAll parts + 1
  | .iface _ d => uptoBulk d + 1
  | .map entries => uptoBulkEntries entries + 1
  | .held _ => 1
def uptoBulkAll {H : Type} : List (DataW H) → Nat
  | [] => 0
  | d :: r => uptoBulk d + uptoBulkAll r
def uptoBulkEntries {H : Type} : List (Lit × DataW H) → Nat
  | [] => 0
  | x :: r => uptoBulkEntry x + uptoBulkEntries r
def uptoBulkEntry {H : Type} : Lit × DataW H → Nat
  | (.string bytes, d) => bytes.length + uptoBulk d + 1
  | (_, d) => uptoBulk d + 1
 end
def uptoSmall : (H : Type) → List (DataW H) → Bool := fun _ ds => decide (uptoBulkAll ds ≤ 1048576)
def OpenSpec.upto (s : _root_.Go.ChangeSpec) : _root_.Go.OpenSpec := { _root_.Go.OpenSpec.ofChange s with cond := some uptoSmall }

/-- 'laws.FnExactControllerWith', WHERE WHAT IT READS IS OF BULK AT MOST 1048576: true; the input reads as it did. -/
def fnExactControllerWithUptoRow : OpenClaim := { program := "ythieppjmjgijfaa", sum := "3303ad50749bb4e4cf08c569164a87450f4f4f8e17aa524771bc0042a2dc0a58", func := "loop.example/g01049/laws.FnExactControllerWith", spec := "fnExactControllerWith", apart := false, narrowed := true }
def FnExactControllerWithUptoSaid : Prop := fnExactControllerWithUptoRow.holds Try.pinned (OpenSpec.upto fnExactControllerWithSpec)

/-- 'laws.FnExactNumberOf', WHERE WHAT IT READS IS OF BULK AT MOST 1048576: true; the input reads as it did. -/
def fnExactNumberOfUptoRow : OpenClaim := { program := "ythieppjmjgijfaa", sum := "3303ad50749bb4e4cf08c569164a87450f4f4f8e17aa524771bc0042a2dc0a58", func := "loop.example/g01049/laws.FnExactNumberOf", spec := "fnExactNumberOf", apart := false, narrowed := true }
def FnExactNumberOfUptoSaid : Prop := fnExactNumberOfUptoRow.holds Try.pinned (OpenSpec.upto fnExactNumberOfSpec)

/-- 'laws.FnProofs', WHERE WHAT IT READS IS OF BULK AT MOST 1048576: true; the input reads as it did. -/
def fnProofsUptoRow : OpenClaim := { program := "ythieppjmjgijfaa", sum := "3303ad50749bb4e4cf08c569164a87450f4f4f8e17aa524771bc0042a2dc0a58", func := "loop.example/g01049/laws.FnProofs", spec := "fnProofs", apart := false, narrowed := true }
def FnProofsUptoSaid : Prop := fnProofsUptoRow.holds Try.pinned (OpenSpec.upto fnProofsSpec)

/-- 'laws.FnReached', WHERE WHAT IT READS IS OF BULK AT MOST 1048576: true; the input reads as it did. -/
def fnReachedUptoRow : OpenClaim := { program := "ythieppjmjgijfaa", sum := "3303ad50749bb4e4cf08c569164a87450f4f4f8e17aa524771bc0042a2dc0a58", func := "loop.example/g01049/laws.FnReached", spec := "fnReached", apart := false, narrowed := true }
def FnReachedUptoSaid : Prop := fnReachedUptoRow.holds Try.pinned (OpenSpec.upto fnReachedSpec)

/-- 'laws.FnExactAreClosed', WHERE WHAT IT READS IS OF BULK AT MOST 1048576: true; the input reads as it did. -/
def fnExactAreClosedUptoRow : OpenClaim := { program := "ythieppjmjgijfaa", sum := "3303ad50749bb4e4cf08c569164a87450f4f4f8e17aa524771bc0042a2dc0a58", func := "loop.example/g01049/laws.FnExactAreClosed", spec := "fnExactAreClosed", apart := false, narrowed := true }
def FnExactAreClosedUptoSaid : Prop := fnExactAreClosedUptoRow.holds Try.pinned (OpenSpec.upto fnExactAreClosedSpec)

/-- 'laws.FnExactFirstLeak', WHERE WHAT IT READS IS OF BULK AT MOST 1048576: true; the input reads as it did. -/
def fnExactFirstLeakUptoRow : OpenClaim := { program := "ythieppjmjgijfaa", sum := "3303ad50749bb4e4cf08c569164a87450f4f4f8e17aa524771bc0042a2dc0a58", func := "loop.example/g01049/laws.FnExactFirstLeak", spec := "fnExactFirstLeak", apart := false, narrowed := true }
def FnExactFirstLeakUptoSaid : Prop := fnExactFirstLeakUptoRow.holds Try.pinned (OpenSpec.upto fnExactFirstLeakSpec)

/-- 'laws.FnExactShortestInputs', WHERE WHAT IT READS IS OF BULK AT MOST 1048576: true; the input reads as it did. -/
def fnExactShortestInputsUptoRow : OpenClaim := { program := "ythieppjmjgijfaa", sum := "3303ad50749bb4e4cf08c569164a87450f4f4f8e17aa524771bc0042a2dc0a58", func := "loop.example/g01049/laws.FnExactShortestInputs", spec := "fnExactShortestInputs", apart := false, narrowed := true }
def FnExactShortestInputsUptoSaid : Prop := fnExactShortestInputsUptoRow.holds Try.pinned (OpenSpec.upto fnExactShortestInputsSpec)

/-- 'laws.FnExactReachedFrom', WHERE WHAT IT READS IS OF BULK AT MOST 1048576: true; the input reads as it did. -/
def fnExactReachedFromUptoRow : OpenClaim := { program := "ythieppjmjgijfaa", sum := "3303ad50749bb4e4cf08c569164a87450f4f4f8e17aa524771bc0042a2dc0a58", func := "loop.example/g01049/laws.FnExactReachedFrom", spec := "fnExactReachedFrom", apart := false, narrowed := true }
def FnExactReachedFromUptoSaid : Prop := fnExactReachedFromUptoRow.holds Try.pinned (OpenSpec.upto fnExactReachedFromSpec)

/-- 'laws.FnExactCanFire', WHERE WHAT IT READS IS OF BULK AT MOST 1048576: true; the input reads as it did. -/
def fnExactCanFireUptoRow : OpenClaim := { program := "ythieppjmjgijfaa", sum := "3303ad50749bb4e4cf08c569164a87450f4f4f8e17aa524771bc0042a2dc0a58", func := "loop.example/g01049/laws.FnExactCanFire", spec := "fnExactCanFire", apart := false, narrowed := true }
def FnExactCanFireUptoSaid : Prop := fnExactCanFireUptoRow.holds Try.pinned (OpenSpec.upto fnExactCanFireSpec)

/-- 'laws.FnExactDeadEnds', WHERE WHAT IT READS IS OF BULK AT MOST 1048576: true; the input reads as it did. -/
def fnExactDeadEndsUptoRow : OpenClaim := { program := "ythieppjmjgijfaa", sum := "3303ad50749bb4e4cf08c569164a87450f4f4f8e17aa524771bc0042a2dc0a58", func := "loop.example/g01049/laws.FnExactDeadEnds", spec := "fnExactDeadEnds", apart := false, narrowed := true }
def FnExactDeadEndsUptoSaid : Prop := fnExactDeadEndsUptoRow.holds Try.pinned (OpenSpec.upto fnExactDeadEndsSpec)

end Rows
end Go.Proofs.Ythieppjmjgijfaa
