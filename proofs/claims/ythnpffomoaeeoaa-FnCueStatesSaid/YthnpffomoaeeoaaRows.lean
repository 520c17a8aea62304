/-
  No cell of these rows narrows 'for every input' (looked for: loops, veiled, ifaces, maps, wideKeys, modest, calm, conditions, laid).
  DERIVED. THE GIVEN ROWS OF THIS SEAT. 10 by the template 'for every input the law returns true; each argument reads behind the call as it read before'; 0 by the template 'total and deterministic' (their statements: YthnpffomoaeeoaaTotals.lean).
  GIVEN WITH THE SEED: the statements are not yours to turn. If you find one false, say at which input.
  Laid BY PROGRAM, IN A SANDBOX (cutbox-rows.mjs): the forced cells as the released guide's own fill.sh prints them over the translation a05ea6cda9b6115d… (all of the seat's roots in one cut). By AI agents, Wed Nov 11 2026. No macro, syntax, notation, axiom, sorry.
-/
import Derived.Test.YthnpffomoaeeoaaChecked
import GoSem.Claim
import GoSem.ClaimJoined
import GoSem.ClaimMapViews
import Derived.JoinedTies
import Derived.KernelRfl
namespace Go.Proofs.Ythnpffomoaeeoaa
/- THE CELL 'sum', in the pinned program and in every row, IS THE sha256 OF THE DUMP (.gsa) THAT YthnpffomoaeeoaaProg.lean LOADS. Nothing in Lean hashes anything: it is a label: what it is worth is what the hold of that sum in a sandbox is worth. -/
noncomputable def Try.pinned : Pinned := { name := "ythnpffomoaeeoaa", sum := "a05ea6cda9b6115d634295559d508d225f962665987d47ffddf34122798ee315", checked := Try.checked }
namespace Rows
def none {H : Type} : Left H := { results := [], args := [] }

/-- 'laws.FnExactAreTries': WHATEVER THE INPUT: true; the input reads as it did. -/
def fnExactAreTriesSpec : ChangeSpec := { name := "fnExactAreTries", fn := fun _ => fun
  | [d] => { results := [.lit (.bool true)], args := [d] }
  | _ => none }
def fnExactAreTriesRow : OpenClaim := { program := "ythnpffomoaeeoaa", sum := "a05ea6cda9b6115d634295559d508d225f962665987d47ffddf34122798ee315", func := "loop.example/g01049/laws.FnExactAreTries", spec := "fnExactAreTries", apart := false }
def FnExactAreTriesSaid : Prop := fnExactAreTriesRow.holds Try.pinned (OpenSpec.ofChange fnExactAreTriesSpec)

/-- ITS FALSE NEIGHBOUR: 'it returns false'. Refute it at one input. -/
def fnExactAreTriesWrong : ChangeSpec := { name := "fnExactAreTries", fn := fun _ => fun
  | [d] => { results := [.lit (.bool false)], args := [d] }
  | _ => none }
def FnExactAreTriesWrongFalsely : Prop := fnExactAreTriesRow.holds Try.pinned (OpenSpec.ofChange fnExactAreTriesWrong)

/-- 'laws.FnExactFiredIn': WHATEVER THE INPUT: true; the input reads as it did. -/
def fnExactFiredInSpec : ChangeSpec := { name := "fnExactFiredIn", fn := fun _ => fun
  | [d1, d2] => { results := [.lit (.bool true)], args := [d1, d2] }
  | _ => none }
def fnExactFiredInRow : OpenClaim := { program := "ythnpffomoaeeoaa", sum := "a05ea6cda9b6115d634295559d508d225f962665987d47ffddf34122798ee315", func := "loop.example/g01049/laws.FnExactFiredIn", spec := "fnExactFiredIn", apart := false }
def FnExactFiredInSaid : Prop := fnExactFiredInRow.holds Try.pinned (OpenSpec.ofChange fnExactFiredInSpec)

/-- ITS FALSE NEIGHBOUR: 'it returns false'. Refute it at one input. -/
def fnExactFiredInWrong : ChangeSpec := { name := "fnExactFiredIn", fn := fun _ => fun
  | [d1, d2] => { results := [.lit (.bool false)], args := [d1, d2] }
  | _ => none }
def FnExactFiredInWrongFalsely : Prop := fnExactFiredInRow.holds Try.pinned (OpenSpec.ofChange fnExactFiredInWrong)

/-- 'laws.FnExactCueState': WHATEVER THE INPUT: true; the input reads as it did. -/
def fnExactCueStateSpec : ChangeSpec := { name := "fnExactCueState", fn := fun _ => fun
  | [d1, d2] => { results := [.lit (.bool true)], args := [d1, d2] }
  | _ => none }
def fnExactCueStateRow : OpenClaim := { program := "ythnpffomoaeeoaa", sum := "a05ea6cda9b6115d634295559d508d225f962665987d47ffddf34122798ee315", func := "loop.example/g01049/laws.FnExactCueState", spec := "fnExactCueState", apart := false }
def FnExactCueStateSaid : Prop := fnExactCueStateRow.holds Try.pinned (OpenSpec.ofChange fnExactCueStateSpec)

/-- ITS FALSE NEIGHBOUR: 'it returns false'. Refute it at one input. -/
def fnExactCueStateWrong : ChangeSpec := { name := "fnExactCueState", fn := fun _ => fun
  | [d1, d2] => { results := [.lit (.bool false)], args := [d1, d2] }
  | _ => none }
def FnExactCueStateWrongFalsely : Prop := fnExactCueStateRow.holds Try.pinned (OpenSpec.ofChange fnExactCueStateWrong)

/-- 'laws.FnExactAddTry': WHATEVER THE INPUT: true; the input reads as it did. -/
def fnExactAddTrySpec : ChangeSpec := { name := "fnExactAddTry", fn := fun _ => fun
  | [d1, d2] => { results := [.lit (.bool true)], args := [d1, d2] }
  | _ => none }
def fnExactAddTryRow : OpenClaim := { program := "ythnpffomoaeeoaa", sum := "a05ea6cda9b6115d634295559d508d225f962665987d47ffddf34122798ee315", func := "loop.example/g01049/laws.FnExactAddTry", spec := "fnExactAddTry", apart := false }
def FnExactAddTrySaid : Prop := fnExactAddTryRow.holds Try.pinned (OpenSpec.ofChange fnExactAddTrySpec)

/-- ITS FALSE NEIGHBOUR: 'it returns false'. Refute it at one input. -/
def fnExactAddTryWrong : ChangeSpec := { name := "fnExactAddTry", fn := fun _ => fun
  | [d1, d2] => { results := [.lit (.bool false)], args := [d1, d2] }
  | _ => none }
def FnExactAddTryWrongFalsely : Prop := fnExactAddTryRow.holds Try.pinned (OpenSpec.ofChange fnExactAddTryWrong)

/-- 'laws.FnExactNextTry': WHATEVER THE INPUT: true; the input reads as it did. -/
def fnExactNextTrySpec : ChangeSpec := { name := "fnExactNextTry", fn := fun _ => fun
  | [d1, d2] => { results := [.lit (.bool true)], args := [d1, d2] }
  | _ => none }
def fnExactNextTryRow : OpenClaim := { program := "ythnpffomoaeeoaa", sum := "a05ea6cda9b6115d634295559d508d225f962665987d47ffddf34122798ee315", func := "loop.example/g01049/laws.FnExactNextTry", spec := "fnExactNextTry", apart := false }
def FnExactNextTrySaid : Prop := fnExactNextTryRow.holds Try.pinned (OpenSpec.ofChange fnExactNextTrySpec)

/-- ITS FALSE NEIGHBOUR: 'it returns false'. Refute it at one input. -/
def fnExactNextTryWrong : ChangeSpec := { name := "fnExactNextTry", fn := fun _ => fun
  | [d1, d2] => { results := [.lit (.bool false)], args := [d1, d2] }
  | _ => none }
def FnExactNextTryWrongFalsely : Prop := fnExactNextTryRow.holds Try.pinned (OpenSpec.ofChange fnExactNextTryWrong)

/-- 'laws.FnExactTriesOf': WHATEVER THE INPUT: true; the input reads as it did. -/
def fnExactTriesOfSpec : ChangeSpec := { name := "fnExactTriesOf", fn := fun _ => fun
  | [d1, d2] => { results := [.lit (.bool true)], args := [d1, d2] }
  | _ => none }
def fnExactTriesOfRow : OpenClaim := { program := "ythnpffomoaeeoaa", sum := "a05ea6cda9b6115d634295559d508d225f962665987d47ffddf34122798ee315", func := "loop.example/g01049/laws.FnExactTriesOf", spec := "fnExactTriesOf", apart := false }
def FnExactTriesOfSaid : Prop := fnExactTriesOfRow.holds Try.pinned (OpenSpec.ofChange fnExactTriesOfSpec)

/-- ITS FALSE NEIGHBOUR: 'it returns false'. Refute it at one input. -/
def fnExactTriesOfWrong : ChangeSpec := { name := "fnExactTriesOf", fn := fun _ => fun
  | [d1, d2] => { results := [.lit (.bool false)], args := [d1, d2] }
  | _ => none }
def FnExactTriesOfWrongFalsely : Prop := fnExactTriesOfRow.holds Try.pinned (OpenSpec.ofChange fnExactTriesOfWrong)

/-- 'laws.FnExactCountTries': WHATEVER THE INPUT: true; the input reads as it did. -/
def fnExactCountTriesSpec : ChangeSpec := { name := "fnExactCountTries", fn := fun _ => fun
  | [d] => { results := [.lit (.bool true)], args := [d] }
  | _ => none }
def fnExactCountTriesRow : OpenClaim := { program := "ythnpffomoaeeoaa", sum := "a05ea6cda9b6115d634295559d508d225f962665987d47ffddf34122798ee315", func := "loop.example/g01049/laws.FnExactCountTries", spec := "fnExactCountTries", apart := false }
def FnExactCountTriesSaid : Prop := fnExactCountTriesRow.holds Try.pinned (OpenSpec.ofChange fnExactCountTriesSpec)

/-- ITS FALSE NEIGHBOUR: 'it returns false'. Refute it at one input. -/
def fnExactCountTriesWrong : ChangeSpec := { name := "fnExactCountTries", fn := fun _ => fun
  | [d] => { results := [.lit (.bool false)], args := [d] }
  | _ => none }
def FnExactCountTriesWrongFalsely : Prop := fnExactCountTriesRow.holds Try.pinned (OpenSpec.ofChange fnExactCountTriesWrong)

/-- 'laws.FnExactCuesIn': WHATEVER THE INPUT: true; the input reads as it did. -/
def fnExactCuesInSpec : ChangeSpec := { name := "fnExactCuesIn", fn := fun _ => fun
  | [d1, d2] => { results := [.lit (.bool true)], args := [d1, d2] }
  | _ => none }
def fnExactCuesInRow : OpenClaim := { program := "ythnpffomoaeeoaa", sum := "a05ea6cda9b6115d634295559d508d225f962665987d47ffddf34122798ee315", func := "loop.example/g01049/laws.FnExactCuesIn", spec := "fnExactCuesIn", apart := false }
def FnExactCuesInSaid : Prop := fnExactCuesInRow.holds Try.pinned (OpenSpec.ofChange fnExactCuesInSpec)

/-- ITS FALSE NEIGHBOUR: 'it returns false'. Refute it at one input. -/
def fnExactCuesInWrong : ChangeSpec := { name := "fnExactCuesIn", fn := fun _ => fun
  | [d1, d2] => { results := [.lit (.bool false)], args := [d1, d2] }
  | _ => none }
def FnExactCuesInWrongFalsely : Prop := fnExactCuesInRow.holds Try.pinned (OpenSpec.ofChange fnExactCuesInWrong)

/-- 'laws.FnTries': WHATEVER THE INPUT: true; the input reads as it did. -/
def fnTriesSpec : ChangeSpec := { name := "fnTries", fn := fun _ => fun
  | [d] => { results := [.lit (.bool true)], args := [d] }
  | _ => none }
def fnTriesRow : OpenClaim := { program := "ythnpffomoaeeoaa", sum := "a05ea6cda9b6115d634295559d508d225f962665987d47ffddf34122798ee315", func := "loop.example/g01049/laws.FnTries", spec := "fnTries", apart := false }
def FnTriesSaid : Prop := fnTriesRow.holds Try.pinned (OpenSpec.ofChange fnTriesSpec)

/-- ITS FALSE NEIGHBOUR: 'it returns false'. Refute it at one input. -/
def fnTriesWrong : ChangeSpec := { name := "fnTries", fn := fun _ => fun
  | [d] => { results := [.lit (.bool false)], args := [d] }
  | _ => none }
def FnTriesWrongFalsely : Prop := fnTriesRow.holds Try.pinned (OpenSpec.ofChange fnTriesWrong)

/-- 'laws.FnCueStates': WHATEVER THE INPUT: true; the input reads as it did. -/
def fnCueStatesSpec : ChangeSpec := { name := "fnCueStates", fn := fun _ => fun
  | [d] => { results := [.lit (.bool true)], args := [d] }
  | _ => none }
def fnCueStatesRow : OpenClaim := { program := "ythnpffomoaeeoaa", sum := "a05ea6cda9b6115d634295559d508d225f962665987d47ffddf34122798ee315", func := "loop.example/g01049/laws.FnCueStates", spec := "fnCueStates", apart := false }
def FnCueStatesSaid : Prop := fnCueStatesRow.holds Try.pinned (OpenSpec.ofChange fnCueStatesSpec)

/-- ITS FALSE NEIGHBOUR: 'it returns false'. Refute it at one input. -/
def fnCueStatesWrong : ChangeSpec := { name := "fnCueStates", fn := fun _ => fun
  | [d] => { results := [.lit (.bool false)], args := [d] }
  | _ => none }
def FnCueStatesWrongFalsely : Prop := fnCueStatesRow.holds Try.pinned (OpenSpec.ofChange fnCueStatesWrong)

/- THE SECOND FORM. 'bulk': how many values and letters a reading holds, each counted each time it is reached (what is shared counts as often as it is met; a slice's spare places count too). A statement '..UptoSaid' is the law's where the arguments, and the package variables that the reading takes, are together of bulk at most 1048576: NARROWER than '..Said'. Prove '..Said' where nothing that the law and all that it calls make is longer than what came in: it says more and counts as full. Else prove '..UptoSaid'. A law counts once. -/
mutual
def uptoBulk {H : Type} : DataW H → Nat
  | .lit (.string bytes) => bytes.length + 1
  | .lit _ => 1
  | .nil => 1
  | .ptr d => uptoBulk d + 1
  | .slice elems spare => uptoBulkAll elems + uptoBulkAll spare + 1
  | .agg parts => uptoBulkAll parts + 1
  | .iface _ d => uptoBulk d + 1
  | .map entries => uptoBulkEntries entries + 1
  | .held _ => 1
def uptoBulkAll {H : Type} : List (DataW H) → Nat
  | [] => 0
  | d :: r => uptoBulk d + uptoBulkAll r
def uptoBulkEntries {H : Type} : List (Lit × DataW H) → Nat
  | [] => 0
  | x :: r => uptoBulkEntry x + uptoBulkEntries r
def uptoBulkEntry {H : Type} : Lit × DataW H → Nat
  | (.string bytes, d) => bytes.length + uptoBulk d + 1
  | (_, d) => uptoBulk d + 1
 end
def uptoSmall : (H : Type) → List (DataW H) → Bool := fun _ ds => decide (uptoBulkAll ds ≤ 1048576)
def OpenSpec.upto (s : _root_.Go.ChangeSpec) : _root_.Go.OpenSpec := { _root_.Go.OpenSpec.ofChange s with cond := some uptoSmall }

/-- 'laws.FnExactAreTries', WHERE WHAT IT READS IS OF BULK AT MOST 1048576: true; the input reads as it did. -/
def fnExactAreTriesUptoRow : OpenClaim := { program := "ythnpffomoaeeoaa", sum := "a05ea6cda9b6115d634295559d508d225f962665987d47ffddf34122798ee315", func := "loop.example/g01049/laws.FnExactAreTries", spec := "fnExactAreTries", apart := false, narrowed := true }
def FnExactAreTriesUptoSaid : Prop := fnExactAreTriesUptoRow.holds Try.pinned (OpenSpec.upto fnExactAreTriesSpec)

/-- 'laws.FnExactFiredIn', WHERE WHAT IT READS IS OF BULK AT MOST 1048576: true; the input reads as it did. -/
def fnExactFiredInUptoRow : OpenClaim := { program := "ythnpffomoaeeoaa", sum := "a05ea6cda9b6115d634295559d508d225f962665987d47ffddf34122798ee315", func := "loop.example/g01049/laws.FnExactFiredIn", spec := "fnExactFiredIn", apart := false, narrowed := true }
def FnExactFiredInUptoSaid : Prop := fnExactFiredInUptoRow.holds Try.pinned (OpenSpec.upto fnExactFiredInSpec)

/-- 'laws.FnExactCueState', WHERE WHAT IT READS IS OF BULK AT MOST 1048576: true; the input reads as it did. -/
def fnExactCueStateUptoRow : OpenClaim := { program := "ythnpffomoaeeoaa", sum := "a05ea6cda9b6115d634295559d508d225f962665987d47ffddf34122798ee315", func := "loop.example/g01049/laws.FnExactCueState", spec := "fnExactCueState", apart := false, narrowed := true }
def FnExactCueStateUptoSaid : Prop := fnExactCueStateUptoRow.holds Try.pinned (OpenSpec.upto fnExactCueStateSpec)

/-- 'laws.FnExactAddTry', WHERE WHAT IT READS IS OF BULK AT MOST 1048576: true; the input reads as it did. -/
def fnExactAddTryUptoRow : OpenClaim := { program := "ythnpffomoaeeoaa", sum := "a05ea6cda9b6115d634295559d508d225f962665987d47ffddf34122798ee315", func := "loop.example/g01049/laws.FnExactAddTry", spec := "fnExactAddTry", apart := false, narrowed := true }
def FnExactAddTryUptoSaid : Prop := fnExactAddTryUptoRow.holds Try.pinned (OpenSpec.upto fnExactAddTrySpec)

/-- 'laws.FnExactNextTry', WHERE WHAT IT READS IS OF BULK AT MOST 1048576: true; the input reads as it did. -/
def fnExactNextTryUptoRow : OpenClaim := { program := "ythnpffomoaeeoaa", sum := "a05ea6cda9b6115d634295559d508d225f962665987d47ffddf34122798ee315", func := "loop.example/g01049/laws.FnExactNextTry", spec := "fnExactNextTry", apart := false, narrowed := true }
def FnExactNextTryUptoSaid : Prop := fnExactNextTryUptoRow.holds Try.pinned (OpenSpec.upto fnExactNextTrySpec)

/-- 'laws.FnExactTriesOf', WHERE WHAT IT READS IS OF BULK AT MOST 1048576: true; the input reads as it did. -/
def fnExactTriesOfUptoRow : OpenClaim := { program := "ythnpffomoaeeoaa", sum := "a05ea6cda9b6115d634295559d508d225f962665987d47ffddf34122798ee315", func := "loop.example/g01049/laws.FnExactTriesOf", spec := "fnExactTriesOf", apart := false, narrowed := true }
def FnExactTriesOfUptoSaid : Prop := fnExactTriesOfUptoRow.holds Try.pinned (OpenSpec.upto fnExactTriesOfSpec)

/-- 'laws.FnExactCountTries', WHERE WHAT IT READS IS OF BULK AT MOST 1048576: true; the input reads as it did. -/
def fnExactCountTriesUptoRow : OpenClaim := { program := "ythnpffomoaeeoaa", sum := "a05ea6cda9b6115d634295559d508d225f962665987d47ffddf34122798ee315", func := "loop.example/g01049/laws.FnExactCountTries", spec := "fnExactCountTries", apart := false, narrowed := true }
def FnExactCountTriesUptoSaid : Prop := fnExactCountTriesUptoRow.holds Try.pinned (OpenSpec.upto fnExactCountTriesSpec)

/-- 'laws.FnExactCuesIn', WHERE WHAT IT READS IS OF BULK AT MOST 1048576: true; the input reads as it did. -/
def fnExactCuesInUptoRow : OpenClaim := { program := "ythnpffomoaeeoaa", sum := "a05ea6cda9b6115d634295559d508d225f962665987d47ffddf34122798ee315", func := "loop.example/g01049/laws.FnExactCuesIn", spec := "fnExactCuesIn", apart := false, narrowed := true }
def FnExactCuesInUptoSaid : Prop := fnExactCuesInUptoRow.holds Try.pinned (OpenSpec.upto fnExactCuesInSpec)

/-- 'laws.FnTries', WHERE WHAT IT READS IS OF BULK AT MOST 1048576: true; the input reads as it did. -/
def fnTriesUptoRow : OpenClaim := { program := "ythnpffomoaeeoaa", sum := "a05ea6cda9b6115d634295559d508d225f962665987d47ffddf34122798ee315", func := "loop.example/g01049/laws.FnTries", spec := "fnTries", apart := false, narrowed := true }
def FnTriesUptoSaid : Prop := fnTriesUptoRow.holds Try.pinned (OpenSpec.upto fnTriesSpec)

/-- 'laws.FnCueStates', WHERE WHAT IT READS IS OF BULK AT MOST 1048576: true; the input reads as it did. -/
def fnCueStatesUptoRow : OpenClaim := { program := "ythnpffomoaeeoaa", sum := "a05ea6cda9b6115d634295559d508d225f962665987d47ffddf34122798ee315", func := "loop.example/g01049/laws.FnCueStates", spec := "fnCueStates", apart := false, narrowed := true }
def FnCueStatesUptoSaid : Prop := fnCueStatesUptoRow.holds Try.pinned (OpenSpec.upto fnCueStatesSpec)

end Rows
end Go.Proofs.Ythnpffomoaeeoaa
