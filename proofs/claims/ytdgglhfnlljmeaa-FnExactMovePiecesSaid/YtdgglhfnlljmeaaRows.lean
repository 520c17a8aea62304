/-
  No cell of these rows narrows 'for every input' (looked for: loops, veiled, ifaces, maps, wideKeys, modest, calm, conditions, laid).
  DERIVED. THE GIVEN ROWS OF THIS SEAT. 10 by the template 'for every input the law returns true; each argument reads behind the call as it read before'; 0 by the template 'total and deterministic' (their statements: YtdgglhfnlljmeaaTotals.lean).
  GIVEN WITH THE SEED: the statements are not yours to turn. If you find one false, say at which input.
  Laid BY PROGRAM, IN A SANDBOX (cutbox-rows.mjs): the forced cells as the released guide's own fill.sh prints them over the translation a18f3cdb4d528224… (all of the seat's roots in one cut). By AI agents, Wed Nov 11 2026. No macro, syntax, notation, axiom, sorry.
-/
import Derived.Test.YtdgglhfnlljmeaaChecked
import GoSem.Claim
import GoSem.ClaimJoined
import GoSem.ClaimMapViews
import Derived.JoinedTies
import Derived.KernelRfl
namespace Go.Proofs.Ytdgglhfnlljmeaa
/- THE CELL 'sum', in the pinned program and in every row, IS THE sha256 OF THE DUMP (.gsa) THAT YtdgglhfnlljmeaaProg.lean LOADS. Nothing in Lean hashes anything: it is a label: what it is worth is what the hold of that sum in a sandbox is worth. -/
noncomputable def Try.pinned : Pinned := { name := "ytdgglhfnlljmeaa", sum := "a18f3cdb4d528224eda5db919757266e497c58a5ccf11bad34c4a28110a7f5de", checked := Try.checked }
namespace Rows
def none {H : Type} : Left H := { results := [], args := [] }

/-- 'laws.FnExactMovePieces': WHATEVER THE INPUT: true; the input reads as it did. -/
def fnExactMovePiecesSpec : ChangeSpec := { name := "fnExactMovePieces", fn := fun _ => fun
  | [d1, d2, d3, d4, d5] => { results := [.lit (.bool true)], args := [d1, d2, d3, d4, d5] }
  | _ => none }
def fnExactMovePiecesRow : OpenClaim := { program := "ytdgglhfnlljmeaa", sum := "a18f3cdb4d528224eda5db919757266e497c58a5ccf11bad34c4a28110a7f5de", func := "loop.example/g01049/laws.FnExactMovePieces", spec := "fnExactMovePieces", apart := false }
def FnExactMovePiecesSaid : Prop := fnExactMovePiecesRow.holds Try.pinned (OpenSpec.ofChange fnExactMovePiecesSpec)

/-- ITS FALSE NEIGHBOUR: 'it returns false'. Refute it at one input. -/
def fnExactMovePiecesWrong : ChangeSpec := { name := "fnExactMovePieces", fn := fun _ => fun
  | [d1, d2, d3, d4, d5] => { results := [.lit (.bool false)], args := [d1, d2, d3, d4, d5] }
  | _ => none }
def FnExactMovePiecesWrongFalsely : Prop := fnExactMovePiecesRow.holds Try.pinned (OpenSpec.ofChange fnExactMovePiecesWrong)

/-- 'laws.FnExactIsMagazine': WHATEVER THE INPUT: true; the input reads as it did. -/
def fnExactIsMagazineSpec : ChangeSpec := { name := "fnExactIsMagazine", fn := fun _ => fun
  | [d1, d2] => { results := [.lit (.bool true)], args := [d1, d2] }
  | _ => none }
def fnExactIsMagazineRow : OpenClaim := { program := "ytdgglhfnlljmeaa", sum := "a18f3cdb4d528224eda5db919757266e497c58a5ccf11bad34c4a28110a7f5de", func := "loop.example/g01049/laws.FnExactIsMagazine", spec := "fnExactIsMagazine", apart := false }
def FnExactIsMagazineSaid : Prop := fnExactIsMagazineRow.holds Try.pinned (OpenSpec.ofChange fnExactIsMagazineSpec)

/-- ITS FALSE NEIGHBOUR: 'it returns false'. Refute it at one input. -/
def fnExactIsMagazineWrong : ChangeSpec := { name := "fnExactIsMagazine", fn := fun _ => fun
  | [d1, d2] => { results := [.lit (.bool false)], args := [d1, d2] }
  | _ => none }
def FnExactIsMagazineWrongFalsely : Prop := fnExactIsMagazineRow.holds Try.pinned (OpenSpec.ofChange fnExactIsMagazineWrong)

/-- 'laws.FnExactNetIn': WHATEVER THE INPUT: true; the input reads as it did. -/
def fnExactNetInSpec : ChangeSpec := { name := "fnExactNetIn", fn := fun _ => fun
  | [d1, d2] => { results := [.lit (.bool true)], args := [d1, d2] }
  | _ => none }
def fnExactNetInRow : OpenClaim := { program := "ytdgglhfnlljmeaa", sum := "a18f3cdb4d528224eda5db919757266e497c58a5ccf11bad34c4a28110a7f5de", func := "loop.example/g01049/laws.FnExactNetIn", spec := "fnExactNetIn", apart := false }
def FnExactNetInSaid : Prop := fnExactNetInRow.holds Try.pinned (OpenSpec.ofChange fnExactNetInSpec)

/-- ITS FALSE NEIGHBOUR: 'it returns false'. Refute it at one input. -/
def fnExactNetInWrong : ChangeSpec := { name := "fnExactNetIn", fn := fun _ => fun
  | [d1, d2] => { results := [.lit (.bool false)], args := [d1, d2] }
  | _ => none }
def FnExactNetInWrongFalsely : Prop := fnExactNetInRow.holds Try.pinned (OpenSpec.ofChange fnExactNetInWrong)

/-- 'laws.FnExactIsLawful': WHATEVER THE INPUT: true; the input reads as it did. -/
def fnExactIsLawfulSpec : ChangeSpec := { name := "fnExactIsLawful", fn := fun _ => fun
  | [d1, d2] => { results := [.lit (.bool true)], args := [d1, d2] }
  | _ => none }
def fnExactIsLawfulRow : OpenClaim := { program := "ytdgglhfnlljmeaa", sum := "a18f3cdb4d528224eda5db919757266e497c58a5ccf11bad34c4a28110a7f5de", func := "loop.example/g01049/laws.FnExactIsLawful", spec := "fnExactIsLawful", apart := false }
def FnExactIsLawfulSaid : Prop := fnExactIsLawfulRow.holds Try.pinned (OpenSpec.ofChange fnExactIsLawfulSpec)

/-- ITS FALSE NEIGHBOUR: 'it returns false'. Refute it at one input. -/
def fnExactIsLawfulWrong : ChangeSpec := { name := "fnExactIsLawful", fn := fun _ => fun
  | [d1, d2] => { results := [.lit (.bool false)], args := [d1, d2] }
  | _ => none }
def FnExactIsLawfulWrongFalsely : Prop := fnExactIsLawfulRow.holds Try.pinned (OpenSpec.ofChange fnExactIsLawfulWrong)

/-- 'laws.FnExactLawfulLimit': WHATEVER THE INPUT: true; the input reads as it did. -/
def fnExactLawfulLimitSpec : ChangeSpec := { name := "fnExactLawfulLimit", fn := fun _ => fun
  | [d1, d2] => { results := [.lit (.bool true)], args := [d1, d2] }
  | _ => none }
def fnExactLawfulLimitRow : OpenClaim := { program := "ytdgglhfnlljmeaa", sum := "a18f3cdb4d528224eda5db919757266e497c58a5ccf11bad34c4a28110a7f5de", func := "loop.example/g01049/laws.FnExactLawfulLimit", spec := "fnExactLawfulLimit", apart := false }
def FnExactLawfulLimitSaid : Prop := fnExactLawfulLimitRow.holds Try.pinned (OpenSpec.ofChange fnExactLawfulLimitSpec)

/-- ITS FALSE NEIGHBOUR: 'it returns false'. Refute it at one input. -/
def fnExactLawfulLimitWrong : ChangeSpec := { name := "fnExactLawfulLimit", fn := fun _ => fun
  | [d1, d2] => { results := [.lit (.bool false)], args := [d1, d2] }
  | _ => none }
def FnExactLawfulLimitWrongFalsely : Prop := fnExactLawfulLimitRow.holds Try.pinned (OpenSpec.ofChange fnExactLawfulLimitWrong)

/-- 'laws.FnExactRoomFor': WHATEVER THE INPUT: true; the input reads as it did. -/
def fnExactRoomForSpec : ChangeSpec := { name := "fnExactRoomFor", fn := fun _ => fun
  | [d1, d2, d3] => { results := [.lit (.bool true)], args := [d1, d2, d3] }
  | _ => none }
def fnExactRoomForRow : OpenClaim := { program := "ytdgglhfnlljmeaa", sum := "a18f3cdb4d528224eda5db919757266e497c58a5ccf11bad34c4a28110a7f5de", func := "loop.example/g01049/laws.FnExactRoomFor", spec := "fnExactRoomFor", apart := false }
def FnExactRoomForSaid : Prop := fnExactRoomForRow.holds Try.pinned (OpenSpec.ofChange fnExactRoomForSpec)

/-- ITS FALSE NEIGHBOUR: 'it returns false'. Refute it at one input. -/
def fnExactRoomForWrong : ChangeSpec := { name := "fnExactRoomFor", fn := fun _ => fun
  | [d1, d2, d3] => { results := [.lit (.bool false)], args := [d1, d2, d3] }
  | _ => none }
def FnExactRoomForWrongFalsely : Prop := fnExactRoomForRow.holds Try.pinned (OpenSpec.ofChange fnExactRoomForWrong)

/-- 'laws.FnExactTakePieces': WHATEVER THE INPUT: true; the input reads as it did. -/
def fnExactTakePiecesSpec : ChangeSpec := { name := "fnExactTakePieces", fn := fun _ => fun
  | [d1, d2, d3, d4] => { results := [.lit (.bool true)], args := [d1, d2, d3, d4] }
  | _ => none }
def fnExactTakePiecesRow : OpenClaim := { program := "ytdgglhfnlljmeaa", sum := "a18f3cdb4d528224eda5db919757266e497c58a5ccf11bad34c4a28110a7f5de", func := "loop.example/g01049/laws.FnExactTakePieces", spec := "fnExactTakePieces", apart := false }
def FnExactTakePiecesSaid : Prop := fnExactTakePiecesRow.holds Try.pinned (OpenSpec.ofChange fnExactTakePiecesSpec)

/-- ITS FALSE NEIGHBOUR: 'it returns false'. Refute it at one input. -/
def fnExactTakePiecesWrong : ChangeSpec := { name := "fnExactTakePieces", fn := fun _ => fun
  | [d1, d2, d3, d4] => { results := [.lit (.bool false)], args := [d1, d2, d3, d4] }
  | _ => none }
def FnExactTakePiecesWrongFalsely : Prop := fnExactTakePiecesRow.holds Try.pinned (OpenSpec.ofChange fnExactTakePiecesWrong)

/-- 'laws.FnMagazines': WHATEVER THE INPUT: true; the input reads as it did. -/
def fnMagazinesSpec : ChangeSpec := { name := "fnMagazines", fn := fun _ => fun
  | [d] => { results := [.lit (.bool true)], args := [d] }
  | _ => none }
def fnMagazinesRow : OpenClaim := { program := "ytdgglhfnlljmeaa", sum := "a18f3cdb4d528224eda5db919757266e497c58a5ccf11bad34c4a28110a7f5de", func := "loop.example/g01049/laws.FnMagazines", spec := "fnMagazines", apart := false }
def FnMagazinesSaid : Prop := fnMagazinesRow.holds Try.pinned (OpenSpec.ofChange fnMagazinesSpec)

/-- ITS FALSE NEIGHBOUR: 'it returns false'. Refute it at one input. -/
def fnMagazinesWrong : ChangeSpec := { name := "fnMagazines", fn := fun _ => fun
  | [d] => { results := [.lit (.bool false)], args := [d] }
  | _ => none }
def FnMagazinesWrongFalsely : Prop := fnMagazinesRow.holds Try.pinned (OpenSpec.ofChange fnMagazinesWrong)

/-- 'laws.FnMoved': WHATEVER THE INPUT: true; the input reads as it did. -/
def fnMovedSpec : ChangeSpec := { name := "fnMoved", fn := fun _ => fun
  | [d] => { results := [.lit (.bool true)], args := [d] }
  | _ => none }
def fnMovedRow : OpenClaim := { program := "ytdgglhfnlljmeaa", sum := "a18f3cdb4d528224eda5db919757266e497c58a5ccf11bad34c4a28110a7f5de", func := "loop.example/g01049/laws.FnMoved", spec := "fnMoved", apart := false }
def FnMovedSaid : Prop := fnMovedRow.holds Try.pinned (OpenSpec.ofChange fnMovedSpec)

/-- ITS FALSE NEIGHBOUR: 'it returns false'. Refute it at one input. -/
def fnMovedWrong : ChangeSpec := { name := "fnMoved", fn := fun _ => fun
  | [d] => { results := [.lit (.bool false)], args := [d] }
  | _ => none }
def FnMovedWrongFalsely : Prop := fnMovedRow.holds Try.pinned (OpenSpec.ofChange fnMovedWrong)

/-- 'laws.FnExactStorePieces': WHATEVER THE INPUT: true; the input reads as it did. -/
def fnExactStorePiecesSpec : ChangeSpec := { name := "fnExactStorePieces", fn := fun _ => fun
  | [d1, d2, d3, d4] => { results := [.lit (.bool true)], args := [d1, d2, d3, d4] }
  | _ => none }
def fnExactStorePiecesRow : OpenClaim := { program := "ytdgglhfnlljmeaa", sum := "a18f3cdb4d528224eda5db919757266e497c58a5ccf11bad34c4a28110a7f5de", func := "loop.example/g01049/laws.FnExactStorePieces", spec := "fnExactStorePieces", apart := false }
def FnExactStorePiecesSaid : Prop := fnExactStorePiecesRow.holds Try.pinned (OpenSpec.ofChange fnExactStorePiecesSpec)

/-- ITS FALSE NEIGHBOUR: 'it returns false'. Refute it at one input. -/
def fnExactStorePiecesWrong : ChangeSpec := { name := "fnExactStorePieces", fn := fun _ => fun
  | [d1, d2, d3, d4] => { results := [.lit (.bool false)], args := [d1, d2, d3, d4] }
  | _ => none }
def FnExactStorePiecesWrongFalsely : Prop := fnExactStorePiecesRow.holds Try.pinned (OpenSpec.ofChange fnExactStorePiecesWrong)

/- THE SECOND FORM. 'bulk': how many values and letters a reading holds, each counted each time it is reached (what is shared counts as often as it is met; a slice's spare places count too). A statement '..UptoSaid' is the law's where the arguments, and the package variables that the reading takes, are together of bulk at most 1048576: NARROWER than '..Said'. Prove '..Said' where nothing that the law and all that it calls make is longer than what came in: it says more and counts as full. Else prove '..UptoSaid'. A law counts once. -/
mutual
def uptoBulk {H : Type} : DataW H → Nat
  | .lit (.string bytes) => bytes.length + 1
  | .lit _ => 1
  | .nil => 1
  | .ptr d => uptoBulk d + 1
  | .slice elems spare => uptoBulkAll elems + uptoBulkAll spare + 1
  | .agg parts => uptoBulkAll parts + 1
  | .iface _ d => uptoBulk d + 1
  | .map entries => uptoBulkEntries entries + 1
  | .held _ => 1
def uptoBulkAll {H : Type} : List (DataW H) → Nat
  | [] => 0
  | d :: r => uptoBulk d + uptoBulkAll r
def uptoBulkEntries {H : Type} : List (Lit × DataW H) → Nat
  | [] => 0
  | x :: r => uptoBulkEntry x + uptoBulkEntries r
def uptoBulkEntry {H : Type} : Lit × DataW H → Nat
  | (.string bytes, d) => bytes.length + uptoBulk d + 1
  | (_, d) => uptoBulk d + 1
 end
def uptoSmall : (H : Type) → List (DataW H) → Bool := fun _ ds => decide (uptoBulkAll ds ≤ 1048576)
def OpenSpec.upto (s : _root_.Go.ChangeSpec) : _root_.Go.OpenSpec := { _root_.Go.OpenSpec.ofChange s with cond := some uptoSmall }

/-- 'laws.FnExactMovePieces', WHERE WHAT IT READS IS OF BULK AT MOST 1048576: true; the input reads as it did. -/
def fnExactMovePiecesUptoRow : OpenClaim := { program := "ytdgglhfnlljmeaa", sum := "a18f3cdb4d528224eda5db919757266e497c58a5ccf11bad34c4a28110a7f5de", func := "loop.example/g01049/laws.FnExactMovePieces", spec := "fnExactMovePieces", apart := false, narrowed := true }
def FnExactMovePiecesUptoSaid : Prop := fnExactMovePiecesUptoRow.holds Try.pinned (OpenSpec.upto fnExactMovePiecesSpec)

/-- 'laws.FnExactIsMagazine', WHERE WHAT IT READS IS OF BULK AT MOST 1048576: true; the input reads as it did. -/
def fnExactIsMagazineUptoRow : OpenClaim := { program := "ytdgglhfnlljmeaa", sum := "a18f3cdb4d528224eda5db919757266e497c58a5ccf11bad34c4a28110a7f5de", func := "loop.example/g01049/laws.FnExactIsMagazine", spec := "fnExactIsMagazine", apart := false, narrowed := true }
def FnExactIsMagazineUptoSaid : Prop := fnExactIsMagazineUptoRow.holds Try.pinned (OpenSpec.upto fnExactIsMagazineSpec)

/-- 'laws.FnExactNetIn', WHERE WHAT IT READS IS OF BULK AT MOST 1048576: true; the input reads as it did. -/
def fnExactNetInUptoRow : OpenClaim := { program := "ytdgglhfnlljmeaa", sum := "a18f3cdb4d528224eda5db919757266e497c58a5ccf11bad34c4a28110a7f5de", func := "loop.example/g01049/laws.FnExactNetIn", spec := "fnExactNetIn", apart := false, narrowed := true }
def FnExactNetInUptoSaid : Prop := fnExactNetInUptoRow.holds Try.pinned (OpenSpec.upto fnExactNetInSpec)

/-- 'laws.FnExactIsLawful', WHERE WHAT IT READS IS OF BULK AT MOST 1048576: true; the input reads as it did. -/
def fnExactIsLawfulUptoRow : OpenClaim := { program := "ytdgglhfnlljmeaa", sum := "a18f3cdb4d528224eda5db919757266e497c58a5ccf11bad34c4a28110a7f5de", func := "loop.example/g01049/laws.FnExactIsLawful", spec := "fnExactIsLawful", apart := false, narrowed := true }
def FnExactIsLawfulUptoSaid : Prop := fnExactIsLawfulUptoRow.holds Try.pinned (OpenSpec.upto fnExactIsLawfulSpec)

/-- 'laws.FnExactLawfulLimit', WHERE WHAT IT READS IS OF BULK AT MOST 1048576: true; the input reads as it did. -/
def fnExactLawfulLimitUptoRow : OpenClaim := { program := "ytdgglhfnlljmeaa", sum := "a18f3cdb4d528224eda5db919757266e497c58a5ccf11bad34c4a28110a7f5de", func := "loop.example/g01049/laws.FnExactLawfulLimit", spec := "fnExactLawfulLimit", apart := false, narrowed := true }
def FnExactLawfulLimitUptoSaid : Prop := fnExactLawfulLimitUptoRow.holds Try.pinned (OpenSpec.upto fnExactLawfulLimitSpec)

/-- 'laws.FnExactRoomFor', WHERE WHAT IT READS IS OF BULK AT MOST 1048576: true; the input reads as it did. -/
def fnExactRoomForUptoRow : OpenClaim := { program := "ytdgglhfnlljmeaa", sum := "a18f3cdb4d528224eda5db919757266e497c58a5ccf11bad34c4a28110a7f5de", func := "loop.example/g01049/laws.FnExactRoomFor", spec := "fnExactRoomFor", apart := false, narrowed := true }
def FnExactRoomForUptoSaid : Prop := fnExactRoomForUptoRow.holds Try.pinned (OpenSpec.upto fnExactRoomForSpec)

/-- 'laws.FnExactTakePieces', WHERE WHAT IT READS IS OF BULK AT MOST 1048576: true; the input reads as it did. -/
def fnExactTakePiecesUptoRow : OpenClaim := { program := "ytdgglhfnlljmeaa", sum := "a18f3cdb4d528224eda5db919757266e497c58a5ccf11bad34c4a28110a7f5de", func := "loop.example/g01049/laws.FnExactTakePieces", spec := "fnExactTakePieces", apart := false, narrowed := true }
def FnExactTakePiecesUptoSaid : Prop := fnExactTakePiecesUptoRow.holds Try.pinned (OpenSpec.upto fnExactTakePiecesSpec)

/-- 'laws.FnMagazines', WHERE WHAT IT READS IS OF BULK AT MOST 1048576: true; the input reads as it did. -/
def fnMagazinesUptoRow : OpenClaim := { program := "ytdgglhfnlljmeaa", sum := "a18f3cdb4d528224eda5db919757266e497c58a5ccf11bad34c4a28110a7f5de", func := "loop.example/g01049/laws.FnMagazines", spec := "fnMagazines", apart := false, narrowed := true }
def FnMagazinesUptoSaid : Prop := fnMagazinesUptoRow.holds Try.pinned (OpenSpec.upto fnMagazinesSpec)

/-- 'laws.FnMoved', WHERE WHAT IT READS IS OF BULK AT MOST 1048576: true; the input reads as it did. -/
def fnMovedUptoRow : OpenClaim := { program := "ytdgglhfnlljmeaa", sum := "a18f3cdb4d528224eda5db919757266e497c58a5ccf11bad34c4a28110a7f5de", func := "loop.example/g01049/laws.FnMoved", spec := "fnMoved", apart := false, narrowed := true }
def FnMovedUptoSaid : Prop := fnMovedUptoRow.holds Try.pinned (OpenSpec.upto fnMovedSpec)

/-- 'laws.FnExactStorePieces', WHERE WHAT IT READS IS OF BULK AT MOST 1048576: true; the input reads as it did. -/
def fnExactStorePiecesUptoRow : OpenClaim := { program := "ytdgglhfnlljmeaa", sum := "a18f3cdb4d528224eda5db919757266e497c58a5ccf11bad34c4a28110a7f5de", func := "loop.example/g01049/laws.FnExactStorePieces", spec := "fnExactStorePieces", apart := false, narrowed := true }
def FnExactStorePiecesUptoSaid : Prop := fnExactStorePiecesUptoRow.holds Try.pinned (OpenSpec.upto fnExactStorePiecesSpec)

end Rows
end Go.Proofs.Ytdgglhfnlljmeaa
