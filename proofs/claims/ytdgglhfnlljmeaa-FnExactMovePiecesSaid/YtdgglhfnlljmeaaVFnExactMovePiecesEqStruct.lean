/- Words that the law FnExactMovePieces uses (turned from the printed words WEqStruct). -/
import Derived.Test.YtdgglhfnlljmeaaVFnExactMovePiecesWords
import Derived.Laws.StructEq
namespace Go.Proofs.YtdgglhfnlljmeaaW.PrintWords
open Go.RowKit
section
variable {P : Program} {d : Nat} {xs ys : Array Value} {f : Field} {fs : List Field} {a b : Value} {r s : Bool} {w : World}
end
end Go.Proofs.YtdgglhfnlljmeaaW.PrintWords
