/- Words that the law FnExactMovePieces uses (turned from the printed words WInvWords). -/
import Derived.Test.YtdgglhfnlljmeaaVFnExactMovePiecesInv
import Derived.Test.YtdgglhfnlljmeaaVFnExactMovePiecesFootNe
namespace Go.Proofs.YtdgglhfnlljmeaaW.PrintWords
open Go.RowKit
end Go.Proofs.YtdgglhfnlljmeaaW.PrintWords
namespace Go.Proofs.YtdgglhfnlljmeaaW.PrintLast
section
variable {ops : Array Oper} {a : Act} {o og : Oper} {g : Nat} {t : Tmp} {u : Bool}
end
end Go.Proofs.YtdgglhfnlljmeaaW.PrintLast
