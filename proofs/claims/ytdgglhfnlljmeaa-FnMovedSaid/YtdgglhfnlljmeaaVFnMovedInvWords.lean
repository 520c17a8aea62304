/- Words that the law FnMoved uses (turned from the printed words WInvWords). -/
import Derived.Test.YtdgglhfnlljmeaaVFnMovedInv
import Derived.Test.YtdgglhfnlljmeaaVFnMovedFootNe
namespace Go.Proofs.YtdgglhfnlljmeaaW.PrintWords
open Go.RowKit
end Go.Proofs.YtdgglhfnlljmeaaW.PrintWords
namespace Go.Proofs.YtdgglhfnlljmeaaW.PrintLast
section
variable {ops : Array Oper} {a : Act} {o og : Oper} {g : Nat} {t : Tmp} {u : Bool}
end
end Go.Proofs.YtdgglhfnlljmeaaW.PrintLast
