/- Words that the law FnStops uses (turned from the printed words WInvWords). -/
import Derived.Test.YtddejaomlnldiaaVFnStopsInv
import Derived.Test.YtddejaomlnldiaaVFnStopsFootNe
namespace Go.Proofs.YtddejaomlnldiaaW.PrintWords
open Go.RowKit
end Go.Proofs.YtddejaomlnldiaaW.PrintWords
namespace Go.Proofs.YtddejaomlnldiaaW.PrintLast
section
variable {ops : Array Oper} {a : Act} {o og : Oper} {g : Nat} {t : Tmp} {u : Bool}
end
end Go.Proofs.YtddejaomlnldiaaW.PrintLast
