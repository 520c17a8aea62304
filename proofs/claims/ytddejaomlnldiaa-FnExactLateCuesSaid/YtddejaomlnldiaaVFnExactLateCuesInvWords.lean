/- Words that the law FnExactLateCues uses (turned from the printed words WInvWords). -/
import Derived.Test.YtddejaomlnldiaaVFnExactLateCuesInv
import Derived.Test.YtddejaomlnldiaaVFnExactLateCuesFootNe
namespace Go.Proofs.YtddejaomlnldiaaW.PrintWords
open Go.RowKit
end Go.Proofs.YtddejaomlnldiaaW.PrintWords
namespace Go.Proofs.YtddejaomlnldiaaW.PrintLast
section
variable {ops : Array Oper} {a : Act} {o og : Oper} {g : Nat} {t : Tmp} {u : Bool}
end
end Go.Proofs.YtddejaomlnldiaaW.PrintLast
