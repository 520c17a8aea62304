/- Words that the law FnTries uses (turned from the printed words WInvWords). -/
import Derived.Test.YthnpffomoaeeoaaVFnTriesInv
import Derived.Test.YthnpffomoaeeoaaVFnTriesFootNe
namespace Go.Proofs.YthnpffomoaeeoaaW.PrintWords
open Go.RowKit
end Go.Proofs.YthnpffomoaeeoaaW.PrintWords
namespace Go.Proofs.YthnpffomoaeeoaaW.PrintLast
section
variable {ops : Array Oper} {a : Act} {o og : Oper} {g : Nat} {t : Tmp} {u : Bool}
end
end Go.Proofs.YthnpffomoaeeoaaW.PrintLast
