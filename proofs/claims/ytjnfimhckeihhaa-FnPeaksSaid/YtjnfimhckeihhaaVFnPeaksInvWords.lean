/- Words that the law FnPeaks uses (turned from the printed words WInvWords). -/
import Derived.Test.YtjnfimhckeihhaaVFnPeaksInv
import Derived.Test.YtjnfimhckeihhaaVFnPeaksFootNe
namespace Go.Proofs.YtjnfimhckeihhaaW.PrintWords
open Go.RowKit
end Go.Proofs.YtjnfimhckeihhaaW.PrintWords
namespace Go.Proofs.YtjnfimhckeihhaaW.PrintLast
section
variable {ops : Array Oper} {a : Act} {o og : Oper} {g : Nat} {t : Tmp} {u : Bool}
end
end Go.Proofs.YtjnfimhckeihhaaW.PrintLast
