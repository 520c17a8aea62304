/- Words that the law FnPeaks uses (turned from the printed words WGuard). -/
import Derived.Test.YtjnfimhckeihhaaVFnPeaksWords
namespace Go.Proofs.YtjnfimhckeihhaaW.PrintWords
open Go.RowKit
section
variable {P : Program} {ops : Array Oper} {rest : List Oper} {o : Oper} {a : Act} {Q : Exit → Act → World → Prop} {W : World}
end
end Go.Proofs.YtjnfimhckeihhaaW.PrintWords
