/- Words that the law FnPeaks uses (turned from the printed words WEqStruct). -/
import Derived.Test.YtjnfimhckeihhaaVFnPeaksWords
import Derived.Laws.StructEq
namespace Go.Proofs.YtjnfimhckeihhaaW.PrintWords
open Go.RowKit
section
variable {P : Program} {d : Nat} {xs ys : Array Value} {f : Field} {fs : List Field} {a b : Value} {r s : Bool} {w : World}
end
end Go.Proofs.YtjnfimhckeihhaaW.PrintWords
