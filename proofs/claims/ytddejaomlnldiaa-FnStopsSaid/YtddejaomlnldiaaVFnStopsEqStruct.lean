/- Words that the law FnStops uses (turned from the printed words WEqStruct). -/
import Derived.Test.YtddejaomlnldiaaVFnStopsWords
import Derived.Laws.StructEq
namespace Go.Proofs.YtddejaomlnldiaaW.PrintWords
open Go.RowKit
section
variable {P : Program} {d : Nat} {xs ys : Array Value} {f : Field} {fs : List Field} {a b : Value} {r s : Bool} {w : World}
end
end Go.Proofs.YtddejaomlnldiaaW.PrintWords
