/- Words that the law FnExactStorePieces uses (turned from the printed words WSized). -/
import Derived.SizedLaws
import Derived.ChangeSlices
namespace Go.Proofs.YtdgglhfnlljmeaaW.PrintWords
open Go.ChangeShapes Go.WideShapes
end Go.Proofs.YtdgglhfnlljmeaaW.PrintWords
