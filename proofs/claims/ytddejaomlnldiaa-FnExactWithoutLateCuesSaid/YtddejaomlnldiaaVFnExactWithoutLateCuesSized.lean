/- Words that the law FnExactWithoutLateCues uses (turned from the printed words WSized). -/
import Derived.SizedLaws
import Derived.ChangeSlices
namespace Go.Proofs.YtddejaomlnldiaaW.PrintWords
open Go.ChangeShapes Go.WideShapes
end Go.Proofs.YtddejaomlnldiaaW.PrintWords
